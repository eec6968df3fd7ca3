/- The modes of a row below another one, as the reference tells them; no conditions. -/
import Derived.Test.YtknclbodinfbeaaDoorPRunsModesx11
import Derived.Test.YtknclbodinfbeaaDoorQBase
namespace Go.Proofs.YtknclbodinfbeaaDoor.Pure
open Go.RowKit Go.Proofs.YtknclbodinfbeaaDoor.PRunsModes Go.Proofs.YtknclbodinfbeaaDoorW.PrintWords Go.Proofs.YtknclbodinfbeaaDoorW.PrintLast Go.Proofs.YtknclbodinfbeaaDoorW.PrintMore Go.Proofs.YtknclbodinfbeaaDoorW.Pu
set_option linter.unusedVariables false
set_option linter.unusedSimpArgs false
theorem EvP.of {α : Type} {g : Nat → Option α} {r : α} (m : ∀ k, LeO (g k) (g (k + 1))) {k : Nat} (h : g k = some r) : EvP g (· = r) := ⟨r, Ev.of m h, rfl⟩
theorem drop_rd {l : List Int} {i : Int} (h0 : 0 ≤ i) (h1 : i < (l.length : Int)) : l.drop i.toNat = rd l i :: l.drop (i + 1).toNat := by
  have h : i.toNat < l.length := by omega
  rw [show (i + 1).toNat = i.toNat + 1 by omega, List.drop_eq_getElem_cons h]
  congr 1
  have := rd_get l i.toNat h
  rw [show ((i.toNat : Nat) : Int) = i by omega] at this
  exact this.symm
theorem drop_end {l : List Int} {i : Int} (h1 : (l.length : Int) ≤ i) : l.drop i.toNat = [] := List.drop_eq_nil_of_le (by omega)
theorem awake06 : incunablelaw06_Awake.f 200 = some true := by decide +kernel
theorem Awake06_is : EvP (fun k => incunablelaw06_Awake.f k) (· = true) := EvP.of incunablelaw06_Awake.mono awake06

/-- The bits of a run, as the reference makes them. -/
def rbT (n c : Int) : List Int := (incunableref06_RunBits.f 201 n c).getD []
theorem rbT_good : (List.range 201).all (fun n => decide (incunableref06_RunBits.f 201 (n : Int) 0 = some (rbT n 0) ∧ (rbT n 0).length ≤ 64) && decide (incunableref06_RunBits.f 201 (n : Int) 1 = some (rbT n 1) ∧ (rbT n 1).length ≤ 64)) = true := by decide +kernel
theorem rbT_is {n c : Int} (n0 : 0 ≤ n) (n1 : n ≤ 200) (hc : c = 0 ∨ c = 1) : incunableref06_RunBits.f 201 n c = some (rbT n c) ∧ (rbT n c).length ≤ 64 := by
  have g := List.all_eq_true.mp rbT_good n.toNat (List.mem_range.mpr (by omega))
  rw [Bool.and_eq_true, decide_eq_true_iff, decide_eq_true_iff, show ((n.toNat : Nat) : Int) = n by omega] at g
  rcases hc with rfl | rfl
  · exact g.1
  · exact g.2
theorem refRunBits_is {n c : Int} (n0 : 0 ≤ n) (n1 : n ≤ 200) (hc : c = 0 ∨ c = 1) : EvP (fun k => incunableref06_RunBits.f k n c) (· = rbT n c) := EvP.of (fun k => incunableref06_RunBits.mono _ _ k) (rbT_is n0 n1 hc).1

/-- The numbers of a list are those of bytes. -/
def Byt (p : List Int) : Prop := ∀ x ∈ p, 0 ≤ x ∧ x ≤ 255
theorem val_byt {w h : Int} {p : List Int} (v : Val w h p) : Byt p := fun x hx => ⟨(v.2.2.2.2.2.2 x hx).1, by have := (v.2.2.2.2.2.2 x hx).2; omega⟩

theorem wf_byt {p : List Int} (h : ∀ y ∈ p, (Lit.int .u8 y).wf = true) : Byt p := fun x hx => by
  have h1 : (decide (IntKind.u8.min ≤ x) && decide (x ≤ IntKind.u8.max)) = true := h x hx
  obtain ⟨a, b⟩ := Bool.and_eq_true_iff.mp h1
  exact ⟨of_decide_eq_true a, of_decide_eq_true b⟩
theorem wf_i64 {x : Int} (h : (Lit.int .i64 x).wf = true) : -9223372036854775808 ≤ x ∧ x ≤ 9223372036854775807 := by
  have h1 : (decide (IntKind.i64.min ≤ x) && decide (x ≤ IntKind.i64.max)) = true := h
  obtain ⟨a, b⟩ := Bool.and_eq_true_iff.mp h1
  exact ⟨of_decide_eq_true a, of_decide_eq_true b⟩

theorem isRow06_is (l : List Int) (hb : ∀ x ∈ l, 0 ≤ x) (hl : (l.length : Int) ≤ 9223372036854775806) : EvP (fun k => incunablelaw06_isRow.f k l) (· = decide ((l.length : Int) ≤ 200 ∧ ∀ x ∈ l, x ≤ 1)) := by
  unfold incunablelaw06_isRow.f
  refine EvP.ite (fun a => ?_) (fun a => EvP.ret (decide_eq_false (fun z => a z.1)).symm)
  have row : EvP (fun k => incunableref06_IsRow.f k l) (· = decide (∀ x ∈ l, x ≤ 1)) := by
    unfold incunableref06_IsRow.f
    refine EvP.up (L := fun k i (_ : Unit) => incunableref06_IsRow.l0 k l (l.length : Int) i) (fun i _ => 0 ≤ i ∧ ∀ j, 0 ≤ j → j < i → rd l j ≤ 1) l.length ?_ 0 () (by omega) ⟨by omega, fun j a b => by omega⟩
    intro i _ ⟨i0, hi⟩ hn ih
    refine EvP.step (fun k => by rw [incunableref06_IsRow.l0]) ?_
    refine EvP.ite (fun i1 => EvP.pos i0 (EvP.pos i1 (EvP.ite (fun c => EvP.ret ?_) (fun c => ?_)))) (fun i1 => EvP.ret ?_)
    · exact (decide_eq_false (fun z => by have := z _ (rd_mem i0 i1); omega)).symm
    · rw [w64 (x := i + 1) (by omega) (by omega)]
      refine ih () i1 ⟨by omega, fun j a b => ?_⟩
      by_cases z : j = i
      · subst z; omega
      · exact hi j a (by omega)
    · refine (decide_eq_true (fun x hx => ?_)).symm
      obtain ⟨n, hn', rfl⟩ := List.getElem_of_mem hx
      have := hi n (by omega) (by omega)
      rw [rd_get l n hn'] at this
      exact this
  refine EvP.bind row ?_
  rintro _ rfl
  exact EvP.ret (decide_eq_decide.mpr ⟨fun z => ⟨a, z⟩, fun z => z.2⟩)
theorem runsIsRow_is (l : List Int) (hl : (l.length : Int) ≤ 9223372036854775806) : EvP (fun k => runs_isRow.f k l) (· = decide ((l.length : Int) ≤ 200 ∧ ∀ x ∈ l, x ≤ 1)) := by
  unfold runs_isRow.f
  refine EvP.ite (fun a => ?_) (fun a => EvP.ret (decide_eq_false (fun z => a z.1)).symm)
  have row : EvP (fun k => slices_ContainsFunc_byte_byte_65.f k l) (· = decide (¬ ∀ x ∈ l, x ≤ 1)) := by
    unfold slices_ContainsFunc_byte_byte_65.f slices_IndexFunc_byte_byte_65.f
    refine EvP.bind (Q := fun r => (0 ≤ r ↔ ¬ ∀ x ∈ l, x ≤ 1)) ?_ ?_
    · refine EvP.up (L := fun k i (_ : Unit) => slices_IndexFunc_byte_byte_65.l0 k l (l.length : Int) i) (fun i _ => 0 ≤ i ∧ ∀ j, 0 ≤ j → j < i → rd l j ≤ 1) l.length ?_ 0 () (by omega) ⟨by omega, fun j a b => by omega⟩
      intro i _ ⟨i0, hi⟩ hn ih
      refine EvP.step (fun k => by rw [slices_IndexFunc_byte_byte_65.l0]) ?_
      refine EvP.ite (fun i1 => EvP.pos i0 (EvP.pos i1 (EvP.bindv (runs_isRow_1.f.eq_1 _) (EvP.ite (fun c => EvP.ret ?_) (fun c => ?_))))) (fun i1 => EvP.ret ?_)
      · have c := of_decide_eq_true c
        exact ⟨fun _ z => by have := z _ (rd_mem i0 i1); omega, fun _ => i0⟩
      · have c : ¬ rd l i > 1 := fun z => c (decide_eq_true z)
        rw [w64 (x := i + 1) (by omega) (by omega)]
        refine ih () i1 ⟨by omega, fun j a b => ?_⟩
        by_cases z : j = i
        · subst z; omega
        · exact hi j a (by omega)
      · refine ⟨fun z => absurd z (by decide), fun z => absurd (fun x hx => ?_) z⟩
        obtain ⟨n, hn', rfl⟩ := List.getElem_of_mem hx
        have := hi n (by omega) (by omega)
        rw [rd_get l n hn'] at this
        exact this
    · intro r hr
      exact EvP.ret (decide_eq_decide.mpr hr)
  refine EvP.bind row ?_
  rintro _ rfl
  refine EvP.ret ?_
  by_cases z : ∀ x ∈ l, x ≤ 1
  · rw [decide_eq_true (show (l.length : Int) ≤ 200 ∧ ∀ x ∈ l, x ≤ 1 from ⟨a, z⟩), decide_eq_false (fun y => y z)]
    rfl
  · rw [decide_eq_false (show ¬ ((l.length : Int) ≤ 200 ∧ ∀ x ∈ l, x ≤ 1) from fun y => z y.2), decide_eq_true z]
    rfl

theorem bits_pass : EvP (fun k => incunableref06_bitsOf.f k (⟨#[48, 48, 48, 49]⟩ : ByteArray)) (· = [0, 0, 0, 1]) := EvP.of (fun k => incunableref06_bitsOf.mono _ k) (show incunableref06_bitsOf.f 20 (⟨#[48, 48, 48, 49]⟩ : ByteArray) = some [0, 0, 0, 1] by decide +kernel)
theorem bits_flat : EvP (fun k => incunableref06_bitsOf.f k (⟨#[48, 48, 49]⟩ : ByteArray)) (· = [0, 0, 1]) := EvP.of (fun k => incunableref06_bitsOf.mono _ k) (show incunableref06_bitsOf.f 20 (⟨#[48, 48, 49]⟩ : ByteArray) = some [0, 0, 1] by decide +kernel)
/-- The bits of an upright. -/
def upB (d : Int) : List Int := ((incunableref06_upright.f d).bind fun s => incunableref06_bitsOf.f 20 s).getD []
theorem upB_good : (List.range 7).all (fun n => decide (((incunableref06_upright.f ((n : Int) - 3)).bind fun s => incunableref06_bitsOf.f 20 s) = some (upB ((n : Int) - 3)) ∧ (upB ((n : Int) - 3)).length ≤ 64)) = true := by decide +kernel
theorem upB_is {d : Int} (d0 : -3 ≤ d) (d1 : d ≤ 3) : ((incunableref06_upright.f d).bind fun s => incunableref06_bitsOf.f 20 s) = some (upB d) ∧ (upB d).length ≤ 64 := by
  have g := List.all_eq_true.mp upB_good (d + 3).toNat (List.mem_range.mpr (by omega))
  rw [decide_eq_true_iff, show (((d + 3).toNat : Nat) : Int) - 3 = d by omega] at g
  exact g
/-- The name that the program tells of a mode. -/
def nm1 (m : S69) : ByteArray := if m.f0.toList = ([117, 112] : List UInt8) then m.f0 ++ ⟨(itz m.f1).toArray⟩ else m.f0
theorem name_good : (List.range 7).all (fun n => decide (incunableref06_name.f ((n : Int) - 3) = some (nm1 (⟨(⟨#[117, 112]⟩ : ByteArray), (n : Int) - 3, (⟨0, 0⟩ : S67), 0⟩ : S69)))) = true := by decide +kernel
theorem name_is {d : Int} (d0 : -3 ≤ d) (d1 : d ≤ 3) : incunableref06_name.f d = some (nm1 (⟨(⟨#[117, 112]⟩ : ByteArray), d, (⟨0, 0⟩ : S67), 0⟩ : S69)) := by
  have g := List.all_eq_true.mp name_good (d + 3).toNat (List.mem_range.mpr (by omega))
  rw [decide_eq_true_iff, show (((d + 3).toNat : Nat) : Int) - 3 = d by omega] at g
  exact g
theorem nm1_pass : nm1 (⟨(⟨#[112, 97, 115, 115]⟩ : ByteArray), 0, (⟨0, 0⟩ : S67), 0⟩ : S69) = ⟨#[112, 97, 115, 115]⟩ := by decide +kernel
theorem nm1_flat (x y c : Int) : nm1 (⟨(⟨#[102, 108, 97, 116]⟩ : ByteArray), 0, (⟨x, y⟩ : S67), c⟩ : S69) = ⟨#[102, 108, 97, 116]⟩ := if_neg (show ¬ ((⟨#[102, 108, 97, 116]⟩ : ByteArray).toList = ([117, 112] : List UInt8)) by decide +kernel)
/-- A row of pixels. -/
def Px (l : List Int) : Prop := (l.length : Int) ≤ 200 ∧ ∀ y ∈ l, y = 0 ∨ y = 1
theorem Px.at {l : List Int} (h : Px l) {i : Int} (i0 : 0 ≤ i) (i1 : i < (l.length : Int)) : rd l i = 0 ∨ rd l i = 1 := h.2 _ (rd_mem i0 i1)
theorem at_is {l : List Int} (h : Px l) {i : Int} (i0 : 0 ≤ i) (i1 : i < (l.length : Int)) : incunableref06_at.f l i = some (rd l i) := by
  have := h.at i0 i1
  unfold incunableref06_at.f
  rw [if_neg (by omega), if_pos i0, if_pos i1, w64 (by omega) (by omega)]
theorem first_pair {l : List Int} (h : Px l) (c : Int) : ∀ (n : Nat) (x : Int), 0 ≤ x → (l.length : Int) + 1 - x = n → ∃ b : Int, (x ≤ b ∨ b = l.length) ∧ b ≤ l.length ∧ EvP (fun k => runs_change.l0 k l c x) (· = b) ∧ EvP (fun k => incunableref06_first.l0 k l c x) (· = b) := by
  have hl := h.1
  have fin : ∀ x : Int, 0 ≤ x → ¬ x < (l.length : Int) → ∃ b : Int, (x ≤ b ∨ b = l.length) ∧ b ≤ l.length ∧ EvP (fun k => runs_change.l0 k l c x) (· = b) ∧ EvP (fun k => incunableref06_first.l0 k l c x) (· = b) := fun x x0 hx => by
    refine ⟨l.length, .inr rfl, Int.le_refl _, ?_, ?_⟩
    · refine EvP.step (fun k => by rw [runs_change.l0]) (EvP.neg hx (EvP.ret ?_))
      unfold mn
      split <;> omega
    · exact EvP.step (fun k => by rw [incunableref06_first.l0]) (EvP.neg hx (EvP.ret rfl))
  intro n
  induction n with
  | zero => exact fun x x0 hn => fin x x0 (by omega)
  | succ n ih =>
    intro x x0 hn
    by_cases hx : x < (l.length : Int)
    · by_cases e : rd l x = c
      · refine ⟨x, .inl (Int.le_refl _), by omega, ?_, ?_⟩
        · refine EvP.step (fun k => by rw [runs_change.l0]) (EvP.pos hx (EvP.pos x0 (EvP.pos e (EvP.ret ?_))))
          unfold mn
          split <;> omega
        · refine EvP.step (fun k => by rw [incunableref06_first.l0]) (EvP.pos hx (EvP.bindv (at_is h x0 hx) ?_))
          exact EvP.pos e (EvP.ret rfl)
      · obtain ⟨b, h1, h2, h3, h4⟩ := ih (x + 1) (by omega) (by omega)
        refine ⟨b, by omega, h2, ?_, ?_⟩
        · refine EvP.step (fun k => by rw [runs_change.l0]) (EvP.pos hx (EvP.pos x0 (EvP.neg e ?_)))
          rw [w64 (x := x + 1) (by omega) (by omega)]
          exact h3
        · refine EvP.step (fun k => by rw [incunableref06_first.l0]) (EvP.pos hx (EvP.bindv (at_is h x0 hx) (EvP.neg e ?_)))
          rw [w64 (x := x + 1) (by omega) (by omega)]
          exact h4
    · exact fin x x0 hx
/-- The first place behind one. -/
theorem first_behind {l : List Int} (h : Px l) (c a : Int) (a0 : -1 ≤ a) (a1 : a ≤ l.length) : ∃ b : Int, (a < b ∨ b = l.length) ∧ b ≤ l.length ∧ EvP (fun k => runs_change.f k l a c) (· = b) ∧ EvP (fun k => incunableref06_first.f k l a c) (· = b) := by
  have hl := h.1
  obtain ⟨b, h1, h2, h3, h4⟩ := first_pair h c (l.length + 1 - (a + 1)).toNat (a + 1) (by omega) (by omega)
  refine ⟨b, by omega, h2, ?_, ?_⟩
  · unfold runs_change.f
    rw [w64 (x := a + 1) (by omega) (by omega)]
    exact h3
  · unfold incunableref06_first.f
    rw [w64 (x := a + 1) (by omega) (by omega)]
    exact h4
theorem marks_pair {l : List Int} (h : Px l) (c : Int) : ∀ (n : Nat) (x : Int), 0 ≤ x → x ≤ l.length → (l.length : Int) - x = n → ∃ b b2 : Int, x ≤ b ∧ b ≤ l.length ∧ (b < b2 ∨ b2 = l.length) ∧ b2 ≤ l.length ∧
    EvP (fun k => runs_marks.l0 k l c x) (· = (b, b2)) ∧ EvP (fun k => incunableref06_change.l0 k l c x) (· = b) ∧ EvP (fun k => incunableref06_first.f k l b c) (· = b2) := by
  have hl := h.1
  have mnx : ∀ x : Int, x ≤ (l.length : Int) → mn x (l.length : Int) = x := fun x hx => by
    unfold mn
    split <;> omega
  intro n
  induction n with
  | zero =>
    intro x x0 x1 hn
    obtain ⟨b2, h1, h2, h3, h4⟩ := first_behind h c x (by omega) x1
    refine ⟨x, b2, Int.le_refl _, x1, h1, h2, ?_, ?_, h4⟩
    · refine EvP.step (fun k => by rw [runs_marks.l0]) (EvP.neg (by omega) ?_)
      rw [mnx x x1]
      refine EvP.bind h3 ?_
      rintro _ rfl
      exact EvP.ret rfl
    · refine EvP.step (fun k => by rw [incunableref06_change.l0]) (EvP.neg (by omega) (EvP.ret ?_))
      show (l.length : Int) = x
      omega
  | succ n ih =>
    intro x x0 x1 hn
    have hx : x < (l.length : Int) := by omega
    have stop : rd l x ≠ c → (if x > 0 then rd l (x - 1) else 0) = c → ∃ b b2 : Int, x ≤ b ∧ b ≤ l.length ∧ (b < b2 ∨ b2 = l.length) ∧ b2 ≤ l.length ∧
        EvP (fun k => runs_marks.l0 k l c x) (· = (b, b2)) ∧ EvP (fun k => incunableref06_change.l0 k l c x) (· = b) ∧ EvP (fun k => incunableref06_first.f k l b c) (· = b2) := fun e1 e2 => by
      obtain ⟨b2, h1, h2, h3, h4⟩ := first_behind h c x (by omega) x1
      refine ⟨x, b2, Int.le_refl _, x1, h1, h2, ?_, ?_, h4⟩
      · refine EvP.step (fun k => by rw [runs_marks.l0]) (EvP.pos hx ?_)
        have last : EvP (fun k => (runs_change.f k l (mn x (l.length : Int)) c).bind fun t => some (mn x (l.length : Int), t)) (· = (x, b2)) := by
          rw [mnx x x1]
          refine EvP.bind h3 ?_
          rintro _ rfl
          exact EvP.ret rfl
        refine EvP.ite (fun xp => ?_) (fun xn => ?_)
        · rw [if_pos xp] at e2
          rw [w64 (x := x - 1) (by omega) (by omega)]
          exact EvP.pos (by omega) (EvP.pos (by omega) (EvP.pos x0 (EvP.neg e1 (EvP.pos e2 last))))
        · rw [if_neg xn] at e2
          exact EvP.pos x0 (EvP.neg e1 (EvP.pos e2 last))
      · refine EvP.step (fun k => by rw [incunableref06_change.l0]) (EvP.pos hx (EvP.bindv (at_is h x0 hx) (EvP.neg e1 ?_)))
        rw [w64 (x := x - 1) (by omega) (by omega)]
        by_cases xp : x > 0
        · rw [if_pos xp] at e2
          refine EvP.bindv (at_is h (by omega) (by omega)) ?_
          exact EvP.pos e2 (EvP.ret rfl)
        · rw [if_neg xp] at e2
          refine EvP.bindv (a := 0) ?_ ?_
          · unfold incunableref06_at.f
            rw [if_pos (by omega)]
          · exact EvP.pos e2 (EvP.ret rfl)
    have on : (rd l x = c ∨ (if x > 0 then rd l (x - 1) else 0) ≠ c) → ∃ b b2 : Int, x ≤ b ∧ b ≤ l.length ∧ (b < b2 ∨ b2 = l.length) ∧ b2 ≤ l.length ∧
        EvP (fun k => runs_marks.l0 k l c x) (· = (b, b2)) ∧ EvP (fun k => incunableref06_change.l0 k l c x) (· = b) ∧ EvP (fun k => incunableref06_first.f k l b c) (· = b2) := fun e => by
      obtain ⟨b, b2, g1, g2, g3, g4, g5, g6, g7⟩ := ih (x + 1) (by omega) (by omega) (by omega)
      refine ⟨b, b2, by omega, g2, g3, g4, ?_, ?_, g7⟩
      · refine EvP.step (fun k => by rw [runs_marks.l0]) (EvP.pos hx ?_)
        rw [w64 (x := x + 1) (by omega) (by omega)]
        refine EvP.ite (fun xp => ?_) (fun xn => ?_)
        · rw [if_pos xp] at e
          rw [w64 (x := x - 1) (by omega) (by omega)]
          exact EvP.pos (by omega) (EvP.pos (by omega) (EvP.pos x0 (EvP.ite (fun _ => g5) (fun e1 => EvP.neg (e.resolve_left e1) g5))))
        · rw [if_neg xn] at e
          exact EvP.pos x0 (EvP.ite (fun _ => g5) (fun e1 => EvP.neg (e.resolve_left e1) g5))
      · refine EvP.step (fun k => by rw [incunableref06_change.l0]) (EvP.pos hx (EvP.bindv (at_is h x0 hx) ?_))
        rw [w64 (x := x + 1) (by omega) (by omega), w64 (x := x - 1) (by omega) (by omega)]
        refine EvP.ite (fun _ => g6) (fun e1 => ?_)
        have e2 := e.resolve_left e1
        by_cases xp : x > 0
        · rw [if_pos xp] at e2
          exact EvP.bindv (at_is h (by omega) (by omega)) (EvP.neg e2 g6)
        · rw [if_neg xp] at e2
          refine EvP.bindv (a := 0) ?_ (EvP.neg e2 g6)
          unfold incunableref06_at.f
          rw [if_pos (by omega)]
    by_cases e1 : rd l x = c
    · exact on (.inl e1)
    · by_cases e2 : (if x > 0 then rd l (x - 1) else 0) = c
      · exact stop e1 e2
      · exact on (.inr e2)
theorem marks_is {l : List Int} (h : Px l) (c a : Int) (a0 : -1 ≤ a) (a1 : a < l.length) : ∃ b b2 : Int, a < b ∧ b ≤ l.length ∧ (b < b2 ∨ b2 = l.length) ∧ b2 ≤ l.length ∧
    EvP (fun k => runs_marks.f k l a c) (· = (b, b2)) ∧ EvP (fun k => incunableref06_change.f k l a c) (· = b) ∧ EvP (fun k => incunableref06_first.f k l b c) (· = b2) := by
  have hl := h.1
  obtain ⟨b, b2, g1, g2, g3, g4, g5, g6, g7⟩ := marks_pair h c (l.length - (a + 1)).toNat (a + 1) (by omega) (by omega) (by omega)
  refine ⟨b, b2, by omega, g2, g3, g4, ?_, ?_, g7⟩
  · unfold runs_marks.f
    rw [w64 (x := a + 1) (by omega) (by omega)]
    exact g5
  · unfold incunableref06_change.f
    rw [w64 (x := a + 1) (by omega) (by omega)]
    exact g6

theorem choice_j0_up {row : List Int} {a c a1 d : Int} (d0 : -3 ≤ d) (d1 : d ≤ 3) (hc : c = 0 ∨ c = 1) :
    EvP (fun k => incunableref06_Choice.j0 k row a c a1 d true) (· = (nm1 (⟨(⟨#[117, 112]⟩ : ByteArray), d, (⟨0, 0⟩ : S67), 0⟩ : S69), upB d, a1, 1 - c)) := by
  refine EvP.step (fun k => by rw [incunableref06_Choice.j0]) (EvP.pos rfl (EvP.bindv (name_is d0 d1) ?_))
  obtain ⟨s, hs, hb⟩ := Option.bind_eq_some_iff.mp (upB_is d0 d1).1
  refine EvP.bindv hs ?_
  refine EvP.bind (EvP.of (fun k => incunableref06_bitsOf.mono _ k) hb) ?_
  rintro _ rfl
  rw [w64 (x := 1 - c) (by omega) (by omega)]
  exact EvP.ret rfl
theorem choice_j0_flat {row : List Int} (h : Px row) {a c a1 a2 d : Int} (hc : c = 0 ∨ c = 1) (h0 : -1 ≤ a) (h1 : a < a1) (h2 : a1 ≤ row.length) (h3 : a1 < a2 ∨ a2 = row.length) (h4 : a2 ≤ row.length)
    (hf : EvP (fun k => incunableref06_first.f k row a1 c) (· = a2)) : ∃ B : List Int, EvP (fun k => incunableref06_Choice.j0 k row a c a1 d false) (· = ((⟨#[102, 108, 97, 116]⟩ : ByteArray), B, a2, c)) := by
  have hl := h.1
  have hm : mx a 0 = max a 0 := by unfold mx; omega
  refine ⟨([0, 0, 1] ++ rbT (a1 - max a 0) c) ++ rbT (a2 - a1) (1 - c), ?_⟩
  refine EvP.step (fun k => by rw [incunableref06_Choice.j0]) (EvP.neg (by decide) ?_)
  refine EvP.bind hf ?_
  intro r_ hr_
  rw [show r_ = a2 from hr_]
  clear hr_
  refine EvP.bind bits_flat ?_
  rintro _ rfl
  have g1 := rbT_is (n := a1 - max a 0) (c := c) (by omega) (by omega) hc
  have g2 := rbT_is (n := a2 - a1) (c := 1 - c) (by omega) (by omega) (by omega)
  rw [hm, w64 (x := a1 - max a 0) (by omega) (by omega), w64 (x := a2 - a1) (by omega) (by omega), w64 (x := 1 - c) (by omega) (by omega)]
  refine EvP.bind (refRunBits_is (by omega) (by omega) hc) ?_
  rintro _ rfl
  refine EvP.pos (by simp; omega) ?_
  refine EvP.bindv rfl ?_
  refine EvP.bind (refRunBits_is (by omega) (by omega) (by omega)) ?_
  rintro _ rfl
  refine EvP.pos (by simp; omega) (EvP.ret rfl)
theorem modes_pair {above row : List Int} (ha : Px above) (hr : Px row) (he : above.length = row.length) : ∀ (n : Nat) (a c : Int) (o1 : List S69) (o2 : List S37), -1 ≤ a → a ≤ row.length → (c = 0 ∨ c = 1) → (row.length : Int) - a ≤ n → o1.length + n ≤ 500 → o2.length + n ≤ 500 →
    ∃ (d1 : List S69) (d2 : List S37), d1.length ≤ n ∧ EvP (fun k => runs_modes.l0 k above row o1 a c row.length) (· = o1 ++ d1) ∧ EvP (fun k => incunableref06_Modes.l0 k above row o2 a c) (· = o2 ++ d2) ∧ d1.map nm1 = d2.map (·.f0) ∧ ∀ m ∈ d1, -3 ≤ m.f1 ∧ m.f1 ≤ 3 := by
  have hl := hr.1
  intro n
  have fin : ∀ (n : Nat) (a c : Int) (o1 : List S69) (o2 : List S37), (¬ a < (row.length : Int) ∨ ¬ (row.length : Int) > 0) → ∃ (d1 : List S69) (d2 : List S37), d1.length ≤ n ∧ EvP (fun k => runs_modes.l0 k above row o1 a c row.length) (· = o1 ++ d1) ∧ EvP (fun k => incunableref06_Modes.l0 k above row o2 a c) (· = o2 ++ d2) ∧ d1.map nm1 = d2.map (·.f0) ∧ ∀ m ∈ d1, -3 ≤ m.f1 ∧ m.f1 ≤ 3 := fun n a c o1 o2 h => by
    refine ⟨[], [], Nat.zero_le _, ?_, ?_, rfl, fun m hm => by cases hm⟩
    · rw [List.append_nil]
      have no : EvP (fun k => runs_modes.j1 k above row o1 a c row.length false) (· = o1) := EvP.step (fun k => by rw [runs_modes.j1]) (EvP.neg (by decide) (EvP.ret rfl))
      refine EvP.step (fun k => by rw [runs_modes.l0]) (EvP.ite (fun z => ?_) (fun _ => no))
      rw [decide_eq_false (h.resolve_left (fun y => y z))]
      exact no
    · rw [List.append_nil]
      refine EvP.step (fun k => by rw [incunableref06_Modes.l0]) (EvP.ite (fun z => EvP.neg (h.resolve_right (fun y => y z)) (EvP.ret rfl)) (fun _ => EvP.ret rfl))
  induction n with
  | zero => exact fun a c o1 o2 a0 a1 hc hn _ _ => fin _ a c o1 o2 (by omega)
  | succ n ih =>
    intro a c o1 o2 a0 a1 hc hn n1 n2
    by_cases h : a < (row.length : Int) ∧ (row.length : Int) > 0
    · obtain ⟨b, b2, g1, g2, g3, g4, g5, g6, g7⟩ := marks_is ha c a a0 (by omega)
      rw [he] at g2 g3 g4
      obtain ⟨x, x1, x2, x3, x4⟩ := first_behind hr (1 - c) a a0 (by omega)
      have ex : a < x := by omega
      have e256 : (1 - c) % 256 = 1 - c := by omega
      have c64 : wrap64 (1 - c) = 1 - c := w64 (by omega) (by omega)
      have d64 : wrap64 (x - b) = x - b := w64 (by omega) (by omega)
      -- one round: what is put down, and where it leads
      have round : ∀ (m1 : S69) (m2 : S37) (a' c' : Int), a < a' → a' ≤ row.length → (c' = 0 ∨ c' = 1) → nm1 m1 = m2.f0 → -3 ≤ m1.f1 → m1.f1 ≤ 3 →
          ((EvP (fun k => if o1.length < 2932031007402 then runs_modes.l0 k above row (o1 ++ [m1]) a' c' row.length else none) (fun r => ∃ d1, r = o1 ++ m1 :: d1) → True)) →
          (∀ P : List S69 → Prop, EvP (fun k => if o1.length < 2932031007402 then runs_modes.l0 k above row (o1 ++ [m1]) a' c' row.length else none) P → EvP (fun k => runs_modes.l0 k above row o1 a c row.length) P) →
          (∀ P : List S37 → Prop, EvP (fun k => if o2.length < 2513169434916 then incunableref06_Modes.l0 k above row (o2 ++ [m2]) a' c' else none) P → EvP (fun k => incunableref06_Modes.l0 k above row o2 a c) P) →
          ∃ (d1 : List S69) (d2 : List S37), d1.length ≤ n + 1 ∧ EvP (fun k => runs_modes.l0 k above row o1 a c row.length) (· = o1 ++ d1) ∧ EvP (fun k => incunableref06_Modes.l0 k above row o2 a c) (· = o2 ++ d2) ∧ d1.map nm1 = d2.map (·.f0) ∧ ∀ m ∈ d1, -3 ≤ m.f1 ∧ m.f1 ≤ 3 := by
        intro m1 m2 a' c' h1 h2 h3 h4 h5 h6 _ p1 p2
        obtain ⟨d1, d2, q1, q2, q3, q4, q5⟩ := ih a' c' (o1 ++ [m1]) (o2 ++ [m2]) (by omega) h2 h3 (by omega) (by rw [List.length_append]; show o1.length + 1 + n ≤ 500; omega) (by rw [List.length_append]; show o2.length + 1 + n ≤ 500; omega)
        refine ⟨m1 :: d1, m2 :: d2, Nat.succ_le_succ q1, p1 _ (EvP.pos (by omega) ?_), p2 _ (EvP.pos (by omega) ?_), ?_, ?_⟩
        · rw [show o1 ++ m1 :: d1 = o1 ++ [m1] ++ d1 by simp]
          exact q2
        · rw [show o2 ++ m2 :: d2 = o2 ++ [m2] ++ d2 by simp]
          exact q3
        · rw [List.map_cons, List.map_cons, h4, q4]
        · intro m hm
          rcases List.mem_cons.mp hm with rfl | hm
          · exact ⟨h5, h6⟩
          · exact q5 m hm
      have prog : ∀ (P : List S69 → Prop), EvP (fun k => if b2 < x then (if o1.length < 2932031007402 then (runs_modes.l0 k above row (o1 ++ [(⟨(⟨#[112, 97, 115, 115]⟩ : ByteArray), 0, (⟨0, 0⟩ : S67), 0⟩ : S69)]) b2 c row.length) else (none)) else (if x - b ≥ (-3) then (if x - b ≤ 3 then (if o1.length < 2932031007402 then (runs_modes.l0 k above row (o1 ++ [(⟨(⟨#[117, 112]⟩ : ByteArray), x - b, (⟨0, 0⟩ : S67), 0⟩ : S69)]) x (1 - c) row.length) else (none)) else ((runs_change.f k row x c).bind fun t229 => (if o1.length < 2932031007402 then (runs_modes.l0 k above row (o1 ++ [(⟨(⟨#[102, 108, 97, 116]⟩ : ByteArray), 0, (⟨wrap64 (x - (mx a 0)), wrap64 (t229 - x)⟩ : S67), wrap64 (c)⟩ : S69)]) t229 c row.length) else (none)))) else ((runs_change.f k row x c).bind fun t233 => (if o1.length < 2932031007402 then (runs_modes.l0 k above row (o1 ++ [(⟨(⟨#[102, 108, 97, 116]⟩ : ByteArray), 0, (⟨wrap64 (x - (mx a 0)), wrap64 (t233 - x)⟩ : S67), wrap64 (c)⟩ : S69)]) t233 c row.length) else (none))))) P → EvP (fun k => runs_modes.l0 k above row o1 a c row.length) P := by
        intro P hp
        refine EvP.step (fun k => by rw [runs_modes.l0]) (EvP.pos h.1 ?_)
        refine EvP.step (fun k => by rw [runs_modes.j1]) (EvP.pos (decide_eq_true h.2) ?_)
        refine EvP.bind g5 ?_
        rintro _ rfl
        rw [e256]
        refine EvP.bind x3 ?_
        rintro _ rfl
        rw [d64]
        exact hp
      have ref : ∀ (m : S37) (P : List S37 → Prop), EvP (fun k => incunableref06_Choice.f k above row a c) (· = (m.f0, m.f1, m.f2, m.f3)) → EvP (fun k => if o2.length < 2513169434916 then incunableref06_Modes.l0 k above row (o2 ++ [m]) m.f2 m.f3 else none) P → EvP (fun k => incunableref06_Modes.l0 k above row o2 a c) P := by
        intro m P hm hp
        refine EvP.step (fun k => by rw [incunableref06_Modes.l0]) (EvP.pos h.2 (EvP.pos h.1 ?_))
        refine EvP.bind hm ?_
        rintro _ rfl
        exact hp
      have choice : ∀ (P : ByteArray × List Int × Int × Int → Prop), EvP (fun k => if b2 < x then ((incunableref06_bitsOf.f k (⟨#[48, 48, 48, 49]⟩ : ByteArray)).bind fun t358 => (some ((⟨#[112, 97, 115, 115]⟩ : ByteArray), t358, b2, c))) else (if x - b ≥ (-3) then (incunableref06_Choice.j0 k row a c x (x - b) (decide (x - b ≤ 3))) else (incunableref06_Choice.j0 k row a c x (x - b) false))) P → EvP (fun k => incunableref06_Choice.f k above row a c) P := by
        intro P hp
        unfold incunableref06_Choice.f
        refine EvP.bind g6 ?_
        rintro _ rfl
        refine EvP.bind g7 ?_
        rintro _ rfl
        rw [c64]
        refine EvP.bind x4 ?_
        rintro _ rfl
        rw [d64]
        exact hp
      by_cases k1 : b2 < x
      · refine round (⟨(⟨#[112, 97, 115, 115]⟩ : ByteArray), 0, (⟨0, 0⟩ : S67), 0⟩ : S69) (⟨(⟨#[112, 97, 115, 115]⟩ : ByteArray), [0, 0, 0, 1], b2, c⟩ : S37) b2 c (by omega) g4 hc nm1_pass (by decide) (by decide) (fun _ => trivial) (fun P hp => prog P (EvP.pos k1 hp)) (fun P hp => ref _ P ?_ hp)
        refine choice _ (EvP.pos k1 ?_)
        refine EvP.bind bits_pass ?_
        rintro _ rfl
        exact EvP.ret rfl
      · by_cases k2 : x - b ≥ -3 ∧ x - b ≤ 3
        · refine round (⟨(⟨#[117, 112]⟩ : ByteArray), x - b, (⟨0, 0⟩ : S67), 0⟩ : S69) (⟨nm1 (⟨(⟨#[117, 112]⟩ : ByteArray), x - b, (⟨0, 0⟩ : S67), 0⟩ : S69), upB (x - b), x, 1 - c⟩ : S37) x (1 - c) ex x2 (by omega) rfl k2.1 k2.2 (fun _ => trivial) (fun P hp => prog P (EvP.neg k1 (EvP.pos k2.1 (EvP.pos k2.2 hp)))) (fun P hp => ref _ P ?_ hp)
          refine choice _ (EvP.neg k1 (EvP.pos k2.1 ?_))
          rw [decide_eq_true k2.2]
          exact choice_j0_up k2.1 k2.2 hc
        · obtain ⟨y, y1, y2, y3, y4⟩ := first_behind hr c x (by omega) x2
          obtain ⟨B, hB⟩ := choice_j0_flat (d := x - b) hr hc a0 ex x2 y1 y2 y4
          refine round (⟨(⟨#[102, 108, 97, 116]⟩ : ByteArray), 0, (⟨wrap64 (x - (mx a 0)), wrap64 (y - x)⟩ : S67), wrap64 (c)⟩ : S69) (⟨(⟨#[102, 108, 97, 116]⟩ : ByteArray), B, y, c⟩ : S37) y c (by omega) y2 hc (nm1_flat _ _ _) (show (-3 : Int) ≤ 0 by decide) (show (0 : Int) ≤ 3 by decide) (fun _ => trivial) (fun P hp => prog P (EvP.neg k1 ?_)) (fun P hp => ref _ P ?_ hp)
          · have go : EvP (fun k => (runs_change.f k row x c).bind fun t229 => (if o1.length < 2932031007402 then (runs_modes.l0 k above row (o1 ++ [(⟨(⟨#[102, 108, 97, 116]⟩ : ByteArray), 0, (⟨wrap64 (x - (mx a 0)), wrap64 (t229 - x)⟩ : S67), wrap64 (c)⟩ : S69)]) t229 c row.length) else (none))) P := by
              refine EvP.bind y3 ?_
              rintro _ rfl
              exact hp
            exact EvP.ite (fun z => EvP.neg (fun w => k2 ⟨z, w⟩) go) (fun _ => go)
          · refine choice _ (EvP.neg k1 (EvP.ite (fun z => ?_) (fun _ => hB)))
            rw [decide_eq_false (fun w => k2 ⟨z, w⟩)]
            exact hB
    · exact fin _ a c o1 o2 (by omega)
theorem rdOf_at {α : Type} (d : α) (l : List α) (i : Nat) (h : i < l.length) : rdOf d l (i : Int) = l[i] := by simp [rdOf, List.getD, h]
theorem names_is (l : List S69) (hl : l.length ≤ 500) (hd : ∀ m ∈ l, -3 ≤ m.f1 ∧ m.f1 ≤ 3) : EvP (fun k => runs_Modes.l0 k ([] : List ByteArray) l (l.length : Int) 0) (· = (l.map nm1, 0)) := by
  have key : ∀ (n : Nat) (i : Nat), i + n = l.length → EvP (fun k => runs_Modes.l0 k ((l.take i).map nm1) l (l.length : Int) (i : Int)) (· = (l.map nm1, 0)) := by
    intro n
    induction n with
    | zero =>
      intro i hi
      refine EvP.step (fun k => by rw [runs_Modes.l0]) (EvP.neg (by omega) (EvP.ret ?_))
      rw [List.take_of_length_le (by omega)]
    | succ n ih =>
      intro i hi
      have hlt : i < l.length := by omega
      have e : rd_T69 l (i : Int) = l[i] := by simp [rd_T69, List.getD, hlt]
      have hm := hd l[i] (List.getElem_mem hlt)
      have go := ih (i + 1) (by omega)
      rw [List.take_succ_eq_append_getElem hlt, List.map_append, List.map_singleton] at go
      refine EvP.step (fun k => by rw [runs_Modes.l0]) (EvP.pos (by omega) (EvP.pos (by omega) (EvP.pos (by omega) ?_)))
      rw [e, w64 (x := (i : Int) + 1) (by omega) (by omega)]
      have len : ((l.take i).map nm1).length < 8796093022208 := by rw [List.length_map, List.length_take]; omega
      refine EvP.ite (fun z => ?_) (fun z => ?_)
      · refine EvP.bindv (a := ⟨(itz l[i].f1).toArray⟩) ?_ ?_
        · unfold strconv_Itoa_42.f
          rw [if_pos (by omega), if_pos (by omega)]
        · have sz : l[i].f0.size + (⟨(itz l[i].f1).toArray⟩ : ByteArray).size ≤ 9223372036854775807 := by
            have e1 : l[i].f0.size = 2 := by
              have := congrArg List.length z
              rw [ByteArray.toList_eq] at this
              simpa using this
            have e2 : (⟨(itz l[i].f1).toArray⟩ : ByteArray).size ≤ 2 := by
              show (itz l[i].f1).toArray.size ≤ 2
              unfold itz
              rw [if_pos (by omega), if_pos (by omega)]
              split
              · exact Nat.le_refl 2
              · show 1 ≤ 2
                omega
            omega
          refine EvP.pos sz (EvP.pos len ?_)
          rw [show nm1 l[i] = l[i].f0 ++ ⟨(itz l[i].f1).toArray⟩ from if_pos z] at go
          exact go
      · refine EvP.pos len ?_
        rw [show nm1 l[i] = l[i].f0 from if_neg z] at go
        exact go
  exact key l.length 0 (by omega)
theorem RunsModes : incunablelaw06_RunsModes.Pure := by
  intro p q hp hq
  have hp1 : (p.length : Int) ≤ 9223372036854775806 := by have := hp.2.1; omega
  have hq1 : (q.length : Int) ≤ 9223372036854775806 := by have := hq.2.1; omega
  have pb : ∀ x ∈ p, 0 ≤ x := fun x hx => (wf_byt hp.2.2 x hx).1
  have qb : ∀ x ∈ q, 0 ≤ x := fun x hx => (wf_byt hq.2.2 x hx).1
  refine EvP.rounds ?_
  unfold incunablelaw06_RunsModes.f runs_Modes.f
  have aw : EvP (fun k => (incunablelaw06_Awake.f k).bind fun t398 => (some t398)) (· = true) := by
    refine EvP.bind Awake06_is ?_
    rintro _ rfl
    exact EvP.ret rfl
  have badP : EvP (fun k => runs_Modes.j0 k p q true) (· = ([], 2)) := by
    refine EvP.step (fun k => by rw [runs_Modes.j0]) ?_
    exact EvP.pos rfl (EvP.ret rfl)
  have badL : EvP (fun k => incunablelaw06_RunsModes.j0 k p q [] 2 true) (· = true) := by
    refine EvP.step (fun k => by rw [incunablelaw06_RunsModes.j0]) ?_
    exact EvP.pos rfl (EvP.pos rfl (EvP.pos rfl aw))
  by_cases okp : (p.length : Int) ≤ 200 ∧ ∀ x ∈ p, x ≤ 1
  · by_cases okq : (q.length : Int) ≤ 200 ∧ ∀ x ∈ q, x ≤ 1
    · by_cases e : p.length = q.length
      · have hP : Px p := ⟨okp.1, fun y hy => by have := pb y hy; have := okp.2 y hy; omega⟩
        have hQ : Px q := ⟨okq.1, fun y hy => by have := qb y hy; have := okq.2 y hy; omega⟩
        have hlq := okq.1
        obtain ⟨d1, d2, q1, q2, q3, q4, q5⟩ := modes_pair hP hQ e 201 (-1) 0 [] [] (by omega) (by omega) (.inl rfl) (by omega) (by decide) (by decide)
        rw [List.nil_append] at q2 q3
        refine EvP.bind (Q := (· = (d1.map nm1, 0))) ?_ ?_
        · refine EvP.bind (runsIsRow_is p hp1) ?_
          rintro _ rfl
          refine EvP.pos (decide_eq_true okp) ?_
          refine EvP.bind (runsIsRow_is q hq1) ?_
          rintro _ rfl
          refine EvP.pos (decide_eq_true okq) ?_
          rw [show ((p.length : Int) != (q.length : Int)) = false by simp [e]]
          refine EvP.step (fun k => by rw [runs_Modes.j0]) (EvP.neg (by decide) ?_)
          refine EvP.bind (Q := (· = d1)) ?_ ?_
          · unfold runs_modes.f
            exact q2
          · rintro _ rfl
            exact names_is _ (by omega) q5
        · rintro _ rfl
          refine EvP.bind (isRow06_is p pb hp1) ?_
          rintro _ rfl
          refine EvP.pos (decide_eq_true okp) ?_
          refine EvP.bind (isRow06_is q qb hq1) ?_
          rintro _ rfl
          refine EvP.pos (decide_eq_true okq) ?_
          rw [show ((p.length : Int) != (q.length : Int)) = false by simp [e]]
          refine EvP.step (fun k => by rw [incunablelaw06_RunsModes.j0]) (EvP.neg (by decide) ?_)
          have hlen : d1.length = d2.length := by
            have := congrArg List.length q4
            rwa [List.length_map, List.length_map] at this
          refine EvP.bind (Q := (· = d2)) ?_ ?_
          · unfold incunableref06_Modes.f
            exact q3
          intro r_ hr_
          rw [show r_ = d2 from hr_]
          clear hr_
          refine EvP.pos rfl ?_
          rw [show (((d1.map nm1).length : Int) != (d2.length : Int)) = false by simp [hlen]]
          refine EvP.step (fun k => by rw [incunablelaw06_RunsModes.j1]) (EvP.neg (by decide) ?_)
          refine EvP.up (L := fun k i (_ : Unit) => incunablelaw06_RunsModes.l0 k (d1.map nm1) d2 (d2.length : Int) i) (fun i _ => 0 ≤ i) d2.length ?_ 0 () (by omega) (by omega)
          intro i _ i0 hn ih
          refine EvP.step (fun k => by rw [incunablelaw06_RunsModes.l0]) (EvP.ite (fun i1 => ?_) (fun _ => aw))
          have hi2 : i.toNat < d2.length := by omega
          have hi1 : i.toNat < d1.length := by omega
          have same : (rdOf ByteArray.empty (d1.map nm1) i).toList = ((rd_T37 d2 i).f0).toList := by
            obtain ⟨j, rfl⟩ : ∃ j : Nat, i = j := ⟨i.toNat, by omega⟩
            have hj : j < d2.length := by omega
            rw [q4, rdOf_at _ _ j (by rw [List.length_map]; omega), List.getElem_map]
            congr 2
            simp [rd_T37, List.getD, hj]
          refine EvP.pos i0 (EvP.pos i1 (EvP.pos (by rw [List.length_map]; omega) (EvP.pos same ?_)))
          rw [w64 (x := i + 1) (by omega) (by omega)]
          exact ih () i1 (by omega)
      · refine EvP.bind (Q := (· = ([], 2))) ?_ ?_
        · refine EvP.bind (runsIsRow_is p hp1) ?_
          rintro _ rfl
          refine EvP.pos (decide_eq_true okp) ?_
          refine EvP.bind (runsIsRow_is q hq1) ?_
          rintro _ rfl
          refine EvP.pos (decide_eq_true okq) ?_
          rw [show ((p.length : Int) != (q.length : Int)) = true by simp; omega]
          exact badP
        · rintro _ rfl
          refine EvP.bind (isRow06_is p pb hp1) ?_
          rintro _ rfl
          refine EvP.pos (decide_eq_true okp) ?_
          refine EvP.bind (isRow06_is q qb hq1) ?_
          rintro _ rfl
          refine EvP.pos (decide_eq_true okq) ?_
          rw [show ((p.length : Int) != (q.length : Int)) = true by simp; omega]
          exact badL
    · refine EvP.bind (Q := (· = ([], 2))) ?_ ?_
      · refine EvP.bind (runsIsRow_is p hp1) ?_
        rintro _ rfl
        refine EvP.pos (decide_eq_true okp) ?_
        refine EvP.bind (runsIsRow_is q hq1) ?_
        rintro _ rfl
        rw [decide_eq_false okq]
        exact EvP.neg (by decide) badP
      · rintro _ rfl
        refine EvP.bind (isRow06_is p pb hp1) ?_
        rintro _ rfl
        refine EvP.pos (decide_eq_true okp) ?_
        refine EvP.bind (isRow06_is q qb hq1) ?_
        rintro _ rfl
        rw [decide_eq_false okq]
        exact EvP.neg (by decide) badL
  · refine EvP.bind (Q := (· = ([], 2))) ?_ ?_
    · refine EvP.bind (runsIsRow_is p hp1) ?_
      rintro _ rfl
      rw [decide_eq_false okp]
      exact EvP.neg (by decide) badP
    · rintro _ rfl
      refine EvP.bind (isRow06_is p pb hp1) ?_
      rintro _ rfl
      rw [decide_eq_false okp]
      exact EvP.neg (by decide) badL

end Go.Proofs.YtknclbodinfbeaaDoor.Pure
