/- The codes of any bitmap in one dimension and in two, as the reference tells them; no conditions. -/
import Derived.Test.YtknclbodinfbeaaDoorPRunsCodesx16
import Derived.Test.YtknclbodinfbeaaDoorQBase
namespace Go.Proofs.YtknclbodinfbeaaDoor.Pure
open Go.RowKit Go.Proofs.YtknclbodinfbeaaDoor.PRunsCodes Go.Proofs.YtknclbodinfbeaaDoorW.PrintWords Go.Proofs.YtknclbodinfbeaaDoorW.PrintLast Go.Proofs.YtknclbodinfbeaaDoorW.PrintMore Go.Proofs.YtknclbodinfbeaaDoorW.Pu
set_option linter.unusedVariables false
set_option linter.unusedSimpArgs false
theorem EvP.of {α : Type} {g : Nat → Option α} {r : α} (m : ∀ k, LeO (g k) (g (k + 1))) {k : Nat} (h : g k = some r) : EvP g (· = r) := ⟨r, Ev.of m h, rfl⟩
theorem drop_rd {l : List Int} {i : Int} (h0 : 0 ≤ i) (h1 : i < (l.length : Int)) : l.drop i.toNat = rd l i :: l.drop (i + 1).toNat := by
  have h : i.toNat < l.length := by omega
  rw [show (i + 1).toNat = i.toNat + 1 by omega, List.drop_eq_getElem_cons h]
  congr 1
  have := rd_get l i.toNat h
  rw [show ((i.toNat : Nat) : Int) = i by omega] at this
  exact this.symm
theorem drop_end {l : List Int} {i : Int} (h1 : (l.length : Int) ≤ i) : l.drop i.toNat = [] := List.drop_eq_nil_of_le (by omega)
theorem awake06 : incunablelaw06_Awake.f 200 = some true := by decide +kernel
theorem Awake06_is : EvP (fun k => incunablelaw06_Awake.f k) (· = true) := EvP.of incunablelaw06_Awake.mono awake06

/-- The bits of a run, as the reference makes them. -/
def rbT (n c : Int) : List Int := (incunableref06_RunBits.f 201 n c).getD []
theorem rbT_good : (List.range 201).all (fun n => decide (incunableref06_RunBits.f 201 (n : Int) 0 = some (rbT n 0) ∧ (rbT n 0).length ≤ 64) && decide (incunableref06_RunBits.f 201 (n : Int) 1 = some (rbT n 1) ∧ (rbT n 1).length ≤ 64)) = true := by decide +kernel
theorem rbT_is {n c : Int} (n0 : 0 ≤ n) (n1 : n ≤ 200) (hc : c = 0 ∨ c = 1) : incunableref06_RunBits.f 201 n c = some (rbT n c) ∧ (rbT n c).length ≤ 64 := by
  have g := List.all_eq_true.mp rbT_good n.toNat (List.mem_range.mpr (by omega))
  rw [Bool.and_eq_true, decide_eq_true_iff, decide_eq_true_iff, show ((n.toNat : Nat) : Int) = n by omega] at g
  rcases hc with rfl | rfl
  · exact g.1
  · exact g.2
theorem refRunBits_is {n c : Int} (n0 : 0 ≤ n) (n1 : n ≤ 200) (hc : c = 0 ∨ c = 1) : EvP (fun k => incunableref06_RunBits.f k n c) (· = rbT n c) := EvP.of (fun k => incunableref06_RunBits.mono _ _ k) (rbT_is n0 n1 hc).1

theorem bits_pass : EvP (fun k => incunableref06_bitsOf.f k (⟨#[48, 48, 48, 49]⟩ : ByteArray)) (· = [0, 0, 0, 1]) := EvP.of (fun k => incunableref06_bitsOf.mono _ k) (show incunableref06_bitsOf.f 20 (⟨#[48, 48, 48, 49]⟩ : ByteArray) = some [0, 0, 0, 1] by decide +kernel)
theorem bits_flat : EvP (fun k => incunableref06_bitsOf.f k (⟨#[48, 48, 49]⟩ : ByteArray)) (· = [0, 0, 1]) := EvP.of (fun k => incunableref06_bitsOf.mono _ k) (show incunableref06_bitsOf.f 20 (⟨#[48, 48, 49]⟩ : ByteArray) = some [0, 0, 1] by decide +kernel)
/-- The bits of an upright. -/
def upB (d : Int) : List Int := ((incunableref06_upright.f d).bind fun s => incunableref06_bitsOf.f 20 s).getD []
theorem upB_good : (List.range 7).all (fun n => decide (((incunableref06_upright.f ((n : Int) - 3)).bind fun s => incunableref06_bitsOf.f 20 s) = some (upB ((n : Int) - 3)) ∧ (upB ((n : Int) - 3)).length ≤ 64)) = true := by decide +kernel
theorem upB_is {d : Int} (d0 : -3 ≤ d) (d1 : d ≤ 3) : ((incunableref06_upright.f d).bind fun s => incunableref06_bitsOf.f 20 s) = some (upB d) ∧ (upB d).length ≤ 64 := by
  have g := List.all_eq_true.mp upB_good (d + 3).toNat (List.mem_range.mpr (by omega))
  rw [decide_eq_true_iff, show (((d + 3).toNat : Nat) : Int) - 3 = d by omega] at g
  exact g
/-- The name that the program tells of a mode. -/
def nm1 (m : S69) : ByteArray := if m.f0.toList = ([117, 112] : List UInt8) then m.f0 ++ ⟨(itz m.f1).toArray⟩ else m.f0
theorem name_good : (List.range 7).all (fun n => decide (incunableref06_name.f ((n : Int) - 3) = some (nm1 (⟨(⟨#[117, 112]⟩ : ByteArray), (n : Int) - 3, (⟨0, 0⟩ : S67), 0⟩ : S69)))) = true := by decide +kernel
theorem name_is {d : Int} (d0 : -3 ≤ d) (d1 : d ≤ 3) : incunableref06_name.f d = some (nm1 (⟨(⟨#[117, 112]⟩ : ByteArray), d, (⟨0, 0⟩ : S67), 0⟩ : S69)) := by
  have g := List.all_eq_true.mp name_good (d + 3).toNat (List.mem_range.mpr (by omega))
  rw [decide_eq_true_iff, show (((d + 3).toNat : Nat) : Int) - 3 = d by omega] at g
  exact g
theorem nm1_pass : nm1 (⟨(⟨#[112, 97, 115, 115]⟩ : ByteArray), 0, (⟨0, 0⟩ : S67), 0⟩ : S69) = ⟨#[112, 97, 115, 115]⟩ := by decide +kernel
theorem nm1_flat (x y c : Int) : nm1 (⟨(⟨#[102, 108, 97, 116]⟩ : ByteArray), 0, (⟨x, y⟩ : S67), c⟩ : S69) = ⟨#[102, 108, 97, 116]⟩ := if_neg (show ¬ ((⟨#[102, 108, 97, 116]⟩ : ByteArray).toList = ([117, 112] : List UInt8)) by decide +kernel)
/-- A row of pixels. -/
def Px (l : List Int) : Prop := (l.length : Int) ≤ 200 ∧ ∀ y ∈ l, y = 0 ∨ y = 1
theorem Px.at {l : List Int} (h : Px l) {i : Int} (i0 : 0 ≤ i) (i1 : i < (l.length : Int)) : rd l i = 0 ∨ rd l i = 1 := h.2 _ (rd_mem i0 i1)
theorem at_is {l : List Int} (h : Px l) {i : Int} (i0 : 0 ≤ i) (i1 : i < (l.length : Int)) : incunableref06_at.f l i = some (rd l i) := by
  have := h.at i0 i1
  unfold incunableref06_at.f
  rw [if_neg (by omega), if_pos i0, if_pos i1, w64 (by omega) (by omega)]
theorem first_pair {l : List Int} (h : Px l) (c : Int) : ∀ (n : Nat) (x : Int), 0 ≤ x → (l.length : Int) + 1 - x = n → ∃ b : Int, (x ≤ b ∨ b = l.length) ∧ b ≤ l.length ∧ EvP (fun k => runs_change.l0 k l c x) (· = b) ∧ EvP (fun k => incunableref06_first.l0 k l c x) (· = b) := by
  have hl := h.1
  have fin : ∀ x : Int, 0 ≤ x → ¬ x < (l.length : Int) → ∃ b : Int, (x ≤ b ∨ b = l.length) ∧ b ≤ l.length ∧ EvP (fun k => runs_change.l0 k l c x) (· = b) ∧ EvP (fun k => incunableref06_first.l0 k l c x) (· = b) := fun x x0 hx => by
    refine ⟨l.length, .inr rfl, Int.le_refl _, ?_, ?_⟩
    · refine EvP.step (fun k => by rw [runs_change.l0]) (EvP.neg hx (EvP.ret ?_))
      unfold mn
      split <;> omega
    · exact EvP.step (fun k => by rw [incunableref06_first.l0]) (EvP.neg hx (EvP.ret rfl))
  intro n
  induction n with
  | zero => exact fun x x0 hn => fin x x0 (by omega)
  | succ n ih =>
    intro x x0 hn
    by_cases hx : x < (l.length : Int)
    · by_cases e : rd l x = c
      · refine ⟨x, .inl (Int.le_refl _), by omega, ?_, ?_⟩
        · refine EvP.step (fun k => by rw [runs_change.l0]) (EvP.pos hx (EvP.pos x0 (EvP.pos e (EvP.ret ?_))))
          unfold mn
          split <;> omega
        · refine EvP.step (fun k => by rw [incunableref06_first.l0]) (EvP.pos hx (EvP.bindv (at_is h x0 hx) ?_))
          exact EvP.pos e (EvP.ret rfl)
      · obtain ⟨b, h1, h2, h3, h4⟩ := ih (x + 1) (by omega) (by omega)
        refine ⟨b, by omega, h2, ?_, ?_⟩
        · refine EvP.step (fun k => by rw [runs_change.l0]) (EvP.pos hx (EvP.pos x0 (EvP.neg e ?_)))
          rw [w64 (x := x + 1) (by omega) (by omega)]
          exact h3
        · refine EvP.step (fun k => by rw [incunableref06_first.l0]) (EvP.pos hx (EvP.bindv (at_is h x0 hx) (EvP.neg e ?_)))
          rw [w64 (x := x + 1) (by omega) (by omega)]
          exact h4
    · exact fin x x0 hx
/-- The first place behind one. -/
theorem first_behind {l : List Int} (h : Px l) (c a : Int) (a0 : -1 ≤ a) (a1 : a ≤ l.length) : ∃ b : Int, (a < b ∨ b = l.length) ∧ b ≤ l.length ∧ EvP (fun k => runs_change.f k l a c) (· = b) ∧ EvP (fun k => incunableref06_first.f k l a c) (· = b) := by
  have hl := h.1
  obtain ⟨b, h1, h2, h3, h4⟩ := first_pair h c (l.length + 1 - (a + 1)).toNat (a + 1) (by omega) (by omega)
  refine ⟨b, by omega, h2, ?_, ?_⟩
  · unfold runs_change.f
    rw [w64 (x := a + 1) (by omega) (by omega)]
    exact h3
  · unfold incunableref06_first.f
    rw [w64 (x := a + 1) (by omega) (by omega)]
    exact h4
theorem marks_pair {l : List Int} (h : Px l) (c : Int) : ∀ (n : Nat) (x : Int), 0 ≤ x → x ≤ l.length → (l.length : Int) - x = n → ∃ b b2 : Int, x ≤ b ∧ b ≤ l.length ∧ (b < b2 ∨ b2 = l.length) ∧ b2 ≤ l.length ∧
    EvP (fun k => runs_marks.l0 k l c x) (· = (b, b2)) ∧ EvP (fun k => incunableref06_change.l0 k l c x) (· = b) ∧ EvP (fun k => incunableref06_first.f k l b c) (· = b2) := by
  have hl := h.1
  have mnx : ∀ x : Int, x ≤ (l.length : Int) → mn x (l.length : Int) = x := fun x hx => by
    unfold mn
    split <;> omega
  intro n
  induction n with
  | zero =>
    intro x x0 x1 hn
    obtain ⟨b2, h1, h2, h3, h4⟩ := first_behind h c x (by omega) x1
    refine ⟨x, b2, Int.le_refl _, x1, h1, h2, ?_, ?_, h4⟩
    · refine EvP.step (fun k => by rw [runs_marks.l0]) (EvP.neg (by omega) ?_)
      rw [mnx x x1]
      refine EvP.bind h3 ?_
      rintro _ rfl
      exact EvP.ret rfl
    · refine EvP.step (fun k => by rw [incunableref06_change.l0]) (EvP.neg (by omega) (EvP.ret ?_))
      show (l.length : Int) = x
      omega
  | succ n ih =>
    intro x x0 x1 hn
    have hx : x < (l.length : Int) := by omega
    have stop : rd l x ≠ c → (if x > 0 then rd l (x - 1) else 0) = c → ∃ b b2 : Int, x ≤ b ∧ b ≤ l.length ∧ (b < b2 ∨ b2 = l.length) ∧ b2 ≤ l.length ∧
        EvP (fun k => runs_marks.l0 k l c x) (· = (b, b2)) ∧ EvP (fun k => incunableref06_change.l0 k l c x) (· = b) ∧ EvP (fun k => incunableref06_first.f k l b c) (· = b2) := fun e1 e2 => by
      obtain ⟨b2, h1, h2, h3, h4⟩ := first_behind h c x (by omega) x1
      refine ⟨x, b2, Int.le_refl _, x1, h1, h2, ?_, ?_, h4⟩
      · refine EvP.step (fun k => by rw [runs_marks.l0]) (EvP.pos hx ?_)
        have last : EvP (fun k => (runs_change.f k l (mn x (l.length : Int)) c).bind fun t => some (mn x (l.length : Int), t)) (· = (x, b2)) := by
          rw [mnx x x1]
          refine EvP.bind h3 ?_
          rintro _ rfl
          exact EvP.ret rfl
        refine EvP.ite (fun xp => ?_) (fun xn => ?_)
        · rw [if_pos xp] at e2
          rw [w64 (x := x - 1) (by omega) (by omega)]
          exact EvP.pos (by omega) (EvP.pos (by omega) (EvP.pos x0 (EvP.neg e1 (EvP.pos e2 last))))
        · rw [if_neg xn] at e2
          exact EvP.pos x0 (EvP.neg e1 (EvP.pos e2 last))
      · refine EvP.step (fun k => by rw [incunableref06_change.l0]) (EvP.pos hx (EvP.bindv (at_is h x0 hx) (EvP.neg e1 ?_)))
        rw [w64 (x := x - 1) (by omega) (by omega)]
        by_cases xp : x > 0
        · rw [if_pos xp] at e2
          refine EvP.bindv (at_is h (by omega) (by omega)) ?_
          exact EvP.pos e2 (EvP.ret rfl)
        · rw [if_neg xp] at e2
          refine EvP.bindv (a := 0) ?_ ?_
          · unfold incunableref06_at.f
            rw [if_pos (by omega)]
          · exact EvP.pos e2 (EvP.ret rfl)
    have on : (rd l x = c ∨ (if x > 0 then rd l (x - 1) else 0) ≠ c) → ∃ b b2 : Int, x ≤ b ∧ b ≤ l.length ∧ (b < b2 ∨ b2 = l.length) ∧ b2 ≤ l.length ∧
        EvP (fun k => runs_marks.l0 k l c x) (· = (b, b2)) ∧ EvP (fun k => incunableref06_change.l0 k l c x) (· = b) ∧ EvP (fun k => incunableref06_first.f k l b c) (· = b2) := fun e => by
      obtain ⟨b, b2, g1, g2, g3, g4, g5, g6, g7⟩ := ih (x + 1) (by omega) (by omega) (by omega)
      refine ⟨b, b2, by omega, g2, g3, g4, ?_, ?_, g7⟩
      · refine EvP.step (fun k => by rw [runs_marks.l0]) (EvP.pos hx ?_)
        rw [w64 (x := x + 1) (by omega) (by omega)]
        refine EvP.ite (fun xp => ?_) (fun xn => ?_)
        · rw [if_pos xp] at e
          rw [w64 (x := x - 1) (by omega) (by omega)]
          exact EvP.pos (by omega) (EvP.pos (by omega) (EvP.pos x0 (EvP.ite (fun _ => g5) (fun e1 => EvP.neg (e.resolve_left e1) g5))))
        · rw [if_neg xn] at e
          exact EvP.pos x0 (EvP.ite (fun _ => g5) (fun e1 => EvP.neg (e.resolve_left e1) g5))
      · refine EvP.step (fun k => by rw [incunableref06_change.l0]) (EvP.pos hx (EvP.bindv (at_is h x0 hx) ?_))
        rw [w64 (x := x + 1) (by omega) (by omega), w64 (x := x - 1) (by omega) (by omega)]
        refine EvP.ite (fun _ => g6) (fun e1 => ?_)
        have e2 := e.resolve_left e1
        by_cases xp : x > 0
        · rw [if_pos xp] at e2
          exact EvP.bindv (at_is h (by omega) (by omega)) (EvP.neg e2 g6)
        · rw [if_neg xp] at e2
          refine EvP.bindv (a := 0) ?_ (EvP.neg e2 g6)
          unfold incunableref06_at.f
          rw [if_pos (by omega)]
    by_cases e1 : rd l x = c
    · exact on (.inl e1)
    · by_cases e2 : (if x > 0 then rd l (x - 1) else 0) = c
      · exact stop e1 e2
      · exact on (.inr e2)
theorem marks_is {l : List Int} (h : Px l) (c a : Int) (a0 : -1 ≤ a) (a1 : a < l.length) : ∃ b b2 : Int, a < b ∧ b ≤ l.length ∧ (b < b2 ∨ b2 = l.length) ∧ b2 ≤ l.length ∧
    EvP (fun k => runs_marks.f k l a c) (· = (b, b2)) ∧ EvP (fun k => incunableref06_change.f k l a c) (· = b) ∧ EvP (fun k => incunableref06_first.f k l b c) (· = b2) := by
  have hl := h.1
  obtain ⟨b, b2, g1, g2, g3, g4, g5, g6, g7⟩ := marks_pair h c (l.length - (a + 1)).toNat (a + 1) (by omega) (by omega) (by omega)
  refine ⟨b, b2, by omega, g2, g3, g4, ?_, ?_, g7⟩
  · unfold runs_marks.f
    rw [w64 (x := a + 1) (by omega) (by omega)]
    exact g5
  · unfold incunableref06_change.f
    rw [w64 (x := a + 1) (by omega) (by omega)]
    exact g6

inductive Rel2 {α β : Type} (R : α → β → Prop) : List α → List β → Prop
  | nil : Rel2 R [] []
  | cons {a : α} {b : β} {l : List α} {m : List β} (h : R a b) (t : Rel2 R l m) : Rel2 R (a :: l) (b :: m)
/-- The bits of one run, by the program. -/
theorem progRB_good : (List.range 201).all (fun n => decide (runs_runBits.f 201 (n : Int) 0 = some (rbT n 0)) && decide (runs_runBits.f 201 (n : Int) 1 = some (rbT n 1)) && (rbT n 0).all (fun b => b == 0 || b == 1) && (rbT n 1).all (fun b => b == 0 || b == 1)) = true := by decide +kernel
theorem progRB_is {n c : Int} (n0 : 0 ≤ n) (n1 : n ≤ 200) (hc : c = 0 ∨ c = 1) : EvP (fun k => runs_runBits.f k n c) (· = rbT n c) := by
  have g := List.all_eq_true.mp progRB_good n.toNat (List.mem_range.mpr (by omega))
  simp only [Bool.and_eq_true, decide_eq_true_iff, show ((n.toNat : Nat) : Int) = n by omega] at g
  rcases hc with rfl | rfl
  · exact EvP.of (fun k => runs_runBits.mono _ _ k) g.1.1.1
  · exact EvP.of (fun k => runs_runBits.mono _ _ k) g.1.1.2
theorem rbT_01 {n c : Int} (n0 : 0 ≤ n) (n1 : n ≤ 200) (hc : c = 0 ∨ c = 1) : ∀ b ∈ rbT n c, b = 0 ∨ b = 1 := by
  have g := List.all_eq_true.mp progRB_good n.toNat (List.mem_range.mpr (by omega))
  simp only [Bool.and_eq_true, show ((n.toNat : Nat) : Int) = n by omega] at g
  intro b hb
  rcases hc with rfl | rfl
  · simpa using List.all_eq_true.mp g.1.2 b hb
  · simpa using List.all_eq_true.mp g.2 b hb
theorem list_flat : runs_list.f 20 (⟨#[48, 48, 49]⟩ : ByteArray) = some [0, 0, 1] := by decide +kernel
theorem mbits_pass : runs_mode_bits.f 20 (⟨#[112, 97, 115, 115]⟩ : ByteArray) 0 0 0 0 = some [0, 0, 0, 1] := by decide +kernel
theorem mbits_up_good : (List.range 7).all (fun n => decide (runs_mode_bits.f 20 (⟨#[117, 112]⟩ : ByteArray) ((n : Int) - 3) 0 0 0 = some (upB ((n : Int) - 3))) && (upB ((n : Int) - 3)).all (fun b => b == 0 || b == 1)) = true := by decide +kernel
theorem mbits_up {d : Int} (d0 : -3 ≤ d) (d1 : d ≤ 3) : runs_mode_bits.f 20 (⟨#[117, 112]⟩ : ByteArray) d 0 0 0 = some (upB d) ∧ ∀ b ∈ upB d, b = 0 ∨ b = 1 := by
  have g := List.all_eq_true.mp mbits_up_good (d + 3).toNat (List.mem_range.mpr (by omega))
  rw [Bool.and_eq_true, decide_eq_true_iff, show (((d + 3).toNat : Nat) : Int) - 3 = d by omega] at g
  exact ⟨g.1, fun b hb => by simpa using List.all_eq_true.mp g.2 b hb⟩
theorem mbits_flat {n m c : Int} (n0 : 0 ≤ n) (n1 : n ≤ 200) (m0 : 0 ≤ m) (m1 : m ≤ 200) (hc : c = 0 ∨ c = 1) :
    EvP (fun k => runs_mode_bits.f k (⟨#[102, 108, 97, 116]⟩ : ByteArray) 0 n m c) (· = ([0, 0, 1] ++ rbT n c) ++ rbT m (1 - c)) := by
  unfold runs_mode_bits.f
  refine EvP.neg (by decide +kernel) (EvP.neg (by decide +kernel) ?_)
  refine EvP.bind (EvP.of (fun k => runs_list.mono _ k) list_flat) ?_
  rintro _ rfl
  refine EvP.bind (progRB_is n0 n1 hc) ?_
  rintro _ rfl
  have g1 := (rbT_is n0 n1 hc).2
  have g2 := (rbT_is (c := 1 - c) m0 m1 (by omega)).2
  refine EvP.pos (by simp; omega) (EvP.bindv rfl ?_)
  rw [w64 (x := 1 - c) (by omega) (by omega)]
  refine EvP.bind (progRB_is m0 m1 (by omega)) ?_
  rintro _ rfl
  refine EvP.pos (by simp; omega) (EvP.ret rfl)
/-- A mode, by the program and by the reference: the same bits. -/
def MB (m1 : S69) (m2 : S37) : Prop := EvP (fun k => runs_mode_bits.f k m1.f0 m1.f1 m1.f2.f0 m1.f2.f1 m1.f3) (· = m2.f1) ∧ m2.f1.length ≤ 200 ∧ ∀ b ∈ m2.f1, b = 0 ∨ b = 1
theorem modesB {above row : List Int} (ha : Px above) (hr : Px row) (he : above.length = row.length) : ∀ (n : Nat) (a c : Int) (o1 : List S69) (o2 : List S37), -1 ≤ a → a ≤ row.length → (c = 0 ∨ c = 1) → (row.length : Int) - a ≤ n → o1.length + n ≤ 500 → o2.length + n ≤ 500 →
    ∃ (d1 : List S69) (d2 : List S37), d1.length ≤ n ∧ EvP (fun k => runs_modes.l0 k above row o1 a c row.length) (· = o1 ++ d1) ∧ EvP (fun k => incunableref06_Modes.l0 k above row o2 a c) (· = o2 ++ d2) ∧ Rel2 MB d1 d2 := by
  have hl := hr.1
  intro n
  have fin : ∀ (n : Nat) (a c : Int) (o1 : List S69) (o2 : List S37), (¬ a < (row.length : Int) ∨ ¬ (row.length : Int) > 0) → ∃ (d1 : List S69) (d2 : List S37), d1.length ≤ n ∧ EvP (fun k => runs_modes.l0 k above row o1 a c row.length) (· = o1 ++ d1) ∧ EvP (fun k => incunableref06_Modes.l0 k above row o2 a c) (· = o2 ++ d2) ∧ Rel2 MB d1 d2 := fun n a c o1 o2 h => by
    refine ⟨[], [], Nat.zero_le _, ?_, ?_, .nil⟩
    · rw [List.append_nil]
      have no : EvP (fun k => runs_modes.j1 k above row o1 a c row.length false) (· = o1) := EvP.step (fun k => by rw [runs_modes.j1]) (EvP.neg (by decide) (EvP.ret rfl))
      refine EvP.step (fun k => by rw [runs_modes.l0]) (EvP.ite (fun z => ?_) (fun _ => no))
      rw [decide_eq_false (h.resolve_left (fun y => y z))]
      exact no
    · rw [List.append_nil]
      refine EvP.step (fun k => by rw [incunableref06_Modes.l0]) (EvP.ite (fun z => EvP.neg (h.resolve_right (fun y => y z)) (EvP.ret rfl)) (fun _ => EvP.ret rfl))
  induction n with
  | zero => exact fun a c o1 o2 a0 a1 hc hn _ _ => fin _ a c o1 o2 (by omega)
  | succ n ih =>
    intro a c o1 o2 a0 a1 hc hn n1 n2
    by_cases h : a < (row.length : Int) ∧ (row.length : Int) > 0
    · obtain ⟨b, b2, g1, g2, g3, g4, g5, g6, g7⟩ := marks_is ha c a a0 (by omega)
      rw [he] at g2 g3 g4
      obtain ⟨x, x1, x2, x3, x4⟩ := first_behind hr (1 - c) a a0 (by omega)
      have ex : a < x := by omega
      have e256 : (1 - c) % 256 = 1 - c := by omega
      have c64 : wrap64 (1 - c) = 1 - c := w64 (by omega) (by omega)
      have cc : wrap64 c = c := w64 (by omega) (by omega)
      have d64 : wrap64 (x - b) = x - b := w64 (by omega) (by omega)
      have round : ∀ (m1 : S69) (m2 : S37) (a' c' : Int), a < a' → a' ≤ row.length → (c' = 0 ∨ c' = 1) → MB m1 m2 →
          (∀ P : List S69 → Prop, EvP (fun k => if o1.length < 2932031007402 then runs_modes.l0 k above row (o1 ++ [m1]) a' c' row.length else none) P → EvP (fun k => runs_modes.l0 k above row o1 a c row.length) P) →
          (∀ P : List S37 → Prop, EvP (fun k => if o2.length < 2513169434916 then incunableref06_Modes.l0 k above row (o2 ++ [m2]) a' c' else none) P → EvP (fun k => incunableref06_Modes.l0 k above row o2 a c) P) →
          ∃ (d1 : List S69) (d2 : List S37), d1.length ≤ n + 1 ∧ EvP (fun k => runs_modes.l0 k above row o1 a c row.length) (· = o1 ++ d1) ∧ EvP (fun k => incunableref06_Modes.l0 k above row o2 a c) (· = o2 ++ d2) ∧ Rel2 MB d1 d2 := by
        intro m1 m2 a' c' h1 h2 h3 h4 p1 p2
        obtain ⟨d1, d2, q1, q2, q3, q4⟩ := ih a' c' (o1 ++ [m1]) (o2 ++ [m2]) (by omega) h2 h3 (by omega) (by rw [List.length_append]; show o1.length + 1 + n ≤ 500; omega) (by rw [List.length_append]; show o2.length + 1 + n ≤ 500; omega)
        refine ⟨m1 :: d1, m2 :: d2, Nat.succ_le_succ q1, p1 _ (EvP.pos (by omega) ?_), p2 _ (EvP.pos (by omega) ?_), .cons h4 q4⟩
        · rw [show o1 ++ m1 :: d1 = o1 ++ [m1] ++ d1 by simp]
          exact q2
        · rw [show o2 ++ m2 :: d2 = o2 ++ [m2] ++ d2 by simp]
          exact q3
      have prog : ∀ (P : List S69 → Prop), EvP (fun k => if b2 < x then (if o1.length < 2932031007402 then (runs_modes.l0 k above row (o1 ++ [(⟨(⟨#[112, 97, 115, 115]⟩ : ByteArray), 0, (⟨0, 0⟩ : S67), 0⟩ : S69)]) b2 c row.length) else (none)) else (if x - b ≥ (-3) then (if x - b ≤ 3 then (if o1.length < 2932031007402 then (runs_modes.l0 k above row (o1 ++ [(⟨(⟨#[117, 112]⟩ : ByteArray), x - b, (⟨0, 0⟩ : S67), 0⟩ : S69)]) x (1 - c) row.length) else (none)) else ((runs_change.f k row x c).bind fun t229 => (if o1.length < 2932031007402 then (runs_modes.l0 k above row (o1 ++ [(⟨(⟨#[102, 108, 97, 116]⟩ : ByteArray), 0, (⟨wrap64 (x - (mx a 0)), wrap64 (t229 - x)⟩ : S67), wrap64 (c)⟩ : S69)]) t229 c row.length) else (none)))) else ((runs_change.f k row x c).bind fun t233 => (if o1.length < 2932031007402 then (runs_modes.l0 k above row (o1 ++ [(⟨(⟨#[102, 108, 97, 116]⟩ : ByteArray), 0, (⟨wrap64 (x - (mx a 0)), wrap64 (t233 - x)⟩ : S67), wrap64 (c)⟩ : S69)]) t233 c row.length) else (none))))) P → EvP (fun k => runs_modes.l0 k above row o1 a c row.length) P := by
        intro P hp
        refine EvP.step (fun k => by rw [runs_modes.l0]) (EvP.pos h.1 ?_)
        refine EvP.step (fun k => by rw [runs_modes.j1]) (EvP.pos (decide_eq_true h.2) ?_)
        refine EvP.bind g5 ?_
        rintro _ rfl
        rw [e256]
        refine EvP.bind x3 ?_
        rintro _ rfl
        rw [d64]
        exact hp
      have ref : ∀ (m : S37) (P : List S37 → Prop), EvP (fun k => incunableref06_Choice.f k above row a c) (· = (m.f0, m.f1, m.f2, m.f3)) → EvP (fun k => if o2.length < 2513169434916 then incunableref06_Modes.l0 k above row (o2 ++ [m]) m.f2 m.f3 else none) P → EvP (fun k => incunableref06_Modes.l0 k above row o2 a c) P := by
        intro m P hm hp
        refine EvP.step (fun k => by rw [incunableref06_Modes.l0]) (EvP.pos h.2 (EvP.pos h.1 ?_))
        refine EvP.bind hm ?_
        rintro _ rfl
        exact hp
      have choice : ∀ (P : ByteArray × List Int × Int × Int → Prop), EvP (fun k => if b2 < x then ((incunableref06_bitsOf.f k (⟨#[48, 48, 48, 49]⟩ : ByteArray)).bind fun t358 => (some ((⟨#[112, 97, 115, 115]⟩ : ByteArray), t358, b2, c))) else (if x - b ≥ (-3) then (incunableref06_Choice.j0 k row a c x (x - b) (decide (x - b ≤ 3))) else (incunableref06_Choice.j0 k row a c x (x - b) false))) P → EvP (fun k => incunableref06_Choice.f k above row a c) P := by
        intro P hp
        unfold incunableref06_Choice.f
        refine EvP.bind g6 ?_
        rintro _ rfl
        refine EvP.bind g7 ?_
        rintro _ rfl
        rw [c64]
        refine EvP.bind x4 ?_
        rintro _ rfl
        rw [d64]
        exact hp
      by_cases k1 : b2 < x
      · refine round (⟨(⟨#[112, 97, 115, 115]⟩ : ByteArray), 0, (⟨0, 0⟩ : S67), 0⟩ : S69) (⟨(⟨#[112, 97, 115, 115]⟩ : ByteArray), [0, 0, 0, 1], b2, c⟩ : S37) b2 c (by omega) g4 hc ⟨EvP.of (fun k => runs_mode_bits.mono _ _ _ _ _ k) mbits_pass, show ([0, 0, 0, 1] : List Int).length ≤ 200 from by decide, show ∀ b ∈ ([0, 0, 0, 1] : List Int), b = 0 ∨ b = 1 from by decide⟩ (fun P hp => prog P (EvP.pos k1 hp)) (fun P hp => ref _ P ?_ hp)
        refine choice _ (EvP.pos k1 ?_)
        refine EvP.bind bits_pass ?_
        rintro _ rfl
        exact EvP.ret rfl
      · by_cases k2 : x - b ≥ -3 ∧ x - b ≤ 3
        · obtain ⟨u1, u2⟩ := mbits_up k2.1 k2.2
          obtain ⟨nm, hnm⟩ : ∃ s, incunableref06_name.f (x - b) = some s := by
            unfold incunableref06_name.f
            repeat' split
            all_goals exact ⟨_, rfl⟩
          refine round (⟨(⟨#[117, 112]⟩ : ByteArray), x - b, (⟨0, 0⟩ : S67), 0⟩ : S69) (⟨nm, upB (x - b), x, 1 - c⟩ : S37) x (1 - c) ex x2 (by omega) ⟨EvP.of (fun k => runs_mode_bits.mono _ _ _ _ _ k) u1, by have := (upB_is k2.1 k2.2).2; show (upB (x - b)).length ≤ 200; omega, u2⟩ (fun P hp => prog P (EvP.neg k1 (EvP.pos k2.1 (EvP.pos k2.2 hp)))) (fun P hp => ref _ P ?_ hp)
          refine choice _ (EvP.neg k1 (EvP.pos k2.1 ?_))
          rw [decide_eq_true k2.2]
          refine EvP.step (fun k => by rw [incunableref06_Choice.j0]) (EvP.pos rfl (EvP.bindv hnm ?_))
          obtain ⟨s, hs, hb⟩ := Option.bind_eq_some_iff.mp (upB_is k2.1 k2.2).1
          refine EvP.bindv hs ?_
          refine EvP.bind (EvP.of (fun k => incunableref06_bitsOf.mono _ k) hb) ?_
          rintro _ rfl
          rw [c64]
          exact EvP.ret rfl
        · obtain ⟨y, y1, y2, y3, y4⟩ := first_behind hr c x (by omega) x2
          have hm : mx a 0 = max a 0 := by unfold mx; omega
          have w1 : wrap64 (x - max a 0) = x - max a 0 := w64 (by omega) (by omega)
          have w2 : wrap64 (y - x) = y - x := w64 (by omega) (by omega)
          have l1 := (rbT_is (n := x - max a 0) (c := c) (by omega) (by omega) hc).2
          have l2 := (rbT_is (n := y - x) (c := 1 - c) (by omega) (by omega) (by omega)).2
          refine round (⟨(⟨#[102, 108, 97, 116]⟩ : ByteArray), 0, (⟨x - max a 0, y - x⟩ : S67), c⟩ : S69) (⟨(⟨#[102, 108, 97, 116]⟩ : ByteArray), ([0, 0, 1] ++ rbT (x - max a 0) c) ++ rbT (y - x) (1 - c), y, c⟩ : S37) y c (by omega) y2 hc ⟨mbits_flat (n := x - max a 0) (m := y - x) (c := c) (by omega) (by omega) (by omega) (by omega) hc, ?_, ?_⟩ (fun P hp => prog P (EvP.neg k1 ?_)) (fun P hp => ref _ P ?_ hp)
          · show (([0, 0, 1] ++ rbT (x - max a 0) c) ++ rbT (y - x) (1 - c)).length ≤ 200
            rw [List.length_append, List.length_append]
            show 3 + _ + _ ≤ 200
            omega
          · intro z hz
            rcases List.mem_append.mp hz with hz | hz
            · rcases List.mem_append.mp hz with hz | hz
              · exact (show ∀ z ∈ ([0, 0, 1] : List Int), z = 0 ∨ z = 1 by decide) z hz
              · exact rbT_01 (by omega) (by omega) hc z hz
            · exact rbT_01 (by omega) (by omega) (by omega) z hz
          · have go : EvP (fun k => (runs_change.f k row x c).bind fun t229 => (if o1.length < 2932031007402 then (runs_modes.l0 k above row (o1 ++ [(⟨(⟨#[102, 108, 97, 116]⟩ : ByteArray), 0, (⟨wrap64 (x - (mx a 0)), wrap64 (t229 - x)⟩ : S67), wrap64 (c)⟩ : S69)]) t229 c row.length) else (none))) P := by
              refine EvP.bind y3 ?_
              rintro _ rfl
              rw [hm, w1, w2, cc]
              exact hp
            exact EvP.ite (fun z => EvP.neg (fun w => k2 ⟨z, w⟩) go) (fun _ => go)
          · refine choice _ (EvP.neg k1 ?_)
            have go : EvP (fun k => incunableref06_Choice.j0 k row a c x (x - b) false) (· = ((⟨#[102, 108, 97, 116]⟩ : ByteArray), ([0, 0, 1] ++ rbT (x - max a 0) c) ++ rbT (y - x) (1 - c), y, c)) := by
              refine EvP.step (fun k => by rw [incunableref06_Choice.j0]) (EvP.neg (by decide) ?_)
              refine EvP.bind y4 ?_
              intro r_ hr_
              rw [show r_ = y from hr_]
              clear hr_
              refine EvP.bind bits_flat ?_
              rintro _ rfl
              rw [hm, w1, w2, c64]
              refine EvP.bind (refRunBits_is (by omega) (by omega) hc) ?_
              rintro _ rfl
              refine EvP.pos (by simp; omega) (EvP.bindv rfl ?_)
              refine EvP.bind (refRunBits_is (by omega) (by omega) (by omega)) ?_
              rintro _ rfl
              exact EvP.pos (by simp; omega) (EvP.ret rfl)
            refine EvP.ite (fun z => ?_) (fun _ => go)
            rw [decide_eq_false (fun w => k2 ⟨z, w⟩)]
            exact go
    · exact fin _ a c o1 o2 (by omega)
theorem modes_both {above row : List Int} (ha : Px above) (hr : Px row) (he : above.length = row.length) : ∃ (d1 : List S69) (d2 : List S37), d1.length ≤ 201 ∧ EvP (fun k => runs_modes.f k above row) (· = d1) ∧ EvP (fun k => incunableref06_Modes.f k above row) (· = d2) ∧ Rel2 MB d1 d2 := by
  have := hr.1
  obtain ⟨d1, d2, q1, q2, q3, q4⟩ := modesB ha hr he 201 (-1) 0 [] [] (by omega) (by omega) (.inl rfl) (by omega) (by decide) (by decide)
  exact ⟨d1, d2, q1, by unfold runs_modes.f; exact q2, by unfold incunableref06_Modes.f; exact q3, q4⟩

/-- The numbers of a list are those of bytes. -/
def Byt (p : List Int) : Prop := ∀ x ∈ p, 0 ≤ x ∧ x ≤ 255
theorem val_byt {w h : Int} {p : List Int} (v : Val w h p) : Byt p := fun x hx => ⟨(v.2.2.2.2.2.2 x hx).1, by have := (v.2.2.2.2.2.2 x hx).2; omega⟩

theorem wf_byt {p : List Int} (h : ∀ y ∈ p, (Lit.int .u8 y).wf = true) : Byt p := fun x hx => by
  have h1 : (decide (IntKind.u8.min ≤ x) && decide (x ≤ IntKind.u8.max)) = true := h x hx
  obtain ⟨a, b⟩ := Bool.and_eq_true_iff.mp h1
  exact ⟨of_decide_eq_true a, of_decide_eq_true b⟩
theorem wf_i64 {x : Int} (h : (Lit.int .i64 x).wf = true) : -9223372036854775808 ≤ x ∧ x ≤ 9223372036854775807 := by
  have h1 : (decide (IntKind.i64.min ≤ x) && decide (x ≤ IntKind.i64.max)) = true := h
  obtain ⟨a, b⟩ := Bool.and_eq_true_iff.mp h1
  exact ⟨of_decide_eq_true a, of_decide_eq_true b⟩

/-- How many pixels from the first on are of a colour; the runs of a row. -/
def rl (c : Int) : List Int → Nat
  | [] => 0
  | x :: xs => if x = c then rl c xs + 1 else 0
def rle : Nat → Int → List Int → List Int
  | 0, _, _ => []
  | _ + 1, _, [] => []
  | n + 1, c, x :: xs => (rl c (x :: xs) : Int) :: rle n ((1 - c) % 256) ((x :: xs).drop (rl c (x :: xs)))
theorem rl_le (c : Int) : ∀ l : List Int, rl c l ≤ l.length
  | [] => Nat.le_refl _
  | x :: xs => by
    have ih := rl_le c xs
    unfold rl
    split
    · rw [List.length_cons]; omega
    · exact Nat.zero_le _
theorem rl_take (c : Int) : ∀ l : List Int, l.take (rl c l) = List.replicate (rl c l) c
  | [] => rfl
  | x :: xs => by
    unfold rl
    split
    · next h => rw [List.take_succ_cons, List.replicate_succ, rl_take c xs, h]
    · rfl
theorem rl_at (c : Int) : ∀ l : List Int, ∀ x t, l.drop (rl c l) = x :: t → x ≠ c
  | [], x, t, h => by cases h
  | y :: ys, x, t, h => by
    unfold rl at h
    split at h
    · exact rl_at c ys x t h
    · next g => rw [← (List.cons.inj h).1]; exact g
theorem rl_end {p : List Int} {c i : Int} (h : (p.length : Int) ≤ i) : rl c (p.drop i.toNat) = 0 := by rw [drop_end h]; rfl
theorem rl_hit {p : List Int} {c i : Int} (i0 : 0 ≤ i) (i1 : i < (p.length : Int)) (h : rd p i = c) : rl c (p.drop i.toNat) = rl c (p.drop (i + 1).toNat) + 1 := by
  rw [drop_rd i0 i1]
  show (if _ then _ else _) = _
  rw [if_pos h]
theorem rl_miss {p : List Int} {c i : Int} (i0 : 0 ≤ i) (i1 : i < (p.length : Int)) (h : ¬ rd p i = c) : rl c (p.drop i.toNat) = 0 := by
  rw [drop_rd i0 i1]
  show (if _ then _ else _) = _
  rw [if_neg h]
theorem drop2 {p : List Int} {i : Int} {n : Nat} (i0 : 0 ≤ i) : (p.drop i.toNat).drop n = p.drop (i + n).toNat := by
  rw [List.drop_drop]
  congr 1
  omega
theorem row_in (p : List Int) (out : List Int) (c a : Int) (P : List Int → Prop) (ho : (out.length : Int) ≤ 300) (hp : (p.length : Int) ≤ 200) (a0 : 0 ≤ a) (a1 : a ≤ p.length)
    (h : EvP (fun k => runs_row.l0 k p (out ++ [((rl c (p.drop a.toNat) : Nat) : Int)]) ((1 - c) % 256) (a + (rl c (p.drop a.toNat) : Nat))) P) : EvP (fun k => runs_row.l1 k p out c a a) P := by
  refine EvP.up (L := fun k j (_ : Unit) => runs_row.l1 k p out c j a) (fun j _ => a ≤ j ∧ j + (rl c (p.drop j.toNat) : Nat) = a + (rl c (p.drop a.toNat) : Nat)) p.length ?_ a () a1 ⟨Int.le_refl _, rfl⟩
  intro j _ ⟨j0, hj⟩ hn ih
  refine EvP.step (fun k => by rw [runs_row.l1]) ?_
  have out1 : (rl c (p.drop j.toNat) : Nat) = 0 → EvP (fun k => if out.length < 17592186044416 then runs_row.l0 k p (out ++ [wrap64 (j - a)]) ((1 - c) % 256) j else none) P := fun z => by
    refine EvP.pos (by omega) ?_
    rw [w64 (by omega) (by omega), show j - a = ((rl c (p.drop a.toNat) : Nat) : Int) by omega]
    rw [show j = a + (rl c (p.drop a.toNat) : Nat) by omega]
    exact h
  refine EvP.ite (fun j1 => EvP.pos (by omega) (EvP.ite (fun e => ?_) (fun e => out1 (rl_miss (by omega) j1 e)))) (fun j1 => out1 (rl_end (by omega)))
  have := rl_hit (by omega) j1 e
  rw [w64 (x := j + 1) (by omega) (by omega)]
  exact ih () j1 ⟨by omega, by omega⟩
theorem refRow_in (p : List Int) (out : List Int) (c a : Int) (P : List Int → Prop) (ho : (out.length : Int) ≤ 300) (hp : (p.length : Int) ≤ 200) (a0 : 0 ≤ a) (a1 : a ≤ p.length)
    (h : EvP (fun k => incunableref06_Row.l0 k p (out ++ [((rl c (p.drop a.toNat) : Nat) : Int)]) ((1 - c) % 256) (a + (rl c (p.drop a.toNat) : Nat))) P) : EvP (fun k => incunableref06_Row.l1 k p out c a 0) P := by
  refine EvP.up (L := fun k j (_ : Unit) => incunableref06_Row.l1 k p out c a j) (fun j _ => 0 ≤ j ∧ j + (rl c (p.drop (a + j).toNat) : Nat) = (rl c (p.drop a.toNat) : Nat)) (p.length - a) ?_ 0 () (by omega) ⟨Int.le_refl _, by rw [Int.add_zero, Int.zero_add]⟩
  intro j _ ⟨j0, hj⟩ hn ih
  refine EvP.step (fun k => by rw [incunableref06_Row.l1]) ?_
  rw [w64 (x := a + j) (by omega) (by omega)]
  have out1 : (rl c (p.drop (a + j).toNat) : Nat) = 0 → EvP (fun k => if out.length < 17592186044416 then incunableref06_Row.l0 k p (out ++ [j]) ((1 - c) % 256) (a + j) else none) P := fun z => by
    refine EvP.pos (by omega) ?_
    rw [show j = ((rl c (p.drop a.toNat) : Nat) : Int) by omega]
    exact h
  refine EvP.ite (fun j1 => EvP.pos (by omega) (EvP.ite (fun e => ?_) (fun e => out1 (rl_miss (by omega) j1 e)))) (fun j1 => out1 (rl_end (by omega)))
  have := rl_hit (by omega) j1 e
  rw [w64 (x := j + 1) (by omega) (by omega)]
  refine ih () (by omega) ⟨by omega, ?_⟩
  rw [show a + (j + 1) = a + j + 1 by omega]
  omega
theorem rle_nil (n : Nat) (c : Int) : rle n c [] = [] := by cases n <;> rfl
/-- How many runs are still to come at most. -/
def left (c : Int) : List Int → Nat
  | [] => 0
  | x :: xs => xs.length + 1 + if x = c then 0 else 1
theorem left_nil {c : Int} {l : List Int} (h : left c l ≤ 0) : l = [] := by
  cases l with
  | nil => rfl
  | cons x xs =>
    exfalso
    have h : xs.length + 1 + (if x = c then 0 else 1) ≤ 0 := h
    omega
theorem left_le (c : Int) (l : List Int) : left c l ≤ l.length + 1 := by
  cases l with
  | nil => exact Nat.zero_le _
  | cons x xs =>
    show xs.length + 1 + (if x = c then 0 else 1) ≤ (x :: xs).length + 1
    rw [List.length_cons]
    split <;> omega
theorem left_step {c : Int} {x : Int} {xs : List Int} (hc : c = 0 ∨ c = 1) (h01 : ∀ y ∈ x :: xs, y = 0 ∨ y = 1) : left ((1 - c) % 256) ((x :: xs).drop (rl c (x :: xs))) + 1 ≤ left c (x :: xs) := by
  have hle := rl_le c (x :: xs)
  cases e : (x :: xs).drop (rl c (x :: xs)) with
  | nil =>
    show 0 + 1 ≤ xs.length + 1 + _
    omega
  | cons y ys =>
    have hy := rl_at c _ y ys e
    have hm : y ∈ x :: xs := List.mem_of_mem_drop (show y ∈ (x :: xs).drop (rl c (x :: xs)) by rw [e]; exact List.mem_cons_self ..)
    have hy01 := h01 y hm
    have hyc : y = (1 - c) % 256 := by omega
    have hl : ys.length + 1 = (x :: xs).length - rl c (x :: xs) := by rw [← List.length_drop, e]; rfl
    rw [List.length_cons] at hl hle
    show ys.length + 1 + (if y = (1 - c) % 256 then 0 else 1) + 1 ≤ xs.length + 1 + (if x = c then 0 else 1)
    rw [if_pos hyc]
    by_cases z : x = c
    · rw [if_pos z]
      have : rl c (x :: xs) = rl c xs + 1 := by
        show (if x = c then _ else _) = _
        rw [if_pos z]
      omega
    · rw [if_neg z]
      omega
theorem flip01 {c : Int} (hc : c = 0 ∨ c = 1) : (1 - c) % 256 = 0 ∨ (1 - c) % 256 = 1 := by omega
theorem row_is (p : List Int) (hp : (p.length : Int) ≤ 200) (h01 : ∀ y ∈ p, y = 0 ∨ y = 1) : ∀ (n : Nat) (out : List Int) (c a : Int), (c = 0 ∨ c = 1) → 0 ≤ a → a ≤ p.length → out.length + n ≤ 300 → left c (p.drop a.toNat) ≤ n →
    (EvP (fun k => runs_row.l0 k p out c a) (· = out ++ rle n c (p.drop a.toNat))) ∧ (EvP (fun k => incunableref06_Row.l0 k p out c a) (· = out ++ rle n c (p.drop a.toNat))) := by
  intro n
  induction n with
  | zero =>
    intro out c a hc a0 a1 ho hn
    have e : ¬ a < (p.length : Int) := fun z => by
      have := congrArg List.length (left_nil hn)
      rw [List.length_drop] at this
      have : p.length - a.toNat = 0 := this
      omega
    refine ⟨?_, ?_⟩
    · refine EvP.step (fun k => by rw [runs_row.l0]) ?_
      refine EvP.neg e (EvP.ret ?_)
      rw [rle, List.append_nil]
    · refine EvP.step (fun k => by rw [incunableref06_Row.l0]) ?_
      refine EvP.neg e (EvP.ret ?_)
      rw [rle, List.append_nil]
  | succ n ih =>
    intro out c a hc a0 a1 ho hn
    by_cases e : a < (p.length : Int)
    · have hd := drop_rd a0 e
      have hle := rl_le c (p.drop a.toNat)
      rw [List.length_drop] at hle
      have hs := left_step (c := c) (x := rd p a) (xs := p.drop (a + 1).toNat) hc (fun y hy => h01 y (List.mem_of_mem_drop (show y ∈ p.drop a.toNat by rw [hd]; exact hy)))
      rw [← hd, drop2 a0] at hs
      have er : rle (n + 1) c (p.drop a.toNat) = ((rl c (p.drop a.toNat) : Nat) : Int) :: rle n ((1 - c) % 256) (p.drop (a + (rl c (p.drop a.toNat) : Nat)).toNat) := by
        rw [← drop2 a0, hd]
        rfl
      obtain ⟨i1, i2⟩ := ih (out ++ [((rl c (p.drop a.toNat) : Nat) : Int)]) ((1 - c) % 256) (a + (rl c (p.drop a.toNat) : Nat)) (flip01 hc) (by omega) (by omega) (by rw [List.length_append]; show out.length + 1 + n ≤ 300; omega) (by omega)
      rw [List.append_assoc] at i1 i2
      rw [er]
      refine ⟨?_, ?_⟩
      · refine EvP.step (fun k => by rw [runs_row.l0]) ?_
        refine EvP.pos e ?_
        exact row_in p out c a _ (by omega) hp a0 a1 i1
      · refine EvP.step (fun k => by rw [incunableref06_Row.l0]) ?_
        refine EvP.pos e ?_
        exact refRow_in p out c a _ (by omega) hp a0 a1 i2
    · refine ⟨?_, ?_⟩
      · refine EvP.step (fun k => by rw [runs_row.l0]) ?_
        refine EvP.neg e (EvP.ret ?_)
        rw [drop_end (by omega), rle_nil, List.append_nil]
      · refine EvP.step (fun k => by rw [incunableref06_Row.l0]) ?_
        refine EvP.neg e (EvP.ret ?_)
        rw [drop_end (by omega), rle_nil, List.append_nil]
/-- The runs of a row come back. -/

theorem orShl_good : (List.range 256).all (fun v => (List.range 8).all fun j => v % 2 ^ (8 - j) != 0 || ((List.range 2).all fun b =>
    decide (Go.bits .or .u8 (v : Int) (shl .u8 (b : Int) (7 - (j : Int))) = ((v : Int) + shl .u8 (b : Int) (7 - (j : Int))) % 256) && decide (((v : Int) + shl .u8 (b : Int) (7 - (j : Int))) % 256 % (2 ^ (7 - j) : Nat) = 0))) = true := by decide +kernel
theorem orShl {v b : Int} {j : Nat} (v0 : 0 ≤ v) (v1 : v ≤ 255) (hj : j < 8) (hb : b = 0 ∨ b = 1) (hz : v % (2 ^ (8 - j) : Nat) = 0) :
    Go.bits .or .u8 v (shl .u8 b (7 - (j : Int))) = (v + shl .u8 b (7 - (j : Int))) % 256 ∧ (v + shl .u8 b (7 - (j : Int))) % 256 % (2 ^ (7 - j) : Nat) = 0 := by
  have g := List.all_eq_true.mp (List.all_eq_true.mp orShl_good v.toNat (List.mem_range.mpr (by omega))) j (List.mem_range.mpr hj)
  obtain ⟨n, rfl⟩ : ∃ n : Nat, v = n := ⟨v.toNat, by omega⟩
  rw [Int.toNat_natCast, Bool.or_eq_true] at g
  have hz' : n % 2 ^ (8 - j) = 0 := by exact_mod_cast hz
  rcases g with g | g
  · simp [hz'] at g
  · obtain ⟨m, rfl⟩ : ∃ m : Nat, b = m := ⟨b.toNat, by omega⟩
    have g := List.all_eq_true.mp g m (List.mem_range.mpr (by omega))
    rw [Bool.and_eq_true, decide_eq_true_iff, decide_eq_true_iff] at g
    exact g
/-- Packing bits, by the program and by the reference. -/
theorem pack_pair (bs : List Int) (hb : ∀ b ∈ bs, b = 0 ∨ b = 1) (hl : (bs.length : Int) ≤ 100000000) : ∀ (n : Nat) (i : Int) (x : List Int), 0 ≤ i → (bs.length : Int) - i = n → (x.length : Int) = ((bs.length : Int) + 7) / 8 → (∀ j, 0 ≤ j → j < (x.length : Int) → 0 ≤ rd x j ∧ rd x j ≤ 255) →
    (∀ j, i / 8 < j → j < (x.length : Int) → rd x j = 0) → (i / 8 < (x.length : Int) → rd x (i / 8) % (2 ^ (8 - (i % 8).toNat) : Nat) = 0) →
    ∃ r : List Int, EvP (fun k => bits_Pack.l0 k x bs (bs.length : Int) i) (· = (r, 0)) ∧ EvP (fun k => incunableref04_Packed.l0 k x bs (bs.length : Int) i) (· = r) ∧ r.length = x.length := by
  intro n
  induction n with
  | zero =>
    intro i x i0 hn hx h1 h2 h3
    refine ⟨x, ?_, ?_, rfl⟩
    · exact EvP.step (fun k => by rw [bits_Pack.l0]) (EvP.neg (by omega) (EvP.ret rfl))
    · exact EvP.step (fun k => by rw [incunableref04_Packed.l0]) (EvP.neg (by omega) (EvP.ret rfl))
  | succ n ih =>
    intro i x i0 hn hx h1 h2 h3
    have i1 : i < (bs.length : Int) := by omega
    have q1 : i / 8 < (x.length : Int) := by omega
    have q0 : 0 ≤ i / 8 := by omega
    have hbi := hb _ (rd_mem i0 i1)
    obtain ⟨v0, v1⟩ := h1 (i / 8) q0 q1
    have e7 : 7 - i % 8 = 7 - (((i % 8).toNat : Nat) : Int) := by omega
    obtain ⟨g1, g2⟩ := orShl v0 v1 (j := (i % 8).toNat) (by omega) hbi (h3 q1)
    rw [← e7] at g1 g2
    have ed : Int.tdiv i 8 = i / 8 := Int.tdiv_eq_ediv_of_nonneg i0
    have em : Int.tmod i 8 = i % 8 := Int.tmod_eq_emod_of_nonneg i0
    have wd : wrap64 (i / 8) = i / 8 := w64 (by omega) (by omega)
    have wm : wrap64 (7 - i % 8) = 7 - i % 8 := w64 (by omega) (by omega)
    have wi : wrap64 (i + 1) = i + 1 := w64 (by omega) (by omega)
    obtain ⟨r, r1, r2, r3⟩ := ih (i + 1) (x.set (i / 8).toNat ((rd x (i / 8) + shl .u8 (rd bs i) (7 - i % 8)) % 256)) (by omega) (by omega) (by rw [List.length_set]; exact hx)
      (fun j j0 j1 => by
        rw [List.length_set] at j1
        rw [rd_set x (i / 8) j _ q0 q1 j0]
        split
        · omega
        · exact h1 j j0 j1)
      (fun j j0 j1 => by
        rw [List.length_set] at j1
        rw [rd_set x (i / 8) j _ q0 q1 (by omega), if_neg (by omega)]
        exact h2 j (by omega) j1)
      (fun j1 => by
        rw [List.length_set] at j1
        rw [rd_set x (i / 8) _ _ q0 q1 (by omega)]
        by_cases z : (i + 1) / 8 = i / 8
        · rw [if_pos z, show 8 - ((i + 1) % 8).toNat = 7 - (i % 8).toNat by omega]
          exact g2
        · rw [if_neg z, h2 _ (by omega) j1]
          exact Int.zero_emod _)
    rw [List.length_set] at r3
    refine ⟨r, ?_, ?_, r3⟩
    · refine EvP.step (fun k => by rw [bits_Pack.l0]) ?_
      rw [ed, em, wd, wm, wi, g1]
      exact EvP.pos i1 (EvP.pos i0 (EvP.pos i1 (EvP.neg (by omega) (EvP.pos q0 (EvP.pos q1 (EvP.pos (by omega) r1))))))
    · refine EvP.step (fun k => by rw [incunableref04_Packed.l0]) ?_
      rw [ed, em, wd, wm, wi]
      exact EvP.pos i1 (EvP.pos i0 (EvP.pos i1 (EvP.pos q0 (EvP.pos q1 (EvP.pos (by omega) r2)))))
theorem packed_is (bs : List Int) (hb : ∀ b ∈ bs, b = 0 ∨ b = 1) (hl : (bs.length : Int) ≤ 100000000) : ∃ r : List Int, EvP (fun k => bits_Pack.f k bs) (· = (r, 0)) ∧ EvP (fun k => incunableref04_Packed.f k bs) (· = r) ∧ (r.length : Int) ≤ 100000000 := by
  have w1 : wrap64 ((bs.length : Int) + 7) = (bs.length : Int) + 7 := w64 (by omega) (by omega)
  have ed : Int.tdiv ((bs.length : Int) + 7) 8 = ((bs.length : Int) + 7) / 8 := Int.tdiv_eq_ediv_of_nonneg (by omega)
  have w2 : wrap64 (((bs.length : Int) + 7) / 8) = ((bs.length : Int) + 7) / 8 := w64 (by omega) (by omega)
  have hz : ∀ j : Int, 0 ≤ j → j < ((List.replicate (((bs.length : Int) + 7) / 8).toNat (0 : Int)).length : Int) → rd (List.replicate (((bs.length : Int) + 7) / 8).toNat (0 : Int)) j = 0 := fun j j0 j1 => by
    rw [List.length_replicate] at j1
    exact rd_replicate _ _ _ j0 j1
  obtain ⟨r, r1, r2, r3⟩ := pack_pair bs hb hl bs.length 0 (List.replicate (((bs.length : Int) + 7) / 8).toNat 0) (by omega) (by omega) (by rw [List.length_replicate]; omega) (fun j j0 j1 => by rw [hz j j0 j1]; omega) (fun j j0 j1 => hz j (by omega) j1) (fun j1 => by rw [show (0 : Int) / 8 = 0 from rfl] at *; rw [hz 0 (by omega) j1]; rfl)
  rw [List.length_replicate] at r3
  refine ⟨r, ?_, ?_, by omega⟩
  · unfold bits_Pack.f
    rw [w1, ed, w2]
    exact EvP.pos (by omega) (EvP.pos (by omega) r1)
  · unfold incunableref04_Packed.f
    rw [w1, ed, w2]
    exact EvP.pos (by omega) (EvP.pos (by omega) r2)

instance (w h : Int) (p : List Int) : Decidable (Val w h p) := by unfold Val; exact inferInstance
theorem sid_mul {w h : Int} (hw : 0 ≤ w) (hh : 0 ≤ h) (hw' : w ≤ 200) (hh' : h ≤ 200) : 0 ≤ w * h ∧ w * h ≤ 40000 := by
  have h1 : 0 ≤ w * h := Int.mul_nonneg hw hh
  have h2 : w * h ≤ 200 * h := Int.mul_le_mul_of_nonneg_right hw' hh
  omega

theorem fits_is (w h : Int) : bitmap_fits.f w h = some (decide (Sid w h)) := by
  unfold bitmap_fits.f
  by_cases h1 : 0 ≤ w ∧ 0 ≤ h ∧ w ≤ 200 ∧ h ≤ 200
  · obtain ⟨a, b, c, d⟩ := h1
    have := sid_mul a b c d
    rw [if_pos (by omega), if_pos (by omega), if_pos c, if_pos d, w64 (by omega) (by omega)]
    simp [Sid, a, b, c, d]
  · have h2 : ¬ Sid w h := fun s => h1 ⟨s.1, s.2.1, s.2.2.1, s.2.2.2.1⟩
    simp only [h2, decide_false]
    split
    · split
      · split
        · split
          · omega
          · rfl
        · rfl
      · rfl
    · rfl

theorem Valid_l0 (p : List Int) (hl : (p.length : Int) ≤ 9223372036854775807) : EvP (fun k => bitmap_Valid.l0 k p (p.length : Int) 0) (· = decide (∀ x ∈ p, x ≤ 1)) := by
  refine EvP.up (L := fun k i (_ : Unit) => bitmap_Valid.l0 k p (p.length : Int) i) (fun i _ => 0 ≤ i ∧ ∀ j, 0 ≤ j → j < i → rd p j ≤ 1) p.length ?_ 0 () (by omega) ⟨by omega, fun j _ _ => by omega⟩
  intro i _ ⟨h0, hb⟩ hi ih
  refine EvP.step (fun k => by rw [bitmap_Valid.l0]) ?_
  refine EvP.ite (fun h1 => ?_) (fun h1 => ?_)
  · refine EvP.pos h0 (EvP.pos h1 (EvP.ite (fun h2 => EvP.ret ?_) (fun h2 => ?_)))
    · symm
      rw [decide_eq_false_iff_not]
      intro hall
      have := hall _ (rd_mem h0 h1)
      omega
    · rw [w64 (by omega) (by omega)]
      refine ih () h1 ⟨by omega, fun j hj hj' => ?_⟩
      rcases Int.lt_or_le j i with hji | hji
      · exact hb j hj hji
      · have : j = i := by omega
        subst this
        omega
  · refine EvP.ret ?_
    symm
    rw [decide_eq_true_iff]
    intro x hx
    obtain ⟨n, hn, rfl⟩ := List.getElem_of_mem hx
    have := hb (n : Int) (by omega) (by omega)
    rwa [rd_get p n hn] at this
theorem Valid_is (w h : Int) (p : List Int) (hp : ∀ x ∈ p, 0 ≤ x) (hl : (p.length : Int) ≤ 9223372036854775807) : EvP (fun k => bitmap_Valid.f k w h p) (· = decide (Val w h p)) := by
  unfold bitmap_Valid.f
  refine EvP.bindv (fits_is w h) ?_
  refine EvP.ite (fun h1 => ?_) (fun h1 => ?_)
  · rw [decide_eq_true_iff] at h1
    have hm := sid_mul h1.1 h1.2.1 h1.2.2.1 h1.2.2.2.1
    rw [w64 (by omega) (by omega)]
    refine EvP.step (fun k => by rw [bitmap_Valid.j0]) ?_
    refine EvP.ite (fun h2 => EvP.ret ?_) (fun h2 => ?_)
    · symm
      rw [decide_eq_false_iff_not]
      intro v
      simp [v.2.2.2.2.2.1] at h2
    · refine (Valid_l0 p hl).mono ?_
      rintro r rfl
      have e : (p.length : Int) = w * h := by simpa using h2
      apply decide_eq_decide.mpr
      constructor
      · intro hall
        exact ⟨h1.1, h1.2.1, h1.2.2.1, h1.2.2.2.1, h1.2.2.2.2, e, fun x hx => ⟨hp x hx, hall x hx⟩⟩
      · intro v x hx
        exact (v.2.2.2.2.2.2 x hx).2
  · refine EvP.step (fun k => by rw [bitmap_Valid.j0]) ?_
    refine EvP.pos rfl (EvP.ret ?_)
    symm
    rw [decide_eq_false_iff_not]
    intro v
    exact h1 (decide_eq_true v.sid)

/-- Row y of a valid bitmap. -/
def rowAt (w : Int) (p : List Int) (y : Int) : List Int := (p.take ((y + 1) * w).toNat).drop (y * w).toNat
theorem rowAt_px {w h : Int} {p : List Int} (v : Val w h p) {y : Int} (y0 : 0 ≤ y) (y1 : y < h) : Px (rowAt w p y) ∧ ((rowAt w p y).length : Int) = w := by
  obtain ⟨w0, h0, w1, h1, _, hl, hp⟩ := v
  have a : 0 ≤ y * w := Int.mul_nonneg y0 w0
  have b : (y + 1) * w ≤ h * w := Int.mul_le_mul_of_nonneg_right (by omega) w0
  have c : (y + 1) * w = y * w + w := by rw [Int.add_mul, Int.one_mul]
  have hlen : ((rowAt w p y).length : Int) = w := by
    unfold rowAt
    rw [List.length_drop, List.length_take]
    rw [Int.mul_comm h w] at b
    omega
  refine ⟨⟨by omega, fun z hz => ?_⟩, hlen⟩
  have := hp z (List.mem_of_mem_take (List.mem_of_mem_drop hz))
  omega
theorem mulB {w h y : Int} {p : List Int} (v : Val w h p) (y0 : 0 ≤ y) (y1 : y < h) : 0 ≤ y * w ∧ y * w ≤ (y + 1) * w ∧ (y + 1) * w ≤ (p.length : Int) ∧ (p.length : Int) ≤ 8192 := by
  obtain ⟨w0, h0, w1, h1, hm, hl, hp⟩ := v
  have a : 0 ≤ y * w := Int.mul_nonneg y0 w0
  have b : (y + 1) * w ≤ h * w := Int.mul_le_mul_of_nonneg_right (by omega) w0
  have c : (y + 1) * w = y * w + w := by rw [Int.add_mul, Int.one_mul]
  rw [Int.mul_comm h w] at b
  omega
theorem lines_is {w h : Int} {p : List Int} (v : Val w h p) : EvP (fun k => runs_lines.f k w h p) (· = (List.range h.toNat).map fun y : Nat => rowAt w p y) := by
  have hh := v.2.1
  have hh2 := v.2.2.2.1
  unfold runs_lines.f
  refine EvP.up (L := fun k i (s : List (List Int)) => runs_lines.l0 k s h i w h p) (fun i s => 0 ≤ i ∧ s = (List.range i.toNat).map fun y : Nat => rowAt w p y) h ?_ 0 [] hh ⟨Int.le_refl _, rfl⟩
  intro i s ⟨i0, hs⟩ hn ih
  refine EvP.step (fun k => by rw [runs_lines.l0]) (EvP.ite (fun i1 => ?_) (fun i1 => EvP.ret ?_))
  · obtain ⟨a, b, c, d⟩ := mulB v i0 i1
    have wi : wrap64 (i + 1) = i + 1 := w64 (by omega) (by omega)
    have w1 : wrap64 (i * w) = i * w := w64 (by omega) (by omega)
    have w2 : wrap64 ((i + 1) * w) = (i + 1) * w := w64 (by omega) (by omega)
    rw [wi, w1, w2]
    refine EvP.pos a (EvP.pos b (EvP.pos c (EvP.pos (by rw [hs, List.length_map, List.length_range]; omega) ?_)))
    refine ih _ i1 ⟨by omega, ?_⟩
    rw [hs, show (i + 1).toNat = i.toNat + 1 by omega, List.range_succ, List.map_append, List.map_singleton, show ((i.toNat : Nat) : Int) = i by omega]
    rfl
  · rw [hs, show i = h by omega]
theorem rowOf_is {w h : Int} {p : List Int} (v : Val w h p) {y : Int} (y0 : 0 ≤ y) (y1 : y < h) : incunableref06_RowOf.f w h p y = some (rowAt w p y) := by
  obtain ⟨a, b, c, d⟩ := mulB v y0 y1
  have hy := v.2.2.2.1
  have wi : wrap64 (y + 1) = y + 1 := w64 (by omega) (by omega)
  have w1 : wrap64 (y * w) = y * w := w64 (by omega) (by omega)
  have w2 : wrap64 ((y + 1) * w) = (y + 1) * w := w64 (by omega) (by omega)
  have hl := (rowAt_px v y0 y1).2
  have hw := v.2.2.1
  have hl2 : ((List.drop (y * w).toNat (List.take ((y + 1) * w).toNat p)).length : Int) = w := hl
  unfold incunableref06_RowOf.f
  rw [if_neg (by omega), Option.bind_some, wi, w1, w2, if_pos a, if_pos b, if_pos c, if_pos (by show 0 + _ < _; omega), List.nil_append]
  rfl
theorem rowOf_first {w h : Int} {p : List Int} (w0 : 0 ≤ w) (w1 : w ≤ 200) : incunableref06_RowOf.f w h p (-1) = some (List.replicate w.toNat 0) := by
  unfold incunableref06_RowOf.f
  rw [if_pos (by decide), if_pos w0, if_pos (by omega)]
/-- Bits that are ones. -/
def B01 (l : List Int) : Prop := ∀ b ∈ l, b = 0 ∨ b = 1
theorem B01.app {l m : List Int} (h : B01 l) (k : B01 m) : B01 (l ++ m) := fun b hb => (List.mem_append.mp hb).elim (h b) (k b)
theorem par2 (i : Int) (h : 0 ≤ i) : Int.tmod i 2 = 0 ∨ Int.tmod i 2 = 1 := by
  rw [Int.tmod_eq_emod_of_nonneg h]
  omega
/-- The runs of one row: the same bits behind what there is. -/
theorem one_row (rs : List Int) (hr : ∀ x ∈ rs, 0 ≤ x ∧ x ≤ 200) (hl : rs.length ≤ 201) (rows : List (List Int)) (m y w h : Int) (p : List Int) (P Q : List Int → Prop) : ∀ (n : Nat) (i : Int) (out : List Int), 0 ≤ i → (rs.length : Int) - i = n → out.length + n * 64 ≤ 5000000 → B01 out →
    ∃ o2 : List Int, B01 o2 ∧ o2.length ≤ out.length + n * 64 ∧ (∀ P : List Int × Int → Prop, EvP (fun k => runs_One.l0 k o2 rows m (wrap64 (y + 1))) P → EvP (fun k => runs_One.l1 k out rows m y rs (rs.length : Int) i) P) ∧
      (∀ (y' : Int) (P : List Int → Prop), EvP (fun k => incunableref06_OneBits.l0 k o2 (wrap64 (y' + 1)) w h p) P → EvP (fun k => incunableref06_OneBits.l1 k out y' rs (rs.length : Int) i w h p) P) := by
  intro n
  induction n with
  | zero =>
    intro i out i0 hn ho hb
    refine ⟨out, hb, by omega, fun P hp => ?_, fun y' P hp => ?_⟩
    · exact EvP.step (fun k => by rw [runs_One.l1]) (EvP.neg (by omega) hp)
    · exact EvP.step (fun k => by rw [incunableref06_OneBits.l1]) (EvP.neg (by omega) hp)
  | succ n ih =>
    intro i out i0 hn ho hb
    have i1 : i < (rs.length : Int) := by omega
    obtain ⟨x0, x1⟩ := hr _ (rd_mem i0 i1)
    have hp2 := par2 i i0
    have hlen := (rbT_is x0 x1 hp2).2
    obtain ⟨o2, q1, q2, q3, q4⟩ := ih (i + 1) (out ++ rbT (rd rs i) (Int.tmod i 2)) (by omega) (by omega) (by rw [List.length_append]; omega) (hb.app (rbT_01 x0 x1 hp2))
    rw [List.length_append] at q2
    have wi : wrap64 (i + 1) = i + 1 := w64 (by omega) (by omega)
    refine ⟨o2, q1, by omega, fun P hp => ?_, fun y' P hp => ?_⟩
    · refine EvP.step (fun k => by rw [runs_One.l1]) (EvP.pos i1 (EvP.pos i0 (EvP.pos i1 ?_)))
      rw [wi]
      refine EvP.bind (progRB_is x0 x1 hp2) ?_
      rintro _ rfl
      exact EvP.pos (by omega) (q3 P hp)
    · refine EvP.step (fun k => by rw [incunableref06_OneBits.l1]) (EvP.pos i1 (EvP.pos i0 (EvP.pos i1 ?_)))
      rw [wi]
      refine EvP.bind (refRunBits_is x0 x1 hp2) ?_
      rintro _ rfl
      exact EvP.pos (by omega) (q4 y' P hp)
theorem rle_len : ∀ (n : Nat) (c : Int) (l : List Int), (rle n c l).length ≤ n := by
  intro n
  induction n with
  | zero => intro c l; exact Nat.le_refl _
  | succ n ih =>
    intro c l
    cases l with
    | nil => exact Nat.zero_le _
    | cons x xs => exact Nat.succ_le_succ (ih _ _)
theorem rle_in : ∀ (n : Nat) (c : Int) (l : List Int), (l.length : Int) ≤ 200 → ∀ x ∈ rle n c l, 0 ≤ x ∧ x ≤ 200 := by
  intro n
  induction n with
  | zero => intro c l hl x hx; cases hx
  | succ n ih =>
    intro c l hl x hx
    cases l with
    | nil => cases hx
    | cons z zs =>
      have hle := rl_le c (z :: zs)
      rcases List.mem_cons.mp hx with rfl | hx
      · omega
      · exact ih _ _ (by rw [List.length_drop]; omega) x hx
theorem runs_both {l : List Int} (h : Px l) : EvP (fun k => runs_row.f k l) (· = rle 201 0 l) ∧ EvP (fun k => incunableref06_Row.f k l) (· = rle 201 0 l) := by
  have hleft : left 0 l ≤ 201 := by
    have := h.1
    have := left_le 0 l
    omega
  obtain ⟨r1, r2⟩ := row_is l h.1 h.2 201 [] 0 0 (.inl rfl) (by omega) (by omega) (by decide) hleft
  rw [List.nil_append, show l.drop ((0 : Int)).toNat = l from rfl] at r1 r2
  exact ⟨by unfold runs_row.f; exact r1, by unfold incunableref06_Row.f; exact r2⟩
theorem rd_lines {w h : Int} {p : List Int} {i : Int} (i0 : 0 ≤ i) (i1 : i < h) : rd_L8 ((List.range h.toNat).map fun y : Nat => rowAt w p y) i = rowAt w p i := by
  have hi : i.toNat < h.toNat := by omega
  simp [rd_L8, List.getD, List.getElem?_map, List.getElem?_range hi, show ((i.toNat : Nat) : Int) = i by omega]
theorem one_all {w h : Int} {p : List Int} (v : Val w h p) : ∀ (n : Nat) (y : Int) (out : List Int), 0 ≤ y → h - y = n → out.length + n * 12864 ≤ 5000000 → B01 out →
    ∃ o2 : List Int, B01 o2 ∧ o2.length ≤ 5000000 ∧ (∀ P : List Int × Int → Prop, EvP (fun k => (bits_Pack.f k o2).bind fun bt => some (bt.1, bt.2)) P → EvP (fun k => runs_One.l0 k out ((List.range h.toNat).map fun y : Nat => rowAt w p y) (((List.range h.toNat).map fun y : Nat => rowAt w p y).length : Int) y) P) ∧
      EvP (fun k => incunableref06_OneBits.l0 k out y w h p) (· = o2) := by
  have hh := v.2.2.2.1
  have hh0 := v.2.1
  have hlen : (((List.range h.toNat).map fun y : Nat => rowAt w p y).length : Int) = h := by rw [List.length_map, List.length_range]; omega
  intro n
  induction n with
  | zero =>
    intro y out y0 hn ho hb
    refine ⟨out, hb, by omega, fun P hp => ?_, ?_⟩
    · exact EvP.step (fun k => by rw [runs_One.l0]) (EvP.neg (by omega) hp)
    · exact EvP.step (fun k => by rw [incunableref06_OneBits.l0]) (EvP.neg (by omega) (EvP.ret rfl))
  | succ n ih =>
    intro y out y0 hn ho hb
    have y1 : y < h := by omega
    obtain ⟨hpx, hw⟩ := rowAt_px v y0 y1
    obtain ⟨b1, b2⟩ := runs_both hpx
    have wy : wrap64 (y + 1) = y + 1 := w64 (by omega) (by omega)
    have hrl := rle_len 201 0 (rowAt w p y)
    obtain ⟨o1, q1, q2, q3, q4⟩ := one_row (rle 201 0 (rowAt w p y)) (rle_in 201 0 _ hpx.1) hrl ((List.range h.toNat).map fun y : Nat => rowAt w p y) (((List.range h.toNat).map fun y : Nat => rowAt w p y).length : Int) y w h p (fun _ => True) (fun _ => True) (rle 201 0 (rowAt w p y)).length 0 out (by omega) (by omega) (by omega) hb
    obtain ⟨o2, s1, s2, s3, s4⟩ := ih (y + 1) o1 (by omega) (by omega) (by omega) q1
    refine ⟨o2, s1, s2, fun P hp => ?_, ?_⟩
    · refine EvP.step (fun k => by rw [runs_One.l0]) (EvP.pos (by omega) (EvP.pos y0 (EvP.pos (by omega) ?_)))
      rw [rd_lines y0 y1]
      refine EvP.bind b1 ?_
      rintro _ rfl
      refine q3 P ?_
      rw [wy]
      exact s3 P hp
    · refine EvP.step (fun k => by rw [incunableref06_OneBits.l0]) (EvP.pos y1 (EvP.bindv (rowOf_is v y0 y1) ?_))
      refine EvP.bind b2 ?_
      rintro _ rfl
      refine q4 y _ ?_
      rw [wy]
      exact s4
theorem Rel2.len {α β : Type} {R : α → β → Prop} {l : List α} {m : List β} (h : Rel2 R l m) : l.length = m.length := by
  induction h with
  | nil => rfl
  | cons _ _ ih => rw [List.length_cons, List.length_cons, ih]
theorem Rel2.get {α β : Type} {R : α → β → Prop} {l : List α} {m : List β} (h : Rel2 R l m) : ∀ (i : Nat) (h1 : i < l.length) (h2 : i < m.length), R l[i] m[i] := by
  induction h with
  | nil => intro i h1; cases h1
  | cons a _ ih =>
    intro i h1 h2
    cases i with
    | zero => exact a
    | succ i => exact ih i (by simpa using h1) (by simpa using h2)
/-- The modes of one row. -/
theorem two_row {d1 : List S69} {d2 : List S37} (hd : Rel2 MB d1 d2) (hl : d1.length ≤ 201) (above : List Int) (rows : List (List Int)) (m y w h : Int) (p : List Int) : ∀ (n : Nat) (i : Int) (out : List Int), 0 ≤ i → (d1.length : Int) - i = n → out.length + n * 200 ≤ 50000000 → B01 out →
    ∃ o2 : List Int, B01 o2 ∧ o2.length ≤ out.length + n * 200 ∧ (∀ P : List Int × Int → Prop, EvP (fun k => runs_Two.l0 k o2 above rows m (wrap64 (y + 1))) P → EvP (fun k => runs_Two.l1 k out above rows m y d1 (d1.length : Int) i) P) ∧
      (∀ P : List Int → Prop, EvP (fun k => incunableref06_TwoBits.l0 k o2 (wrap64 (y + 1)) w h p) P → EvP (fun k => incunableref06_TwoBits.l1 k out y d2 (d2.length : Int) i w h p) P) := by
  have e := hd.len
  intro n
  induction n with
  | zero =>
    intro i out i0 hn ho hb
    refine ⟨out, hb, by omega, fun P hp => ?_, fun P hp => ?_⟩
    · exact EvP.step (fun k => by rw [runs_Two.l1]) (EvP.neg (by omega) hp)
    · exact EvP.step (fun k => by rw [incunableref06_TwoBits.l1]) (EvP.neg (by omega) hp)
  | succ n ih =>
    intro i out i0 hn ho hb
    have i1 : i < (d1.length : Int) := by omega
    obtain ⟨j, rfl⟩ : ∃ j : Nat, i = j := ⟨i.toNat, by omega⟩
    have h1 : j < d1.length := by omega
    have h2 : j < d2.length := by omega
    obtain ⟨g1, g2, g3⟩ := hd.get j h1 h2
    have e1 : rd_T69 d1 (j : Int) = d1[j] := by simp [rd_T69, List.getD, h1]
    have e2 : rd_T37 d2 (j : Int) = d2[j] := by simp [rd_T37, List.getD, h2]
    have wi : wrap64 ((j : Int) + 1) = (j : Int) + 1 := w64 (by omega) (by omega)
    obtain ⟨o2, q1, q2, q3, q4⟩ := ih ((j : Int) + 1) (out ++ d2[j].f1) (by omega) (by omega) (by rw [List.length_append]; omega) (hb.app g3)
    rw [List.length_append] at q2
    refine ⟨o2, q1, by omega, fun P hp => ?_, fun P hp => ?_⟩
    · refine EvP.step (fun k => by rw [runs_Two.l1]) (EvP.pos i1 (EvP.pos i0 (EvP.pos i1 ?_)))
      rw [wi, e1]
      refine EvP.bind g1 ?_
      intro r_ hr_
      rw [show r_ = d2[j].f1 from hr_]
      exact EvP.pos (by omega) (q3 P hp)
    · refine EvP.step (fun k => by rw [incunableref06_TwoBits.l1]) (EvP.pos (by omega) (EvP.pos i0 (EvP.pos (by omega) ?_)))
      rw [wi, e2]
      exact EvP.pos (by omega) (q4 P hp)
/-- The row above row y: white above the first one. -/
def upAt (w : Int) (p : List Int) (y : Int) : List Int := if y = 0 then List.replicate w.toNat 0 else rowAt w p (y - 1)
theorem upAt_is {w h : Int} {p : List Int} (v : Val w h p) {y : Int} (y0 : 0 ≤ y) (y1 : y < h) : Px (upAt w p y) ∧ ((upAt w p y).length : Int) = w ∧ incunableref06_RowOf.f w h p (y - 1) = some (upAt w p y) := by
  have w0 := v.1
  have w1 := v.2.2.1
  unfold upAt
  by_cases z : y = 0
  · rw [if_pos z, z]
    refine ⟨⟨by rw [List.length_replicate]; omega, fun x hx => .inl (List.eq_of_mem_replicate hx)⟩, by rw [List.length_replicate]; omega, rowOf_first w0 w1⟩
  · rw [if_neg z]
    obtain ⟨a, b⟩ := rowAt_px v (y := y - 1) (by omega) (by omega)
    exact ⟨a, b, rowOf_is v (by omega) (by omega)⟩
theorem two_all {w h : Int} {p : List Int} (v : Val w h p) : ∀ (n : Nat) (y : Int) (out : List Int), 0 ≤ y → h - y = n → out.length + n * 40200 ≤ 50000000 → B01 out →
    ∃ o2 : List Int, B01 o2 ∧ o2.length ≤ 50000000 ∧ (∀ P : List Int × Int → Prop, EvP (fun k => (bits_Pack.f k o2).bind fun bt => some (bt.1, bt.2)) P → EvP (fun k => runs_Two.l0 k out (upAt w p y) ((List.range h.toNat).map fun y : Nat => rowAt w p y) (((List.range h.toNat).map fun y : Nat => rowAt w p y).length : Int) y) P) ∧
      EvP (fun k => incunableref06_TwoBits.l0 k out y w h p) (· = o2) := by
  have hh := v.2.2.2.1
  have hh0 := v.2.1
  have hlen : (((List.range h.toNat).map fun y : Nat => rowAt w p y).length : Int) = h := by rw [List.length_map, List.length_range]; omega
  intro n
  induction n with
  | zero =>
    intro y out y0 hn ho hb
    refine ⟨out, hb, by omega, fun P hp => ?_, ?_⟩
    · exact EvP.step (fun k => by rw [runs_Two.l0]) (EvP.neg (by omega) hp)
    · exact EvP.step (fun k => by rw [incunableref06_TwoBits.l0]) (EvP.neg (by omega) (EvP.ret rfl))
  | succ n ih =>
    intro y out y0 hn ho hb
    have y1 : y < h := by omega
    obtain ⟨hpx, hw⟩ := rowAt_px v y0 y1
    obtain ⟨upx, uw, uo⟩ := upAt_is v y0 y1
    obtain ⟨d1, d2, m1, m2, m3, m4⟩ := modes_both upx hpx (by omega)
    have wy : wrap64 (y + 1) = y + 1 := w64 (by omega) (by omega)
    have wy2 : wrap64 (y - 1) = y - 1 := w64 (by omega) (by omega)
    obtain ⟨o1, q1, q2, q3, q4⟩ := two_row m4 m1 (rowAt w p y) ((List.range h.toNat).map fun y : Nat => rowAt w p y) (((List.range h.toNat).map fun y : Nat => rowAt w p y).length : Int) y w h p d1.length 0 out (by omega) (by omega) (by omega) hb
    obtain ⟨o2, s1, s2, s3, s4⟩ := ih (y + 1) o1 (by omega) (by omega) (by omega) q1
    have eu : upAt w p (y + 1) = rowAt w p y := by
      unfold upAt
      rw [if_neg (by omega), show y + 1 - 1 = y by omega]
    rw [eu] at s3
    refine ⟨o2, s1, s2, fun P hp => ?_, ?_⟩
    · refine EvP.step (fun k => by rw [runs_Two.l0]) (EvP.pos (by omega) (EvP.pos y0 (EvP.pos (by omega) ?_)))
      rw [rd_lines y0 y1]
      refine EvP.bind m2 ?_
      intro r_ hr_
      rw [show r_ = d1 from hr_]
      refine q3 P ?_
      rw [wy]
      exact s3 P hp
    · refine EvP.step (fun k => by rw [incunableref06_TwoBits.l0]) (EvP.pos y1 ?_)
      rw [wy2]
      refine EvP.bindv uo (EvP.bindv (rowOf_is v y0 y1) ?_)
      refine EvP.bind m3 ?_
      intro r_ hr_
      rw [show r_ = d2 from hr_]
      refine q4 _ ?_
      rw [wy]
      exact s4

theorem SameBytes06_is (l : List Int) (hl : (l.length : Int) ≤ 9223372036854775806) : EvP (fun k => incunableref02_SameBytes.f k l l) (· = true) := by
  unfold incunableref02_SameBytes.f
  refine EvP.pos rfl ?_
  refine EvP.up (L := fun k i (_ : Unit) => incunableref02_SameBytes.l0 k l l (l.length : Int) i) (fun i _ => 0 ≤ i) l.length ?_ 0 () (by omega) (by omega)
  intro i _ i0 hn ih
  refine EvP.step (fun k => by rw [incunableref02_SameBytes.l0]) ?_
  refine EvP.ite (fun i1 => EvP.pos i0 (EvP.pos i1 (EvP.pos i1 (EvP.pos rfl ?_)))) (fun _ => EvP.ret rfl)
  rw [w64 (x := i + 1) (by omega) (by omega)]
  exact ih () i1 (by omega)

theorem isBitmap06_is (w h : Int) (p : List Int) (hp : ∀ x ∈ p, 0 ≤ x) (hl : (p.length : Int) ≤ 9223372036854775806) : EvP (fun k => incunableref06_IsBitmap.f k w h p) (· = decide (Val w h p)) := by
  have no : ¬ Val w h p → EvP (fun _ : Nat => some false) (· = decide (Val w h p)) := fun z => EvP.ret (decide_eq_false z).symm
  have row : EvP (fun k => incunableref06_IsRow.f k p) (· = decide (∀ x ∈ p, x ≤ 1)) := by
    unfold incunableref06_IsRow.f
    refine EvP.up (L := fun k i (_ : Unit) => incunableref06_IsRow.l0 k p (p.length : Int) i) (fun i _ => 0 ≤ i ∧ ∀ j, 0 ≤ j → j < i → rd p j ≤ 1) p.length ?_ 0 () (by omega) ⟨by omega, fun j a b => by omega⟩
    intro i _ ⟨i0, hi⟩ hn ih
    refine EvP.step (fun k => by rw [incunableref06_IsRow.l0]) ?_
    refine EvP.ite (fun i1 => EvP.pos i0 (EvP.pos i1 (EvP.ite (fun c => EvP.ret ?_) (fun c => ?_)))) (fun i1 => EvP.ret ?_)
    · exact (decide_eq_false (fun z => by have := z _ (rd_mem i0 i1); omega)).symm
    · rw [w64 (x := i + 1) (by omega) (by omega)]
      refine ih () i1 ⟨by omega, fun j a b => ?_⟩
      by_cases z : j = i
      · subst z; omega
      · exact hi j a (by omega)
    · refine (decide_eq_true (fun x hx => ?_)).symm
      obtain ⟨n, hn', rfl⟩ := List.getElem_of_mem hx
      have := hi n (by omega) (by omega)
      rw [rd_get p n hn'] at this
      exact this
  unfold incunableref06_IsBitmap.f
  by_cases z : 0 ≤ w ∧ 0 ≤ h ∧ w ≤ 200 ∧ h ≤ 200
  · have hm := sid_mul z.1 z.2.1 z.2.2.1 z.2.2.2
    have wm : wrap64 (w * h) = w * h := w64 (by omega) (by omega)
    refine EvP.bindv (a := decide (w * h ≤ 8192)) ?_ ?_
    · unfold incunableref06_IsSize.f
      rw [if_pos z.1, if_pos z.2.2.1, if_pos z.2.1, if_pos z.2.2.2, wm]
    · rw [wm]
      refine EvP.ite (fun a => ?_) (fun a => no (fun v => a (decide_eq_true v.2.2.2.2.1)))
      refine EvP.ite (fun b => ?_) (fun b => no (fun v => b v.2.2.2.2.2.1))
      refine EvP.bind row ?_
      rintro _ rfl
      refine EvP.ret (decide_eq_decide.mpr ⟨fun c => ⟨z.1, z.2.1, z.2.2.1, z.2.2.2, of_decide_eq_true a, b, fun x hx => ⟨hp x hx, c x hx⟩⟩, fun v x hx => (v.2.2.2.2.2.2 x hx).2⟩)
  · refine EvP.bindv (a := false) ?_ (EvP.neg (by decide) (no (fun v => z ⟨v.1, v.2.1, v.2.2.1, v.2.2.2.1⟩)))
    unfold incunableref06_IsSize.f
    split
    · split
      · split
        · split
          · exact absurd ⟨by assumption, by assumption, by assumption, by assumption⟩ z
          · rfl
        · rfl
      · rfl
    · rfl

theorem RunsCodes : incunablelaw06_RunsCodes.Pure := by
  intro w h p hw hh hl
  have hl1 : (p.length : Int) ≤ 9223372036854775806 := by have := hl.2.1; omega
  have hb : ∀ x ∈ p, 0 ≤ x := fun x hx => (wf_byt hl.2.2 x hx).1
  refine EvP.rounds ?_
  unfold incunablelaw06_RunsCodes.f
  have aw : EvP (fun k => (incunablelaw06_Awake.f k).bind fun t398 => (some t398)) (· = true) := by
    refine EvP.bind Awake06_is ?_
    rintro _ rfl
    exact EvP.ret rfl
  by_cases v : Val w h p
  · obtain ⟨o1, a1, a2, a3, a4⟩ := one_all v h.toNat 0 [] (by omega) (by have := v.2.1; omega) (by have := v.2.2.2.1; show 0 + _ ≤ _; omega) (fun b hb => by cases hb)
    obtain ⟨o2, b1, b2, b3, b4⟩ := two_all v h.toNat 0 [] (by omega) (by have := v.2.1; omega) (by have := v.2.2.2.1; show 0 + _ ≤ _; omega) (fun b hb => by cases hb)
    obtain ⟨r1, p1, p2, p3⟩ := packed_is o1 a1 (by omega)
    obtain ⟨r2, q1, q2, q3⟩ := packed_is o2 b1 (by omega)
    refine EvP.bind (Q := (· = (r1, 0))) ?_ ?_
    · unfold runs_One.f
      refine EvP.bind (Valid_is w h p hb (by omega)) ?_
      rintro _ rfl
      refine EvP.pos (decide_eq_true v) ?_
      refine EvP.bind (lines_is v) ?_
      rintro _ rfl
      refine a3 _ ?_
      refine EvP.bind p1 ?_
      rintro _ rfl
      exact EvP.ret rfl
    rintro _ rfl
    refine EvP.bind (Q := (· = (r2, 0))) ?_ ?_
    · unfold runs_Two.f
      refine EvP.bind (Valid_is w h p hb (by omega)) ?_
      rintro _ rfl
      refine EvP.pos (decide_eq_true v) (EvP.pos v.1 (EvP.pos (by have := v.2.2.1; omega) ?_))
      refine EvP.bind (lines_is v) ?_
      rintro _ rfl
      rw [show upAt w p 0 = List.replicate w.toNat 0 from if_pos rfl] at b3
      refine b3 _ ?_
      refine EvP.bind q1 ?_
      rintro _ rfl
      exact EvP.ret rfl
    rintro _ rfl
    refine EvP.bind (isBitmap06_is w h p hb hl1) ?_
    rintro _ rfl
    refine EvP.pos (decide_eq_true v) (EvP.pos rfl (EvP.pos rfl ?_))
    refine EvP.bind (Q := (· = o1)) ?_ ?_
    · unfold incunableref06_OneBits.f
      exact a4
    intro r_ hr_
    rw [show r_ = o1 from hr_]
    clear hr_
    refine EvP.bind p2 ?_
    intro r_ hr_
    rw [show r_ = r1 from hr_]
    clear hr_
    refine EvP.bind (SameBytes06_is r1 (by omega)) ?_
    rintro _ rfl
    refine EvP.pos rfl ?_
    refine EvP.bind (Q := (· = o2)) ?_ ?_
    · unfold incunableref06_TwoBits.f
      exact b4
    intro r_ hr_
    rw [show r_ = o2 from hr_]
    clear hr_
    refine EvP.bind q2 ?_
    intro r_ hr_
    rw [show r_ = r2 from hr_]
    clear hr_
    refine EvP.bind (SameBytes06_is r2 (by omega)) ?_
    rintro _ rfl
    exact EvP.pos rfl aw
  · refine EvP.bind (Q := (· = ([], 30))) ?_ ?_
    · unfold runs_One.f
      refine EvP.bind (Valid_is w h p hb (by omega)) ?_
      rintro _ rfl
      rw [decide_eq_false v]
      exact EvP.neg (by decide) (EvP.ret rfl)
    rintro _ rfl
    refine EvP.bind (Q := (· = ([], 30))) ?_ ?_
    · unfold runs_Two.f
      refine EvP.bind (Valid_is w h p hb (by omega)) ?_
      rintro _ rfl
      rw [decide_eq_false v]
      exact EvP.neg (by decide) (EvP.ret rfl)
    rintro _ rfl
    refine EvP.bind (isBitmap06_is w h p hb hl1) ?_
    rintro _ rfl
    rw [decide_eq_false v]
    exact EvP.neg (by decide) (EvP.pos rfl (EvP.pos rfl (EvP.pos rfl (EvP.pos rfl aw))))

end Go.Proofs.YtknclbodinfbeaaDoor.Pure
