/- What is read in one dimension is coded to the same bits. -/
import Derived.Test.YtknclbodinfbeaaDoorPRunsAgainx13
import Derived.Test.YtknclbodinfbeaaDoorQBase
namespace Go.Proofs.YtknclbodinfbeaaDoor.Pure
open Go.RowKit Go.Proofs.YtknclbodinfbeaaDoor.PRunsAgain Go.Proofs.YtknclbodinfbeaaDoorW.PrintWords Go.Proofs.YtknclbodinfbeaaDoorW.PrintLast Go.Proofs.YtknclbodinfbeaaDoorW.PrintMore Go.Proofs.YtknclbodinfbeaaDoorW.Pu
set_option linter.unusedVariables false
set_option linter.unusedSimpArgs false
theorem EvP.of {α : Type} {g : Nat → Option α} {r : α} (m : ∀ k, LeO (g k) (g (k + 1))) {k : Nat} (h : g k = some r) : EvP g (· = r) := ⟨r, Ev.of m h, rfl⟩
theorem drop_rd {l : List Int} {i : Int} (h0 : 0 ≤ i) (h1 : i < (l.length : Int)) : l.drop i.toNat = rd l i :: l.drop (i + 1).toNat := by
  have h : i.toNat < l.length := by omega
  rw [show (i + 1).toNat = i.toNat + 1 by omega, List.drop_eq_getElem_cons h]
  congr 1
  have := rd_get l i.toNat h
  rw [show ((i.toNat : Nat) : Int) = i by omega] at this
  exact this.symm
theorem drop_end {l : List Int} {i : Int} (h1 : (l.length : Int) ≤ i) : l.drop i.toNat = [] := List.drop_eq_nil_of_le (by omega)
theorem awake06 : incunablelaw06_Awake.f 200 = some true := by decide +kernel
theorem Awake06_is : EvP (fun k => incunablelaw06_Awake.f k) (· = true) := EvP.of incunablelaw06_Awake.mono awake06

/-- A bit of some bytes. -/
def bitI (l : List Int) (i : Int) : Int := Int.tmod (shr .u8 (rd l (i / 8)) (7 - i % 8)) 2
def Byt06 (l : List Int) : Prop := (∀ y ∈ l, 0 ≤ y ∧ y ≤ 255) ∧ (l.length : Int) ≤ 140737488351232
def en (l : List Int) : Int := 8 * (l.length : Int)
theorem bit_good : (List.range 256).all (fun v => (List.range 8).all fun j => decide (0 ≤ shr .u8 (v : Int) (7 - (j : Int))) && decide (shr .u8 (v : Int) (7 - (j : Int)) ≤ 255) && decide (Go.bits .and .u8 (shr .u8 (v : Int) (7 - (j : Int))) 1 = Int.tmod (shr .u8 (v : Int) (7 - (j : Int))) 2) && (decide (Int.tmod (shr .u8 (v : Int) (7 - (j : Int))) 2 = 0) || decide (Int.tmod (shr .u8 (v : Int) (7 - (j : Int))) 2 = 1))) = true := by decide +kernel
theorem bit_at {l : List Int} (hl : Byt06 l) {i : Int} (i0 : 0 ≤ i) (i1 : i < en l) :
    0 ≤ shr .u8 (rd l (i / 8)) (7 - i % 8) ∧ shr .u8 (rd l (i / 8)) (7 - i % 8) ≤ 255 ∧ Go.bits .and .u8 (shr .u8 (rd l (i / 8)) (7 - i % 8)) 1 = bitI l i ∧ (bitI l i = 0 ∨ bitI l i = 1) := by
  unfold en at i1
  obtain ⟨v0, v1⟩ := hl.1 _ (rd_mem (l := l) (i := i / 8) (by omega) (by omega))
  have g := List.all_eq_true.mp (List.all_eq_true.mp bit_good (rd l (i / 8)).toNat (List.mem_range.mpr (by omega))) (i % 8).toNat (List.mem_range.mpr (by omega))
  rw [show (((rd l (i / 8)).toNat : Nat) : Int) = rd l (i / 8) by omega, show (((i % 8).toNat : Nat) : Int) = i % 8 by omega] at g
  simp only [Bool.and_eq_true, Bool.or_eq_true, decide_eq_true_iff] at g
  exact ⟨g.1.1.1, g.1.1.2, g.1.2, g.2⟩
theorem BitAt_is {l : List Int} (hl : Byt06 l) {i : Int} (i0 : 0 ≤ i) (i1 : i < en l) : incunableref04_BitAt.f l i = some (bitI l i, true) := by
  obtain ⟨a, b, c, d⟩ := bit_at hl i0 i1
  have h2 := hl.2
  unfold en at i1
  unfold incunableref04_BitAt.f
  rw [w64 (x := 8 * (l.length : Int)) (by omega) (by omega), if_neg (by omega), tdiv_pos i0, tmod_pos i0, w64 (x := i / 8) (by omega) (by omega), if_pos (by omega), if_pos (by omega), w64 (x := 7 - i % 8) (by omega) (by omega), if_pos (by omega), w64 (by omega) (by omega)]
  rfl
theorem BitAt_end {l : List Int} (hl : Byt06 l) {i : Int} (i1 : en l ≤ i) : incunableref04_BitAt.f l i = some (0, false) := by
  have h2 := hl.2
  unfold en at i1
  unfold incunableref04_BitAt.f
  rw [w64 (x := 8 * (l.length : Int)) (by omega) (by omega), if_pos (by omega)]
/-- The number that some bits are. -/
def valN (l : List Int) (p : Int) : Nat → Int → Int
  | 0, a => a
  | n + 1, a => valN l (p + 1) n (2 * a + bitI l p)
theorem BitsL_is {l : List Int} (hl : Byt06 l) (n : Nat) : ∀ (m : Nat) (j a p : Int), j + m = n → 0 ≤ j → n ≤ 32 → 0 ≤ p → p + m ≤ en l → 0 ≤ a → a < 2 ^ j.toNat →
    EvP (fun k => bits_Reader_Bits.l0 k a (n : Int) j l p true) (· = (valN l p m a, 0, p + m, true)) := by
  intro m
  induction m with
  | zero =>
    intro j a p hj j0 hn p0 hp a0 a1
    refine EvP.step (fun k => by rw [bits_Reader_Bits.l0]) (EvP.neg (by omega) (EvP.ret ?_))
    simp [valN]
  | succ m ih =>
    intro j a p hj j0 hn p0 hp a0 a1
    have h2 := hl.2
    have p1 : p < en l := by omega
    obtain ⟨s0, s1, s2, s3⟩ := bit_at hl p0 p1
    unfold en at hp p1
    have jl : (2 : Int) ^ j.toNat ≤ 2 ^ 32 := by
      have := Nat.pow_le_pow_right (n := 2) (by omega) (show j.toNat ≤ 32 by omega)
      exact_mod_cast this
    have jl' : (2 : Int) ^ 32 = 4294967296 := by decide
    refine EvP.step (fun k => by rw [bits_Reader_Bits.l0]) (EvP.pos (by omega) ?_)
    rw [tdiv_pos p0, tmod_pos p0, w64 (x := p / 8) (by omega) (by omega), w64 (x := 7 - p % 8) (by omega) (by omega), s2, w64 (x := 2 * a) (by omega) (by omega), w64 (x := bitI l p) (by omega) (by omega), w64 (x := j + 1) (by omega) (by omega), w64 (x := p + 1) (by omega) (by omega), w64 (x := 2 * a + bitI l p) (by omega) (by omega)]
    refine EvP.pos (by omega) (EvP.pos (by omega) (EvP.pos (by omega) ?_))
    have e : (2 : Int) ^ (j + 1).toNat = 2 * 2 ^ j.toNat := by rw [show (j + 1).toNat = j.toNat + 1 by omega, Int.pow_succ]; omega
    refine (ih (j + 1) (2 * a + bitI l p) (p + 1) (by omega) (by omega) hn (by omega) (by unfold en; omega) (by omega) (by rw [e]; omega)).mono ?_
    rintro r rfl
    rw [valN]
    congr 3
    omega
/-- Bits of a reader. -/
theorem Bits_is {l : List Int} (hl : Byt06 l) {n p : Int} (n0 : 0 ≤ n) (n1 : n ≤ 32) (p0 : 0 ≤ p) (p1 : p ≤ en l) :
    EvP (fun k => bits_Reader_Bits.f k l p true n) (· = if en l - p < n then (0, 6, p, true) else (valN l p n.toNat 0, 0, p + n, true)) := by
  have h2 := hl.2
  unfold bits_Reader_Bits.f
  refine EvP.bindv (a := (false, p, true)) rfl (EvP.neg (by simp) (EvP.neg (by omega) ?_))
  rw [show decide (n > 32) = false by simpa using n1]
  refine EvP.step (fun k => by rw [bits_Reader_Bits.j0]) (EvP.neg (by simp) ?_)
  refine EvP.bindv (a := (en l - p, p, true)) ?_ ?_
  · unfold bits_Reader_Left.f bits_Reader_none.f en
    unfold en at p1
    simp only [Option.bind_some, Bool.not_true, Bool.false_eq_true, if_false]
    rw [w64 (x := 8 * (l.length : Int)) (by omega) (by omega), w64 (by omega) (by omega)]
  · by_cases c : en l - p < n
    · rw [if_pos c]
      exact EvP.pos (by show n > en l - p; omega) (EvP.ret rfl)
    · rw [if_neg c]
      refine EvP.neg (by show ¬ n > en l - p; omega) ?_
      have := BitsL_is hl n.toNat n.toNat 0 0 p (by omega) (by omega) (by omega) p0 (by omega) (by omega) (by decide)
      rw [show ((n.toNat : Nat) : Int) = n by omega] at this
      exact this
theorem valN_bound {l : List Int} (hl : Byt06 l) : ∀ (m : Nat) (p a : Int), 0 ≤ p → p + m ≤ en l → 0 ≤ a → 0 ≤ valN l p m a ∧ valN l p m a < (a + 1) * 2 ^ m := by
  intro m
  induction m with
  | zero => intro p a p0 hp a0; simp [valN]; omega
  | succ m ih =>
    intro p a p0 hp a0
    obtain ⟨s0, s1, s2, s3⟩ := bit_at hl (i := p) p0 (by omega)
    obtain ⟨q0, q1⟩ := ih (p + 1) (2 * a + bitI l p) (by omega) (by omega) (by omega)
    rw [valN]
    refine ⟨q0, Int.lt_of_lt_of_le q1 ?_⟩
    rw [Int.pow_succ, show (a + 1) * (2 ^ m * 2) = (2 * (a + 1)) * 2 ^ m by rw [Int.mul_comm ((2 : Int) ^ m) 2, ← Int.mul_assoc, Int.mul_comm (a + 1) 2]]
    exact Int.mul_le_mul_of_nonneg_right (by omega) (Int.pow_nonneg (by omega))

/-- How a table of words is read, bit by bit. -/
inductive Tr06 where
  | leaf (i : Nat)
  | bad
  | node (a b : Tr06)
/-- Which word, or why none; the place behind. -/
def Tr06.run (l : List Int) : Tr06 → Int → Int × Int × Int
  | .leaf i, p => ((i : Int), 0, p)
  | .bad, p => (0, 3, p)
  | .node a b, p => if en l ≤ p then (0, 6, p) else if bitI l p = 0 then a.run l (p + 1) else b.run l (p + 1)
theorem Tr06.run_place (l : List Int) : ∀ (t : Tr06) (p : Int), 0 ≤ p → p ≤ en l → p ≤ (t.run l p).2.2 ∧ (t.run l p).2.2 ≤ en l := by
  intro t
  induction t with
  | leaf i => intro p h0 h1; exact ⟨Int.le_refl _, h1⟩
  | bad => intro p h0 h1; exact ⟨Int.le_refl _, h1⟩
  | node a b iha ihb =>
    intro p h0 h1
    simp only [Tr06.run]
    split
    · exact ⟨Int.le_refl _, h1⟩
    · split
      · obtain ⟨x, y⟩ := iha (p + 1) (by omega) (by omega); exact ⟨by omega, y⟩
      · obtain ⟨x, y⟩ := ihb (p + 1) (by omega) (by omega); exact ⟨by omega, y⟩
def dig0 : ByteArray := Utf8.encode (wrap32 (48 + wrap32 0))
def dig1 : ByteArray := Utf8.encode (wrap32 (48 + wrap32 1))
/-- The tree is that of a list of words, as the program tells it. -/
def wok (L : List ByteArray) : ByteArray → Tr06 → Bool
  | s, .leaf i => decide (slices_Index_string_string.f 20 L s = some (i : Int)) && (s.toList != [])
  | s, .bad => decide (slices_Index_string_string.f 20 L s = some (-1)) && decide (slices_ContainsFunc_string_string_118.f 20 L s = some false)
  | s, .node a b => decide (slices_Index_string_string.f 20 L s = some (-1)) && decide (slices_ContainsFunc_string_string_118.f 20 L s = some true) && decide (s.size + dig0.size ≤ 1000) && decide (s.size + dig1.size ≤ 1000) && wok L (s ++ dig0) a && wok L (s ++ dig1) b
theorem word_run {l : List Int} (hl : Byt06 l) (L : List ByteArray) : ∀ (t : Tr06) (s : ByteArray) (p : Int), wok L s t = true → 0 ≤ p → p ≤ en l →
    EvP (fun k => runs_reader_word.l0 k L l p true s) (· = ((t.run l p).1, (t.run l p).2.1, (t.run l p).2.2, true)) := by
  intro t
  induction t with
  | leaf i =>
    intro s p hw h0 h1
    simp only [wok, Bool.and_eq_true, decide_eq_true_iff] at hw
    refine EvP.step (fun k => by rw [runs_reader_word.l0]) ?_
    refine EvP.bind (EvP.of (fun k => slices_Index_string_string.mono L s k) hw.1) ?_
    rintro _ rfl
    refine EvP.pos (by omega) ?_
    rw [hw.2]
    refine EvP.step (fun k => by rw [runs_reader_word.j1]) ?_
    exact EvP.pos rfl (EvP.ret rfl)
  | bad =>
    intro s p hw h0 h1
    simp only [wok, Bool.and_eq_true, decide_eq_true_iff] at hw
    refine EvP.step (fun k => by rw [runs_reader_word.l0]) ?_
    refine EvP.bind (EvP.of (fun k => slices_Index_string_string.mono L s k) hw.1) ?_
    rintro _ rfl
    refine EvP.neg (by omega) ?_
    refine EvP.step (fun k => by rw [runs_reader_word.j1]) (EvP.neg (by simp) ?_)
    refine EvP.bind (EvP.of (fun k => slices_ContainsFunc_string_string_118.mono L s k) hw.2) ?_
    rintro _ rfl
    exact EvP.neg (by simp) (EvP.ret rfl)
  | node a b iha ihb =>
    intro s p hw h0 h1
    simp only [wok, Bool.and_eq_true, decide_eq_true_iff] at hw
    obtain ⟨⟨⟨⟨⟨w1, w2⟩, w3⟩, w4⟩, w5⟩, w6⟩ := hw
    refine EvP.step (fun k => by rw [runs_reader_word.l0]) ?_
    refine EvP.bind (EvP.of (fun k => slices_Index_string_string.mono L s k) w1) ?_
    rintro _ rfl
    refine EvP.neg (by omega) ?_
    refine EvP.step (fun k => by rw [runs_reader_word.j1]) (EvP.neg (by simp) ?_)
    refine EvP.bind (EvP.of (fun k => slices_ContainsFunc_string_string_118.mono L s k) w2) ?_
    rintro _ rfl
    refine EvP.pos rfl ?_
    refine EvP.bind (Bits_is hl (n := 1) (by omega) (by omega) h0 h1) ?_
    rintro _ rfl
    by_cases c : en l ≤ p
    · rw [if_pos (show en l - p < 1 by omega), Tr06.run, if_pos c]
      exact EvP.neg (by simp) (EvP.ret rfl)
    · rw [if_neg (show ¬ en l - p < 1 by omega), Tr06.run, if_neg c]
      have hv : valN l p (Int.toNat 1) 0 = bitI l p := by simp [valN]
      rw [hv]
      obtain ⟨s0, s1, s2, s3⟩ := bit_at hl h0 (show p < en l by omega)
      refine EvP.pos rfl ?_
      rcases s3 with s3 | s3
      · rw [s3, if_pos rfl]
        exact EvP.pos (show s.size + dig0.size ≤ 9223372036854775807 by omega) (iha (s ++ dig0) (p + 1) w5 (by omega) (by omega))
      · rw [s3, if_neg (by omega)]
        exact EvP.pos (show s.size + dig1.size ≤ 9223372036854775807 by omega) (ihb (s ++ dig1) (p + 1) w6 (by omega) (by omega))
def trU : Tr06 := .node (.leaf 0) (.node (.leaf 1) (.node (.leaf 2) (.node (.leaf 3) (.node (.leaf 4) (.leaf 5)))))
def trC0 : Tr06 := .node (.node (.leaf 0) (.leaf 1)) (.node (.leaf 2) (.leaf 3))
def trC1 : Tr06 := .node (.leaf 0) (.node (.leaf 1) (.node (.leaf 2) (.leaf 3)))
theorem wokU : wok tU.2 ⟨#[]⟩ trU = true := by decide +kernel
theorem wokC0 : wok tC0.2 ⟨#[]⟩ trC0 = true := by decide +kernel
theorem wokC1 : wok tC1.2 ⟨#[]⟩ trC1 = true := by decide +kernel

/-- What the reference sees among codes behind some bits: a code at its end, or whether any goes on. -/
def scan06 (pre : List Int) : List (List Int) → Nat → Bool → Nat ⊕ Bool
  | [], _, s => .inr s
  | c :: cs, i, s => if pre.length ≤ c.length ∧ c.take pre.length = pre then (if c.length = pre.length then .inl i else scan06 pre cs (i + 1) true) else scan06 pre cs (i + 1) s
def isL : Nat ⊕ Bool → Nat → Bool
  | .inl i, j => i == j
  | .inr _, _ => false
def isR : Nat ⊕ Bool → Bool → Bool
  | .inl _, _ => false
  | .inr a, b => a == b
theorem isL_eq {x : Nat ⊕ Bool} {j : Nat} (h : isL x j = true) : x = .inl j := by
  cases x with
  | inl i => simp only [isL, beq_iff_eq] at h; rw [h]
  | inr a => simp [isL] at h
theorem isR_eq {x : Nat ⊕ Bool} {b : Bool} (h : isR x b = true) : x = .inr b := by
  cases x with
  | inl i => simp [isR] at h
  | inr a => simp only [isR, beq_iff_eq] at h; rw [h]
def tok (cs : List (List Int)) : List Int → Tr06 → Bool
  | pre, .leaf i => isL (scan06 pre cs 0 false) i
  | pre, .bad => isR (scan06 pre cs 0 false) false
  | pre, .node a b => (pre == [] || isR (scan06 pre cs 0 false) true) && decide (pre.length < 16) && tok cs (pre ++ [0]) a && tok cs (pre ++ [1]) b
def good06 (ls : List S87) (cs : List (List Int)) : Bool := decide (ls.length = cs.length) && ls.all (fun x => decide (x.f0 > 0) && decide (x.f3 = 0) && decide (0 ≤ x.f1) && decide (x.f1 ≤ 20) && decide (0 ≤ x.f2) && decide (x.f2 ≤ 1000)) && cs.all (fun c => c.all (fun b => decide (b = 0) || decide (b = 1)))
theorem good_line {ls : List S87} {cs : List (List Int)} (h : good06 ls cs = true) {i : Int} (i0 : 0 ≤ i) (i1 : i < (ls.length : Int)) :
    (rd_T87 ls i).f0 > 0 ∧ (rd_T87 ls i).f3 = 0 ∧ 0 ≤ (rd_T87 ls i).f1 ∧ (rd_T87 ls i).f1 ≤ 20 ∧ 0 ≤ (rd_T87 ls i).f2 ∧ (rd_T87 ls i).f2 ≤ 1000 := by
  simp only [good06, Bool.and_eq_true, List.all_eq_true, decide_eq_true_iff] at h
  have hm : rd_T87 ls i ∈ ls := by
    unfold rd_T87
    rw [List.getD_eq_getElem?_getD, List.getElem?_eq_getElem (show i.toNat < ls.length by omega)]
    exact List.getElem_mem _
  obtain ⟨⟨⟨⟨⟨a, b⟩, c⟩, d⟩, e⟩, f⟩ := h.1.2 _ hm
  exact ⟨a, b, c, d, e, f⟩
def csU : List (List Int) := [[0], [1, 0], [1, 1, 0], [1, 1, 1, 0], [1, 1, 1, 1, 0], [1, 1, 1, 1, 1]]
def csC0 : List (List Int) := [[0, 0], [0, 1], [1, 0], [1, 1]]
def csC1 : List (List Int) := [[0], [1, 0], [1, 1, 0], [1, 1, 1]]
theorem goodU : good06 tU.1 csU = true := by decide +kernel
theorem goodC0 : good06 tC0.1 csC0 = true := by decide +kernel
theorem goodC1 : good06 tC1.1 csC1 = true := by decide +kernel

/-- A number by a table: what it is and the place behind, or why none. -/
def num06 (ls : List S87) (t : Tr06) (l : List Int) (p : Int) : Except Int (Int × Int) :=
  if (t.run l p).2.1 = 0 then
    (if en l - (t.run l p).2.2 < (rd_T87 ls (t.run l p).1).f1 then .error 6
     else .ok ((rd_T87 ls (t.run l p).1).f2 + valN l (t.run l p).2.2 (rd_T87 ls (t.run l p).1).f1.toNat 0, (t.run l p).2.2 + (rd_T87 ls (t.run l p).1).f1))
  else .error (t.run l p).2.1
/-- What the program's reader answers. -/
def PP (s : Except Int (Int × Int)) (r : Int × Int × Int × Bool) : Prop := match s with
  | .error e => e ≠ 0 ∧ r.2.1 = e
  | .ok v => r = (v.1, 0, v.2, true)
def Tr06.lt (n : Nat) : Tr06 → Bool
  | .leaf i => decide (i < n)
  | .bad => true
  | .node a b => a.lt n && b.lt n
theorem Tr06.run_lt (l : List Int) (n : Nat) : ∀ (t : Tr06) (p : Int), t.lt n = true → (t.run l p).2.1 = 0 → 0 ≤ (t.run l p).1 ∧ (t.run l p).1 < (n : Int) := by
  intro t
  induction t with
  | leaf i => intro p h _; simp only [Tr06.lt, decide_eq_true_iff] at h; simp only [Tr06.run]; omega
  | bad => intro p h e; simp [Tr06.run] at e
  | node a b iha ihb =>
    intro p h e
    simp only [Tr06.lt, Bool.and_eq_true] at h
    simp only [Tr06.run] at e ⊢
    split
    · rename_i c; rw [if_pos c] at e; simp at e
    · rename_i c
      rw [if_neg c] at e
      split
      · rename_i d; rw [if_pos d] at e; exact iha _ h.1 e
      · rename_i d; rw [if_neg d] at e; exact ihb _ h.2 e
theorem num06_ok {ls : List S87} {cs : List (List Int)} (hg : good06 ls cs = true) {t : Tr06} (ht : t.lt ls.length = true) {l : List Int} (hl : Byt06 l) {p : Int} (h0 : 0 ≤ p) (h1 : p ≤ en l) {v : Int × Int} (h : num06 ls t l p = .ok v) :
    0 ≤ v.1 ∧ v.1 < 1000 + 2000000 ∧ p ≤ v.2 ∧ v.2 ≤ en l := by
  unfold num06 at h
  split at h
  · rename_i e
    obtain ⟨i0, i1⟩ := Tr06.run_lt l ls.length t p ht e
    obtain ⟨p0, p1⟩ := Tr06.run_place l t p h0 h1
    obtain ⟨g0, g1, g2, g3, g4, g5⟩ := good_line hg i0 i1
    split at h
    · cases h
    · rename_i c
      injection h with h
      subst h
      obtain ⟨b0, b1⟩ := valN_bound hl (rd_T87 ls (t.run l p).1).f1.toNat (t.run l p).2.2 0 (by omega) (by omega) (by omega)
      have jl : (2 : Int) ^ (rd_T87 ls (t.run l p).1).f1.toNat ≤ 2 ^ 20 := by
        have := Nat.pow_le_pow_right (n := 2) (by omega) (show (rd_T87 ls (t.run l p).1).f1.toNat ≤ 20 by omega)
        exact_mod_cast this
      have jl' : (2 : Int) ^ 20 = 1048576 := by decide
      refine ⟨?_, ?_, ?_, ?_⟩ <;> simp only <;> omega
  · cases h
theorem number_is {l : List Int} (hl : Byt06 l) {ls : List S87} {cs : List (List Int)} (hg : good06 ls cs = true) {t : Tr06} (ht : t.lt ls.length = true) {L : List ByteArray} (hw : wok L ⟨#[]⟩ t = true) {p : Int} (h0 : 0 ≤ p) (h1 : p ≤ en l) :
    EvP (fun k => runs_reader_number.f k l p true ls L) (PP (num06 ls t l p)) := by
  unfold runs_reader_number.f
  refine EvP.bind (Q := (· = ((t.run l p).1, (t.run l p).2.1, (t.run l p).2.2, true))) (word_run hl L t ⟨#[]⟩ p hw h0 h1) ?_
  rintro _ rfl
  unfold num06
  by_cases e : (t.run l p).2.1 = 0
  · obtain ⟨i0, i1⟩ := Tr06.run_lt l ls.length t p ht e
    obtain ⟨p0, p1⟩ := Tr06.run_place l t p h0 h1
    obtain ⟨g0, g1, g2, g3, g4, g5⟩ := good_line hg i0 i1
    have nb := fun v => num06_ok hg ht hl h0 h1 (v := v)
    unfold num06 at nb
    rw [if_pos e] at nb ⊢
    refine EvP.pos e (EvP.pos i0 (EvP.pos i1 ?_))
    refine EvP.bind (Bits_is hl (n := (rd_T87 ls (t.run l p).1).f1) (p := (t.run l p).2.2) g2 (by omega) (by omega) p1) ?_
    rintro _ rfl
    by_cases c : en l - (t.run l p).2.2 < (rd_T87 ls (t.run l p).1).f1
    · rw [if_pos c, if_pos c]
      exact EvP.ret ⟨by omega, rfl⟩
    · rw [if_neg c] at nb
      obtain ⟨b0, b1, _, _⟩ := nb _ rfl
      rw [if_neg c, if_neg c]
      refine EvP.ret ?_
      show _ = _
      simp only at b0 b1 ⊢
      rw [w64 (by omega) (by omega), Int.add_comm]
  · rw [if_neg e]
    exact EvP.neg e (EvP.ret ⟨e, rfl⟩)
/-- A run of a colour. -/
def run06 (l : List Int) (p c : Int) : Except Int (Int × Int) := match num06 tU.1 trU l p with
  | .error e => .error e
  | .ok n => match num06 (if c = 0 then tC0.1 else tC1.1) (if c = 0 then trC0 else trC1) l n.2 with
    | .error e => .error e
    | .ok m => if m.1 ≥ 64 then .error 3 else .ok (n.1 * 64 + m.1, m.2)
theorem numC_ok {l : List Int} (hl : Byt06 l) {c p : Int} (h0 : 0 ≤ p) (h1 : p ≤ en l) {v : Int × Int} (h : num06 (if c = 0 then tC0.1 else tC1.1) (if c = 0 then trC0 else trC1) l p = .ok v) : 0 ≤ v.1 ∧ v.1 < 1000 + 2000000 ∧ p ≤ v.2 ∧ v.2 ≤ en l := by
  by_cases c0 : c = 0
  · simp only [if_pos c0] at h
    exact num06_ok goodC0 (by decide) hl h0 h1 h
  · simp only [if_neg c0] at h
    exact num06_ok goodC1 (by decide) hl h0 h1 h
theorem run06_ok {l : List Int} (hl : Byt06 l) {c p : Int} (h0 : 0 ≤ p) (h1 : p ≤ en l) {v : Int × Int} (h : run06 l p c = .ok v) : 0 ≤ v.1 ∧ v.1 < 200000000 ∧ p ≤ v.2 ∧ v.2 ≤ en l := by
  unfold run06 at h
  cases e1 : num06 tU.1 trU l p with
  | error e => rw [e1] at h; cases h
  | ok n =>
    rw [e1] at h
    obtain ⟨a, b, c', d⟩ := num06_ok goodU (by decide) hl h0 h1 e1
    simp only at h
    cases e2 : num06 (if c = 0 then tC0.1 else tC1.1) (if c = 0 then trC0 else trC1) l n.2 with
    | error e => rw [e2] at h; cases h
    | ok m =>
      rw [e2] at h
      obtain ⟨a', b', c'', d'⟩ := numC_ok hl (by omega) d e2
      simp only at h
      split at h
      · cases h
      · injection h with h
        subst h
        refine ⟨?_, ?_, ?_, ?_⟩ <;> simp only <;> omega
theorem run_is {l : List Int} (hl : Byt06 l) {c p : Int} (hc : c = 0 ∨ c = 1) (h0 : 0 ≤ p) (h1 : p ≤ en l) : EvP (fun k => runs_reader_run.f k l p true c) (PP (run06 l p c)) := by
  unfold runs_reader_run.f runs_reader_runG.f run06
  refine EvP.pos hc ?_
  refine EvP.bind (number_is hl goodU (t := trU) (by decide) wokU h0 h1) ?_
  intro r hr
  cases e1 : num06 tU.1 trU l p with
  | error e =>
    rw [e1] at hr
    obtain ⟨hr1, hr2⟩ := hr
    exact EvP.neg (by rw [hr2]; exact hr1) (EvP.ret ⟨hr1, hr2⟩)
  | ok n =>
    rw [e1] at hr
    have hr : r = (n.1, 0, n.2, true) := hr
    subst hr
    obtain ⟨a, b, c', d⟩ := num06_ok goodU (by decide) hl h0 h1 e1
    refine EvP.pos rfl ?_
    have hm : EvP (fun k => runs_reader_number.f k l n.2 true (if c = 0 then tC0.1 else tC1.1) (if c = 0 then tC0.2 else tC1.2)) (PP (num06 (if c = 0 then tC0.1 else tC1.1) (if c = 0 then trC0 else trC1) l n.2)) := by
      by_cases c0 : c = 0
      · simp only [if_pos c0]
        exact number_is hl goodC0 (t := trC0) (by decide) wokC0 (by omega) d
      · simp only [if_neg c0]
        exact number_is hl goodC1 (t := trC1) (by decide) wokC1 (by omega) d
    refine EvP.bind hm ?_
    intro r hr
    simp only
    cases e2 : num06 (if c = 0 then tC0.1 else tC1.1) (if c = 0 then trC0 else trC1) l n.2 with
    | error e =>
      rw [e2] at hr
      obtain ⟨hr1, hr2⟩ := hr
      exact EvP.neg (by rw [hr2]; exact hr1) (EvP.ret ⟨hr1, hr2⟩)
    | ok m =>
      rw [e2] at hr
      have hr : r = (m.1, 0, m.2, true) := hr
      subst hr
      obtain ⟨a', b', c'', d'⟩ := numC_ok hl (by omega) d e2
      refine EvP.pos rfl ?_
      simp only
      refine EvP.ite (fun q => EvP.ret ?_) (fun q => EvP.ret ?_)
      · rw [if_pos q]
        exact ⟨by omega, rfl⟩
      · rw [if_neg q]
        show _ = _
        rw [w64 (x := n.1 * 64) (by omega) (by omega), w64 (by omega) (by omega)]

theorem rep06 : (List.range 201).all (fun n => decide (slices_Repeat_byte_byte.f 20 [0] (n : Int) = some (List.replicate n 0)) && decide (slices_Repeat_byte_byte.f 20 [1] (n : Int) = some (List.replicate n 1))) = true := by decide +kernel
theorem rep_is {v n : Int} (h0 : 0 ≤ n) (h1 : n ≤ 200) (hv : v = 0 ∨ v = 1) : EvP (fun k => slices_Repeat_byte_byte.f k [v] n) (· = List.replicate n.toNat v) := by
  have g := List.all_eq_true.mp rep06 n.toNat (List.mem_range.mpr (by omega))
  rw [Bool.and_eq_true, decide_eq_true_iff, decide_eq_true_iff, show ((n.toNat : Nat) : Int) = n by omega] at g
  rcases hv with rfl | rfl
  · exact EvP.of (slices_Repeat_byte_byte.mono _ _) g.1
  · exact EvP.of (slices_Repeat_byte_byte.mono _ _) g.2

/-- What the program's row answers. -/
def PO (s : Except Int (List Int × Int)) (r : List Int × Int × Int × Bool) : Prop := match s with
  | .error e => e ≠ 0 ∧ r.2.1 = e
  | .ok v => r = (v.1, 0, v.2, true)
/-- A row that has been read. -/
def Row06 (l : List Int) (w p : Int) (v : List Int × Int) : Prop := (v.1.length : Int) = w ∧ (∀ x ∈ v.1, x = 0 ∨ x = 1) ∧ p ≤ v.2 ∧ v.2 ≤ en l

/-- The bits of a run, as the program makes them. -/
def rbP (n c : Int) : List Int := (runs_runBits.f 201 n c).getD []
/-- The digits of a number, the highest first. -/
def digs : Nat → Int → List Int
  | 0, _ => []
  | m + 1, e => (e / (2 ^ m : Nat) % 2) :: digs m e
theorem digs_len (m : Nat) (e : Int) : (digs m e).length = m := by
  induction m with
  | zero => rfl
  | succ m ih => simp [digs, ih]
theorem digs_add : ∀ (m k : Nat) (b x : Int), m ≤ k → digs m (b * (2 ^ k : Nat) + x) = digs m x := by
  intro m
  induction m with
  | zero => intro k b x h; rfl
  | succ m ih =>
    intro k b x h
    simp only [digs]
    rw [ih k b x (by omega)]
    congr 1
    obtain ⟨j, rfl⟩ : ∃ j, k = m + (1 + j) := ⟨k - m - 1, by omega⟩
    have e1 : ((2 ^ (m + (1 + j)) : Nat) : Int) = ((2 ^ m : Nat) : Int) * (2 * ((2 ^ j : Nat) : Int)) := by
      rw [Nat.pow_add, Nat.pow_add]; push_cast; rfl
    have hp : ((2 ^ m : Nat) : Int) ≠ 0 := by have := Nat.two_pow_pos m; omega
    rw [e1, show b * (((2 ^ m : Nat) : Int) * (2 * ((2 ^ j : Nat) : Int))) + x = x + ((2 ^ m : Nat) : Int) * (b * (2 * ((2 ^ j : Nat) : Int))) by rw [Int.add_comm]; congr 1; rw [Int.mul_left_comm], Int.add_mul_ediv_left _ _ hp]
    rw [show b * (2 * ((2 ^ j : Nat) : Int)) = 2 * (b * ((2 ^ j : Nat) : Int)) by rw [Int.mul_left_comm]]
    omega
/-- Some bits stand from a place to another. -/
def Are (l : List Int) (p q : Int) (bs : List Int) : Prop := q = p + bs.length ∧ ∀ j : Int, 0 ≤ j → j < (bs.length : Int) → bitI l (p + j) = rd bs j
theorem Are.nil (l : List Int) (p : Int) : Are l p p [] := ⟨by simp, fun j a b => by simp at b; omega⟩
theorem rd_app (a b : List Int) (j : Int) (j0 : 0 ≤ j) : rd (a ++ b) j = if j < (a.length : Int) then rd a j else rd b (j - a.length) := by
  unfold rd
  simp only [List.getD_eq_getElem?_getD]
  split
  · rw [List.getElem?_append_left (by omega)]
  · rw [List.getElem?_append_right (by omega), show j.toNat - a.length = (j - (a.length : Int)).toNat by omega]
theorem Are.app {l : List Int} {p q r : Int} {a b : List Int} (h : Are l p q a) (k : Are l q r b) : Are l p r (a ++ b) := by
  obtain ⟨h1, h2⟩ := h
  obtain ⟨k1, k2⟩ := k
  refine ⟨by rw [List.length_append]; omega, fun j j0 j1 => ?_⟩
  rw [List.length_append] at j1
  rw [rd_app a b j j0]
  split
  · rename_i c; exact h2 j j0 c
  · rename_i c
    have := k2 (j - a.length) (by omega) (by omega)
    rw [← this, h1]
    congr 1
    omega
theorem Are.cons {l : List Int} {p q b : Int} {bs : List Int} (h : bitI l p = b) (k : Are l (p + 1) q bs) : Are l p q (b :: bs) := by
  have h1 : Are l p (p + 1) [b] := ⟨by simp, fun j a c => by
    simp at c
    have : j = 0 := by omega
    subst this
    rw [Int.add_zero, h]
    rfl⟩
  exact h1.app k
theorem valN_add {l : List Int} : ∀ (m : Nat) (p a : Int), valN l p m a = a * (2 ^ m : Nat) + valN l p m 0 := by
  intro m
  induction m with
  | zero => intro p a; simp [valN]
  | succ m ih =>
    intro p a
    rw [valN, valN, ih (p + 1) (2 * a + bitI l p), ih (p + 1) (2 * 0 + bitI l p), Nat.pow_succ]
    push_cast
    rw [Int.add_mul, Int.add_mul]
    have : 2 * a * (2 ^ m : Int) = a * ((2 ^ m : Int) * 2) := by rw [Int.mul_comm 2 a, Int.mul_assoc, Int.mul_comm 2]
    omega
/-- The bits of a number that was read are its digits. -/
theorem valN_digs {l : List Int} (hl : Byt06 l) : ∀ (m : Nat) (p : Int), 0 ≤ p → p + m ≤ en l → Are l p (p + m) (digs m (valN l p m 0)) := by
  intro m
  induction m with
  | zero => intro p p0 hp; rw [show p + ((0 : Nat) : Int) = p by omega]; exact Are.nil l p
  | succ m ih =>
    intro p p0 hp
    obtain ⟨s0, s1, s2, s3⟩ := bit_at hl (i := p) p0 (by omega)
    have hv : valN l p (m + 1) 0 = bitI l p * (2 ^ m : Nat) + valN l (p + 1) m 0 := by
      rw [valN, valN_add m (p + 1) (2 * 0 + bitI l p)]
      congr 1
      rw [show 2 * 0 + bitI l p = bitI l p by omega]
    obtain ⟨b0, b1⟩ := valN_bound hl m (p + 1) 0 (by omega) (by omega) (by omega)
    rw [hv]
    simp only [digs]
    rw [digs_add m m _ _ (Nat.le_refl _)]
    refine Are.cons ?_ ?_
    · have hp2 : (0 : Int) < ((2 ^ m : Nat) : Int) := by have := Nat.two_pow_pos m; omega
      have b1' : valN l (p + 1) m 0 < ((2 ^ m : Nat) : Int) := by push_cast; omega
      rw [Int.add_comm, Int.add_mul_ediv_right _ _ (by omega), Int.ediv_eq_zero_of_lt b0 b1']
      omega
    · have := ih (p + 1) (by omega) (by omega)
      rw [show p + 1 + (m : Int) = p + ((m + 1 : Nat) : Int) by omega] at this
      exact this
/-- The way to a leaf is its code. -/
def paths (cs : List (List Int)) : List Int → Tr06 → Bool
  | pre, .leaf i => cs.getD i [] == pre
  | _, .bad => true
  | pre, .node a b => paths cs (pre ++ [0]) a && paths cs (pre ++ [1]) b
theorem path_are {l : List Int} (hl : Byt06 l) (cs : List (List Int)) : ∀ (t : Tr06) (pre : List Int) (p q : Int), paths cs pre t = true → 0 ≤ q → q ≤ en l → Are l p q pre → (t.run l q).2.1 = 0 → Are l p (t.run l q).2.2 (cs.getD (t.run l q).1.toNat []) := by
  intro t
  induction t with
  | leaf i =>
    intro pre p q h q0 q1 ha e
    simp only [paths, beq_iff_eq] at h
    simp only [Tr06.run]
    rw [show ((i : Nat) : Int).toNat = i by omega, h]
    exact ha
  | bad => intro pre p q h q0 q1 ha e; simp [Tr06.run] at e
  | node a b iha ihb =>
    intro pre p q h q0 q1 ha e
    simp only [paths, Bool.and_eq_true] at h
    simp only [Tr06.run] at e ⊢
    by_cases c : en l ≤ q
    · rw [if_pos c] at e; simp at e
    · rw [if_neg c] at e ⊢
      obtain ⟨s0, s1, s2, s3⟩ := bit_at hl q0 (show q < en l by omega)
      by_cases d : bitI l q = 0
      · rw [if_pos d] at e ⊢
        exact iha _ p (q + 1) h.1 (by omega) (by omega) (ha.app (Are.cons d (Are.nil l (q + 1)))) e
      · rw [if_neg d] at e ⊢
        exact ihb _ p (q + 1) h.2 (by omega) (by omega) (ha.app (Are.cons (show bitI l q = 1 by omega) (Are.nil l (q + 1)))) e

theorem pathU : paths csU [] trU = true := by decide +kernel
theorem pathC0 : paths csC0 [] trC0 = true := by decide +kernel
theorem pathC1 : paths csC1 [] trC1 = true := by decide +kernel
/-- A number that was read: its line, what is left, its bits. -/
theorem num_bits {ls : List S87} {cs : List (List Int)} (hg : good06 ls cs = true) {t : Tr06} (ht : t.lt ls.length = true) (hp : paths cs [] t = true) {l : List Int} (hl : Byt06 l) {p : Int} (h0 : 0 ≤ p) (h1 : p ≤ en l) {v : Int × Int} (h : num06 ls t l p = .ok v) :
    ∃ (i : Nat) (e : Int), i < ls.length ∧ 0 ≤ e ∧ e < 2 ^ (rd_T87 ls i).f1.toNat ∧ v.1 = (rd_T87 ls i).f2 + e ∧ Are l p v.2 (cs.getD i [] ++ digs (rd_T87 ls i).f1.toNat e) := by
  unfold num06 at h
  split at h
  · rename_i e
    obtain ⟨i0, i1⟩ := Tr06.run_lt l ls.length t p ht e
    obtain ⟨p0, p1⟩ := Tr06.run_place l t p h0 h1
    obtain ⟨g0, g1, g2, g3, g4, g5⟩ := good_line hg i0 i1
    split at h
    · cases h
    · rename_i c
      injection h with h
      subst h
      have hi : (((t.run l p).1.toNat : Nat) : Int) = (t.run l p).1 := by omega
      obtain ⟨b0, b1⟩ := valN_bound hl (rd_T87 ls (t.run l p).1).f1.toNat (t.run l p).2.2 0 (by omega) (by omega) (by omega)
      refine ⟨(t.run l p).1.toNat, valN l (t.run l p).2.2 (rd_T87 ls (t.run l p).1).f1.toNat 0, by omega, b0, by rw [hi]; simpa using b1, by rw [hi], ?_⟩
      rw [hi]
      have ha := path_are hl cs t [] p p hp h0 h1 (Are.nil l p) e
      refine ha.app ?_
      have := valN_digs hl (rd_T87 ls (t.run l p).1).f1.toNat (t.run l p).2.2 (by omega) (by omega)
      rw [show ((t.run l p).2.2 + (((rd_T87 ls (t.run l p).1).f1.toNat : Nat) : Int)) = (t.run l p).2.2 + (rd_T87 ls (t.run l p).1).f1 by omega] at this
      exact this
  · cases h
/-- The bits of a number by a table: of the first line that has it. -/
def encT (ls : List S87) (cs : List (List Int)) (a : Int) : List Int := match (List.range ls.length).find? (fun (i : Nat) => decide ((rd_T87 ls i).f2 ≤ a) && decide (a < (rd_T87 ls i).f2 + 2 ^ (rd_T87 ls i).f1.toNat)) with
  | some i => cs.getD i [] ++ digs (rd_T87 ls i).f1.toNat (a - (rd_T87 ls i).f2)
  | none => []
theorem encU_good : (List.range 6).all (fun i => (List.range 4).all fun a => !(decide ((rd_T87 tU.1 i).f2 ≤ (a : Int)) && decide ((a : Int) < (rd_T87 tU.1 i).f2 + 2 ^ (rd_T87 tU.1 i).f1.toNat)) || decide (encT tU.1 csU a = csU.getD i [] ++ digs (rd_T87 tU.1 i).f1.toNat ((a : Int) - (rd_T87 tU.1 i).f2))) = true := by decide +kernel
theorem encC0_good : (List.range 4).all (fun i => (List.range 64).all fun a => !(decide ((rd_T87 tC0.1 i).f2 ≤ (a : Int)) && decide ((a : Int) < (rd_T87 tC0.1 i).f2 + 2 ^ (rd_T87 tC0.1 i).f1.toNat)) || decide (encT tC0.1 csC0 a = csC0.getD i [] ++ digs (rd_T87 tC0.1 i).f1.toNat ((a : Int) - (rd_T87 tC0.1 i).f2))) = true := by decide +kernel
theorem encC1_good : (List.range 4).all (fun i => (List.range 64).all fun a => !(decide ((rd_T87 tC1.1 i).f2 ≤ (a : Int)) && decide ((a : Int) < (rd_T87 tC1.1 i).f2 + 2 ^ (rd_T87 tC1.1 i).f1.toNat)) || decide (encT tC1.1 csC1 a = csC1.getD i [] ++ digs (rd_T87 tC1.1 i).f1.toNat ((a : Int) - (rd_T87 tC1.1 i).f2))) = true := by decide +kernel
theorem rbP_good : (List.range 201).all (fun n => decide (runs_runBits.f 201 (n : Int) 0 = some (rbP n 0)) && decide (rbP n 0 = encT tU.1 csU ((n / 64 : Nat) : Int) ++ encT tC0.1 csC0 ((n % 64 : Nat) : Int)) && decide (runs_runBits.f 201 (n : Int) 1 = some (rbP n 1)) && decide (rbP n 1 = encT tU.1 csU ((n / 64 : Nat) : Int) ++ encT tC1.1 csC1 ((n % 64 : Nat) : Int)) && decide ((rbP n 0).length ≤ 64) && decide ((rbP n 1).length ≤ 64) && (rbP n 0).all (fun b => b == 0 || b == 1) && (rbP n 1).all (fun b => b == 0 || b == 1)) = true := by decide +kernel
theorem rbP_is {n c : Int} (n0 : 0 ≤ n) (n1 : n ≤ 200) (hc : c = 0 ∨ c = 1) : EvP (fun k => runs_runBits.f k n c) (· = rbP n c) ∧ rbP n c = encT tU.1 csU (n / 64) ++ (if c = 0 then encT tC0.1 csC0 (n % 64) else encT tC1.1 csC1 (n % 64)) ∧ (rbP n c).length ≤ 64 ∧ ∀ b ∈ rbP n c, b = 0 ∨ b = 1 := by
  have g := List.all_eq_true.mp rbP_good n.toNat (List.mem_range.mpr (by omega))
  simp only [Bool.and_eq_true, decide_eq_true_iff, List.all_eq_true, Bool.or_eq_true, beq_iff_eq] at g
  obtain ⟨⟨⟨⟨⟨⟨⟨a1, a2⟩, a3⟩, a4⟩, a5⟩, a6⟩, a7⟩, a8⟩ := g
  have e : ((n.toNat : Nat) : Int) = n := by omega
  have e1 : ((n.toNat / 64 : Nat) : Int) = n / 64 := by omega
  have e2 : ((n.toNat % 64 : Nat) : Int) = n % 64 := by omega
  rw [e] at a1 a2 a3 a4 a5 a6 a7 a8
  rw [e1, e2] at a2 a4
  rcases hc with rfl | rfl
  · exact ⟨EvP.of (runs_runBits.mono n 0) a1, by rw [if_pos rfl]; exact a2, a5, a7⟩
  · exact ⟨EvP.of (runs_runBits.mono n 1) a3, by rw [if_neg (by omega)]; exact a4, a6, a8⟩
/-- The bits of a run that was read are those that the program makes of it. -/
theorem run_bits {l : List Int} (hl : Byt06 l) {c p : Int} (hc : c = 0 ∨ c = 1) (h0 : 0 ≤ p) (h1 : p ≤ en l) {v : Int × Int} (h : run06 l p c = .ok v) (hv : v.1 ≤ 200) : Are l p v.2 (rbP v.1 c) := by
  unfold run06 at h
  cases e1 : num06 tU.1 trU l p with
  | error e => rw [e1] at h; cases h
  | ok n =>
    rw [e1] at h
    obtain ⟨a0, _, a1, a2⟩ := num06_ok goodU (by decide) hl h0 h1 e1
    obtain ⟨i, e, i1, e0, e2, e3, e4⟩ := num_bits goodU (by decide) pathU hl h0 h1 e1
    simp only at h
    cases e5 : num06 (if c = 0 then tC0.1 else tC1.1) (if c = 0 then trC0 else trC1) l n.2 with
    | error e => rw [e5] at h; cases h
    | ok m =>
      rw [e5] at h
      obtain ⟨b0, _, b1, b2⟩ := numC_ok hl (by omega) a2 e5
      simp only at h
      split at h
      · cases h
      · rename_i q
        injection h with h
        subst h
        simp only at hv ⊢
        obtain ⟨_, r2, _, _⟩ := rbP_is (n := n.1 * 64 + m.1) (by omega) hv hc
        rw [r2, show (n.1 * 64 + m.1) / 64 = n.1 by omega, show (n.1 * 64 + m.1) % 64 = m.1 by omega]
        have hU : Are l p n.2 (encT tU.1 csU n.1) := by
          have g := List.all_eq_true.mp (List.all_eq_true.mp encU_good i (List.mem_range.mpr i1)) n.1.toNat (List.mem_range.mpr (by omega))
          rw [show ((n.1.toNat : Nat) : Int) = n.1 by omega] at g
          simp only [Bool.or_eq_true, Bool.not_eq_true', Bool.and_eq_false_iff, decide_eq_false_iff_not, decide_eq_true_iff] at g
          rcases g with g | g
          · exact absurd g (by omega)
          · rw [g, show n.1 - (rd_T87 tU.1 i).f2 = e by omega]
            exact e4
        refine hU.app ?_
        by_cases c0 : c = 0
        · simp only [if_pos c0] at e5 ⊢
          obtain ⟨j, f, j1, f0, f2, f3, f4⟩ := num_bits goodC0 (by decide) pathC0 hl (by omega) a2 e5
          have g := List.all_eq_true.mp (List.all_eq_true.mp encC0_good j (List.mem_range.mpr j1)) m.1.toNat (List.mem_range.mpr (by omega))
          rw [show ((m.1.toNat : Nat) : Int) = m.1 by omega] at g
          simp only [Bool.or_eq_true, Bool.not_eq_true', Bool.and_eq_false_iff, decide_eq_false_iff_not, decide_eq_true_iff] at g
          rcases g with g | g
          · exact absurd g (by omega)
          · rw [g, show m.1 - (rd_T87 tC0.1 j).f2 = f by omega]
            exact f4
        · simp only [if_neg c0] at e5 ⊢
          obtain ⟨j, f, j1, f0, f2, f3, f4⟩ := num_bits goodC1 (by decide) pathC1 hl (by omega) a2 e5
          have g := List.all_eq_true.mp (List.all_eq_true.mp encC1_good j (List.mem_range.mpr j1)) m.1.toNat (List.mem_range.mpr (by omega))
          rw [show ((m.1.toNat : Nat) : Int) = m.1 by omega] at g
          simp only [Bool.or_eq_true, Bool.not_eq_true', Bool.and_eq_false_iff, decide_eq_false_iff_not, decide_eq_true_iff] at g
          rcases g with g | g
          · exact absurd g (by omega)
          · rw [g, show m.1 - (rd_T87 tC1.1 j).f2 = f by omega]
            exact f4

/-- The numbers of a list are those of bytes. -/
def Byt (p : List Int) : Prop := ∀ x ∈ p, 0 ≤ x ∧ x ≤ 255
theorem val_byt {w h : Int} {p : List Int} (v : Val w h p) : Byt p := fun x hx => ⟨(v.2.2.2.2.2.2 x hx).1, by have := (v.2.2.2.2.2.2 x hx).2; omega⟩

theorem wf_byt {p : List Int} (h : ∀ y ∈ p, (Lit.int .u8 y).wf = true) : Byt p := fun x hx => by
  have h1 : (decide (IntKind.u8.min ≤ x) && decide (x ≤ IntKind.u8.max)) = true := h x hx
  obtain ⟨a, b⟩ := Bool.and_eq_true_iff.mp h1
  exact ⟨of_decide_eq_true a, of_decide_eq_true b⟩
theorem wf_i64 {x : Int} (h : (Lit.int .i64 x).wf = true) : -9223372036854775808 ≤ x ∧ x ≤ 9223372036854775807 := by
  have h1 : (decide (IntKind.i64.min ≤ x) && decide (x ≤ IntKind.i64.max)) = true := h
  obtain ⟨a, b⟩ := Bool.and_eq_true_iff.mp h1
  exact ⟨of_decide_eq_true a, of_decide_eq_true b⟩

/-- How many pixels from the first on are of a colour; the runs of a row. -/
def rl (c : Int) : List Int → Nat
  | [] => 0
  | x :: xs => if x = c then rl c xs + 1 else 0
def rle : Nat → Int → List Int → List Int
  | 0, _, _ => []
  | _ + 1, _, [] => []
  | n + 1, c, x :: xs => (rl c (x :: xs) : Int) :: rle n ((1 - c) % 256) ((x :: xs).drop (rl c (x :: xs)))
theorem rl_le (c : Int) : ∀ l : List Int, rl c l ≤ l.length
  | [] => Nat.le_refl _
  | x :: xs => by
    have ih := rl_le c xs
    unfold rl
    split
    · rw [List.length_cons]; omega
    · exact Nat.zero_le _
theorem rl_take (c : Int) : ∀ l : List Int, l.take (rl c l) = List.replicate (rl c l) c
  | [] => rfl
  | x :: xs => by
    unfold rl
    split
    · next h => rw [List.take_succ_cons, List.replicate_succ, rl_take c xs, h]
    · rfl
theorem rl_at (c : Int) : ∀ l : List Int, ∀ x t, l.drop (rl c l) = x :: t → x ≠ c
  | [], x, t, h => by cases h
  | y :: ys, x, t, h => by
    unfold rl at h
    split at h
    · exact rl_at c ys x t h
    · next g => rw [← (List.cons.inj h).1]; exact g
theorem rl_end {p : List Int} {c i : Int} (h : (p.length : Int) ≤ i) : rl c (p.drop i.toNat) = 0 := by rw [drop_end h]; rfl
theorem rl_hit {p : List Int} {c i : Int} (i0 : 0 ≤ i) (i1 : i < (p.length : Int)) (h : rd p i = c) : rl c (p.drop i.toNat) = rl c (p.drop (i + 1).toNat) + 1 := by
  rw [drop_rd i0 i1]
  show (if _ then _ else _) = _
  rw [if_pos h]
theorem rl_miss {p : List Int} {c i : Int} (i0 : 0 ≤ i) (i1 : i < (p.length : Int)) (h : ¬ rd p i = c) : rl c (p.drop i.toNat) = 0 := by
  rw [drop_rd i0 i1]
  show (if _ then _ else _) = _
  rw [if_neg h]
theorem drop2 {p : List Int} {i : Int} {n : Nat} (i0 : 0 ≤ i) : (p.drop i.toNat).drop n = p.drop (i + n).toNat := by
  rw [List.drop_drop]
  congr 1
  omega
theorem rle_nil (n : Nat) (c : Int) : rle n c [] = [] := by cases n <;> rfl
/-- How many runs are still to come at most. -/
def left (c : Int) : List Int → Nat
  | [] => 0
  | x :: xs => xs.length + 1 + if x = c then 0 else 1
theorem left_nil {c : Int} {l : List Int} (h : left c l ≤ 0) : l = [] := by
  cases l with
  | nil => rfl
  | cons x xs =>
    exfalso
    have h : xs.length + 1 + (if x = c then 0 else 1) ≤ 0 := h
    omega
theorem left_le (c : Int) (l : List Int) : left c l ≤ l.length + 1 := by
  cases l with
  | nil => exact Nat.zero_le _
  | cons x xs =>
    show xs.length + 1 + (if x = c then 0 else 1) ≤ (x :: xs).length + 1
    rw [List.length_cons]
    split <;> omega
theorem left_step {c : Int} {x : Int} {xs : List Int} (hc : c = 0 ∨ c = 1) (h01 : ∀ y ∈ x :: xs, y = 0 ∨ y = 1) : left ((1 - c) % 256) ((x :: xs).drop (rl c (x :: xs))) + 1 ≤ left c (x :: xs) := by
  have hle := rl_le c (x :: xs)
  cases e : (x :: xs).drop (rl c (x :: xs)) with
  | nil =>
    show 0 + 1 ≤ xs.length + 1 + _
    omega
  | cons y ys =>
    have hy := rl_at c _ y ys e
    have hm : y ∈ x :: xs := List.mem_of_mem_drop (show y ∈ (x :: xs).drop (rl c (x :: xs)) by rw [e]; exact List.mem_cons_self ..)
    have hy01 := h01 y hm
    have hyc : y = (1 - c) % 256 := by omega
    have hl : ys.length + 1 = (x :: xs).length - rl c (x :: xs) := by rw [← List.length_drop, e]; rfl
    rw [List.length_cons] at hl hle
    show ys.length + 1 + (if y = (1 - c) % 256 then 0 else 1) + 1 ≤ xs.length + 1 + (if x = c then 0 else 1)
    rw [if_pos hyc]
    by_cases z : x = c
    · rw [if_pos z]
      have : rl c (x :: xs) = rl c xs + 1 := by
        show (if x = c then _ else _) = _
        rw [if_pos z]
      omega
    · rw [if_neg z]
      omega
theorem flip01 {c : Int} (hc : c = 0 ∨ c = 1) : (1 - c) % 256 = 0 ∨ (1 - c) % 256 = 1 := by omega

/-- The pixels of runs; their bits. -/
def exp06 (c : Int) : List Int → List Int
  | [] => []
  | n :: ns => List.replicate n.toNat c ++ exp06 (1 - c) ns
def cods (c : Int) : List Int → List Int
  | [] => []
  | n :: ns => rbP n c ++ cods (1 - c) ns
/-- Runs that a row has: none but the first is nothing, and it is not alone then. -/
def Rns : List Int → Prop
  | [] => True
  | n :: ns => 0 ≤ n ∧ n ≤ 200 ∧ (∀ m ∈ ns, 0 < m ∧ m ≤ 200) ∧ (n = 0 → ns ≠ [])
theorem exp06_head {c : Int} {ns : List Int} (h : ∀ m ∈ ns, 0 < m ∧ m ≤ 200) : exp06 c ns = [] ∨ ∃ t, exp06 c ns = c :: t := by
  cases ns with
  | nil => exact .inl rfl
  | cons n ns =>
    refine .inr ?_
    have := h n (List.mem_cons_self)
    obtain ⟨k, hk⟩ : ∃ k, n.toNat = k + 1 := ⟨n.toNat - 1, by omega⟩
    simp only [exp06]
    rw [hk, List.replicate_succ]
    exact ⟨_, rfl⟩
theorem rl_rep {c d : Int} (hcd : d ≠ c) : ∀ (n : Nat) (l : List Int), (l = [] ∨ ∃ t, l = d :: t) → rl c (List.replicate n c ++ l) = n := by
  intro n
  induction n with
  | zero =>
    intro l hl
    rcases hl with rfl | ⟨t, rfl⟩
    · rfl
    · simp [rl, hcd]
  | succ n ih =>
    intro l hl
    rw [List.replicate_succ, List.cons_append, rl, if_pos rfl, ih l hl]
theorem rle_exp : ∀ (f : Nat) (c : Int) (ns : List Int), (c = 0 ∨ c = 1) → ns.length ≤ f → Rns ns → rle f c (exp06 c ns) = ns := by
  intro f
  induction f with
  | zero =>
    intro c ns hc hf hr
    have : ns = [] := by cases ns with
      | nil => rfl
      | cons n ns => simp at hf
    subst this
    rfl
  | succ f ih =>
    intro c ns hc hf hr
    cases ns with
    | nil => rfl
    | cons n ns =>
      obtain ⟨r0, r1, r2, r3⟩ := hr
      have hh := exp06_head (c := 1 - c) r2
      have hrl : rl c (exp06 c (n :: ns)) = n.toNat := by
        simp only [exp06]
        exact rl_rep (d := 1 - c) (by omega) n.toNat _ hh
      have hd : (exp06 c (n :: ns)).drop n.toNat = exp06 (1 - c) ns := by
        simp only [exp06]
        rw [List.drop_append_of_le_length (by simp), List.drop_of_length_le (by simp), List.nil_append]
      have hne : ∃ x t, exp06 c (n :: ns) = x :: t := by
        by_cases z : n = 0
        · obtain ⟨m, ms, hm⟩ : ∃ m ms, ns = m :: ms := by
            cases ns with
            | nil => exact absurd rfl (r3 z)
            | cons m ms => exact ⟨m, ms, rfl⟩
          rcases hh with h0 | ⟨t, ht⟩
          · have hm0 := (r2 m (by rw [hm]; exact List.mem_cons_self)).1
            have hl := congrArg List.length h0
            rw [hm] at hl
            simp only [exp06, List.length_append, List.length_replicate, List.length_nil] at hl
            omega
          · refine ⟨1 - c, t, ?_⟩
            simp only [exp06]
            rw [z, ht]
            rfl
        · obtain ⟨k, hk⟩ : ∃ k, n.toNat = k + 1 := ⟨n.toNat - 1, by omega⟩
          simp only [exp06]
          rw [hk, List.replicate_succ]
          exact ⟨_, _, rfl⟩
      obtain ⟨x, t, ht⟩ := hne
      have e : rle (f + 1) c (x :: t) = (rl c (x :: t) : Int) :: rle f ((1 - c) % 256) ((x :: t).drop (rl c (x :: t))) := rfl
      rw [ht, e, ← ht, hrl, hd, show (1 - c) % 256 = 1 - c by omega, ih (1 - c) ns (by omega) (by simp at hf; omega) (by
        cases ns with
        | nil => trivial
        | cons m ms =>
          have hm := r2 m List.mem_cons_self
          exact ⟨by omega, hm.2, fun y hy => r2 y (List.mem_cons_of_mem _ hy), fun z => by omega⟩)]
      congr 1
      omega
/-- A row that is read: its runs, and that the bits read are those of the runs. -/
theorem one_read {l : List Int} (hl : Byt06 l) {w : Int} (w0 : 0 ≤ w) (w1 : w ≤ 200) : ∀ (d : Nat) (row : List Int) (i p : Int), 2 * (w - (row.length : Int)) + (if i = 0 then 1 else 0) ≤ d → 0 ≤ i → i ≤ (row.length : Int) + 1 → (row.length : Int) ≤ w → (∀ x ∈ row, x = 0 ∨ x = 1) → 0 ≤ p → p ≤ en l →
    ∃ s : Except Int (List Int × Int), EvP (fun k => runs_reader_one.l0 k w row i l p true) (PO s) ∧ ∀ v, s = .ok v → Row06 l w p v ∧
      ∃ ns : List Int, v.1 = row ++ exp06 (i % 2) ns ∧ Are l p v.2 (cods (i % 2) ns) ∧ Rns ns ∧ (i > 0 → ∀ n ∈ ns, 0 < n) ∧ ((row.length : Int) < w → ns ≠ []) ∧ (ns.length : Int) ≤ w - (row.length : Int) + 1 := by
  intro d
  induction d with
  | zero =>
    intro row i p hd i0 i1 hr hx p0 p1
    refine ⟨.ok (row, p), ?_, fun v hv => ?_⟩
    · exact EvP.step (fun k => by rw [runs_reader_one.l0]) (EvP.neg (by split at hd <;> omega) (EvP.ret rfl))
    · cases hv
      exact ⟨⟨by show (row.length : Int) = w; split at hd <;> omega, hx, Int.le_refl _, p1⟩, [], by simp [exp06], Are.nil l p, trivial, (fun _ n hn => by cases hn), fun z => by split at hd <;> omega, by simp; omega⟩
  | succ d ih =>
    intro row i p hd i0 i1 hr hx p0 p1
    by_cases c : (row.length : Int) < w
    · have hc : i % 2 = 0 ∨ i % 2 = 1 := by omega
      have hP := run_is hl hc p0 p1
      cases hs : run06 l p (i % 2) with
      | error e =>
        rw [hs] at hP
        refine ⟨.error e, ?_, fun v hv => by cases hv⟩
        refine EvP.step (fun k => by rw [runs_reader_one.l0]) (EvP.pos c ?_)
        rw [tmod_pos i0]
        refine EvP.bind hP ?_
        rintro r ⟨h1, h2⟩
        exact EvP.neg (by rw [h2]; exact h1) (EvP.ret ⟨h1, h2⟩)
      | ok n =>
        obtain ⟨n0, n1, q0, q1⟩ := run06_ok hl p0 p1 hs
        rw [hs] at hP
        by_cases bad : (n.1 = 0 ∧ i > 0) ∨ n.1 > w - (row.length : Int)
        · refine ⟨.error 3, ?_, fun v hv => by cases hv⟩
          refine EvP.step (fun k => by rw [runs_reader_one.l0]) (EvP.pos c ?_)
          rw [tmod_pos i0]
          refine EvP.bind hP ?_
          intro r hr'
          have hr' : r = (n.1, 0, n.2, true) := hr'
          subst hr'
          refine EvP.pos rfl ?_
          rw [w64 (x := w - (row.length : Int)) (by omega) (by omega)]
          have fin : ∀ k : Nat → Option (List Int × Int × Int × Bool), EvP (fun n' => if n.1 > w - (row.length : Int) then some (([] : List Int), 3, n.2, true) else k n') (PO (.error 3)) ∨ ¬ n.1 > w - (row.length : Int) := fun k => by
            by_cases z : n.1 > w - (row.length : Int)
            · exact .inl (EvP.pos z (EvP.ret ⟨by omega, rfl⟩))
            · exact .inr z
          refine EvP.ite (fun z => EvP.ite (fun y => EvP.ret ⟨by omega, rfl⟩) (fun y => ?_)) (fun z => ?_)
          · exact (fin _).resolve_right (fun u => u (by omega))
          · exact (fin _).resolve_right (fun u => u (by omega))
        · have b1 : ¬ (n.1 = 0 ∧ i > 0) := fun z => bad (.inl z)
          have b2 : ¬ n.1 > w - (row.length : Int) := fun z => bad (.inr z)
          have hlen : ((row ++ List.replicate n.1.toNat (i % 2)).length : Int) = (row.length : Int) + n.1 := by simp; omega
          obtain ⟨s, s1, s3⟩ := ih (row ++ List.replicate n.1.toNat (i % 2)) (i + 1) n.2 (by rw [hlen, if_neg (by omega)]; split at hd <;> omega) (by omega) (by rw [hlen]; omega) (by rw [hlen]; omega)
            (fun x hx' => (List.mem_append.mp hx').elim (fun z => hx x z) (fun z => by rw [(List.mem_replicate.mp z).2]; exact hc)) (by omega) q1
          refine ⟨s, ?_, fun v hv => ?_⟩
          · refine EvP.step (fun k => by rw [runs_reader_one.l0]) (EvP.pos c ?_)
            rw [tmod_pos i0]
            refine EvP.bind hP ?_
            intro r hr'
            have hr' : r = (n.1, 0, n.2, true) := hr'
            subst hr'
            refine EvP.pos rfl ?_
            rw [w64 (x := w - (row.length : Int)) (by omega) (by omega), w64 (x := i + 1) (by omega) (by omega), show i % 2 % 256 = i % 2 by omega]
            have fin : EvP (fun k => if n.1 > w - (row.length : Int) then some (([] : List Int), 3, n.2, true) else ((slices_Repeat_byte_byte.f k ([i % 2] : List Int) n.1).bind fun t394 => (if row.length + t394.length < 140737488355328 then (runs_reader_one.l0 k w (row ++ t394) (i + 1) l n.2 true) else (none)))) (PO s) := by
              refine EvP.neg b2 ?_
              refine EvP.bind (rep_is n0 (by omega) hc) ?_
              rintro _ rfl
              exact EvP.pos (by simp; omega) s1
            exact EvP.ite (fun z => EvP.neg (fun y => b1 ⟨z, y⟩) fin) (fun z => fin)
          · obtain ⟨⟨x1, x2, x3, x4⟩, ns, y1, y2, y3, y4, y5, y6⟩ := s3 v hv
            rw [show (i + 1) % 2 = 1 - i % 2 by omega] at y1 y2
            rw [hlen] at y5 y6
            have hb := run_bits hl hc p0 p1 hs (by omega)
            have hpos : ∀ m ∈ ns, 0 < m ∧ m ≤ 200 := fun m hm => by
              refine ⟨y4 (by omega) m hm, ?_⟩
              cases ns with
              | nil => cases hm
              | cons a bs =>
                obtain ⟨_, z1, z2, _⟩ := y3
                rcases List.mem_cons.mp hm with rfl | hm
                · exact z1
                · exact (z2 m hm).2
            refine ⟨⟨x1, x2, by omega, x4⟩, n.1 :: ns, ?_, ?_, ⟨n0, by omega, hpos, fun z => y5 (by omega)⟩, fun z m hm => ?_, fun _ => by simp, ?_⟩
            · rw [y1, List.append_assoc]; rfl
            · exact hb.app y2
            · rcases List.mem_cons.mp hm with rfl | hm
              · have : ¬ n.1 = 0 := fun u => b1 ⟨u, z⟩
                omega
              · exact (hpos m hm).1
            · by_cases z : n.1 = 0
              · -- the first run alone may be nothing; the rest are pixels
                have hi : i = 0 := by
                  have : ¬ i > 0 := fun u => b1 ⟨z, u⟩
                  omega
                have hsum : ∀ (ms : List Int) (cc : Int), (∀ m ∈ ms, 0 < m ∧ m ≤ 200) → (ms.length : Int) ≤ ((exp06 cc ms).length : Int) := by
                  intro ms
                  induction ms with
                  | nil => intro cc _; simp
                  | cons a bs ihh =>
                    intro cc hm
                    have h1 := hm a List.mem_cons_self
                    have h2 := ihh (1 - cc) (fun m hmm => hm m (List.mem_cons_of_mem _ hmm))
                    simp only [exp06, List.length_append, List.length_replicate, List.length_cons]
                    omega
                have h1 := hsum ns (1 - i % 2) hpos
                have h2 := congrArg List.length y1
                rw [List.length_append] at h2
                simp only [List.length_cons]
                omega
              · simp only [List.length_cons]
                omega
    · refine ⟨.ok (row, p), ?_, fun v hv => ?_⟩
      · exact EvP.step (fun k => by rw [runs_reader_one.l0]) (EvP.neg c (EvP.ret rfl))
      · cases hv
        exact ⟨⟨by show (row.length : Int) = w; omega, hx, Int.le_refl _, p1⟩, [], by simp [exp06], Are.nil l p, trivial, (fun _ n hn => by cases hn), fun z => absurd z c, by simp; omega⟩

/-- A row of pixels. -/
def Px (l : List Int) : Prop := (l.length : Int) ≤ 200 ∧ ∀ y ∈ l, y = 0 ∨ y = 1
theorem Px.at {l : List Int} (h : Px l) {i : Int} (i0 : 0 ≤ i) (i1 : i < (l.length : Int)) : rd l i = 0 ∨ rd l i = 1 := h.2 _ (rd_mem i0 i1)

instance (w h : Int) (p : List Int) : Decidable (Val w h p) := by unfold Val; exact inferInstance
theorem sid_mul {w h : Int} (hw : 0 ≤ w) (hh : 0 ≤ h) (hw' : w ≤ 200) (hh' : h ≤ 200) : 0 ≤ w * h ∧ w * h ≤ 40000 := by
  have h1 : 0 ≤ w * h := Int.mul_nonneg hw hh
  have h2 : w * h ≤ 200 * h := Int.mul_le_mul_of_nonneg_right hw' hh
  omega

theorem fits_is (w h : Int) : bitmap_fits.f w h = some (decide (Sid w h)) := by
  unfold bitmap_fits.f
  by_cases h1 : 0 ≤ w ∧ 0 ≤ h ∧ w ≤ 200 ∧ h ≤ 200
  · obtain ⟨a, b, c, d⟩ := h1
    have := sid_mul a b c d
    rw [if_pos (by omega), if_pos (by omega), if_pos c, if_pos d, w64 (by omega) (by omega)]
    simp [Sid, a, b, c, d]
  · have h2 : ¬ Sid w h := fun s => h1 ⟨s.1, s.2.1, s.2.2.1, s.2.2.2.1⟩
    simp only [h2, decide_false]
    split
    · split
      · split
        · split
          · omega
          · rfl
        · rfl
      · rfl
    · rfl

theorem Valid_l0 (p : List Int) (hl : (p.length : Int) ≤ 9223372036854775807) : EvP (fun k => bitmap_Valid.l0 k p (p.length : Int) 0) (· = decide (∀ x ∈ p, x ≤ 1)) := by
  refine EvP.up (L := fun k i (_ : Unit) => bitmap_Valid.l0 k p (p.length : Int) i) (fun i _ => 0 ≤ i ∧ ∀ j, 0 ≤ j → j < i → rd p j ≤ 1) p.length ?_ 0 () (by omega) ⟨by omega, fun j _ _ => by omega⟩
  intro i _ ⟨h0, hb⟩ hi ih
  refine EvP.step (fun k => by rw [bitmap_Valid.l0]) ?_
  refine EvP.ite (fun h1 => ?_) (fun h1 => ?_)
  · refine EvP.pos h0 (EvP.pos h1 (EvP.ite (fun h2 => EvP.ret ?_) (fun h2 => ?_)))
    · symm
      rw [decide_eq_false_iff_not]
      intro hall
      have := hall _ (rd_mem h0 h1)
      omega
    · rw [w64 (by omega) (by omega)]
      refine ih () h1 ⟨by omega, fun j hj hj' => ?_⟩
      rcases Int.lt_or_le j i with hji | hji
      · exact hb j hj hji
      · have : j = i := by omega
        subst this
        omega
  · refine EvP.ret ?_
    symm
    rw [decide_eq_true_iff]
    intro x hx
    obtain ⟨n, hn, rfl⟩ := List.getElem_of_mem hx
    have := hb (n : Int) (by omega) (by omega)
    rwa [rd_get p n hn] at this
theorem Valid_is (w h : Int) (p : List Int) (hp : ∀ x ∈ p, 0 ≤ x) (hl : (p.length : Int) ≤ 9223372036854775807) : EvP (fun k => bitmap_Valid.f k w h p) (· = decide (Val w h p)) := by
  unfold bitmap_Valid.f
  refine EvP.bindv (fits_is w h) ?_
  refine EvP.ite (fun h1 => ?_) (fun h1 => ?_)
  · rw [decide_eq_true_iff] at h1
    have hm := sid_mul h1.1 h1.2.1 h1.2.2.1 h1.2.2.2.1
    rw [w64 (by omega) (by omega)]
    refine EvP.step (fun k => by rw [bitmap_Valid.j0]) ?_
    refine EvP.ite (fun h2 => EvP.ret ?_) (fun h2 => ?_)
    · symm
      rw [decide_eq_false_iff_not]
      intro v
      simp [v.2.2.2.2.2.1] at h2
    · refine (Valid_l0 p hl).mono ?_
      rintro r rfl
      have e : (p.length : Int) = w * h := by simpa using h2
      apply decide_eq_decide.mpr
      constructor
      · intro hall
        exact ⟨h1.1, h1.2.1, h1.2.2.1, h1.2.2.2.1, h1.2.2.2.2, e, fun x hx => ⟨hp x hx, hall x hx⟩⟩
      · intro v x hx
        exact (v.2.2.2.2.2.2 x hx).2
  · refine EvP.step (fun k => by rw [bitmap_Valid.j0]) ?_
    refine EvP.pos rfl (EvP.ret ?_)
    symm
    rw [decide_eq_false_iff_not]
    intro v
    exact h1 (decide_eq_true v.sid)

/-- Row y of a valid bitmap. -/
def rowAt (w : Int) (p : List Int) (y : Int) : List Int := (p.take ((y + 1) * w).toNat).drop (y * w).toNat
theorem rowAt_px {w h : Int} {p : List Int} (v : Val w h p) {y : Int} (y0 : 0 ≤ y) (y1 : y < h) : Px (rowAt w p y) ∧ ((rowAt w p y).length : Int) = w := by
  obtain ⟨w0, h0, w1, h1, _, hl, hp⟩ := v
  have a : 0 ≤ y * w := Int.mul_nonneg y0 w0
  have b : (y + 1) * w ≤ h * w := Int.mul_le_mul_of_nonneg_right (by omega) w0
  have c : (y + 1) * w = y * w + w := by rw [Int.add_mul, Int.one_mul]
  have hlen : ((rowAt w p y).length : Int) = w := by
    unfold rowAt
    rw [List.length_drop, List.length_take]
    rw [Int.mul_comm h w] at b
    omega
  refine ⟨⟨by omega, fun z hz => ?_⟩, hlen⟩
  have := hp z (List.mem_of_mem_take (List.mem_of_mem_drop hz))
  omega
theorem mulB {w h y : Int} {p : List Int} (v : Val w h p) (y0 : 0 ≤ y) (y1 : y < h) : 0 ≤ y * w ∧ y * w ≤ (y + 1) * w ∧ (y + 1) * w ≤ (p.length : Int) ∧ (p.length : Int) ≤ 8192 := by
  obtain ⟨w0, h0, w1, h1, hm, hl, hp⟩ := v
  have a : 0 ≤ y * w := Int.mul_nonneg y0 w0
  have b : (y + 1) * w ≤ h * w := Int.mul_le_mul_of_nonneg_right (by omega) w0
  have c : (y + 1) * w = y * w + w := by rw [Int.add_mul, Int.one_mul]
  rw [Int.mul_comm h w] at b
  omega
theorem lines_is {w h : Int} {p : List Int} (v : Val w h p) : EvP (fun k => runs_lines.f k w h p) (· = (List.range h.toNat).map fun y : Nat => rowAt w p y) := by
  have hh := v.2.1
  have hh2 := v.2.2.2.1
  unfold runs_lines.f
  refine EvP.up (L := fun k i (s : List (List Int)) => runs_lines.l0 k s h i w h p) (fun i s => 0 ≤ i ∧ s = (List.range i.toNat).map fun y : Nat => rowAt w p y) h ?_ 0 [] hh ⟨Int.le_refl _, rfl⟩
  intro i s ⟨i0, hs⟩ hn ih
  refine EvP.step (fun k => by rw [runs_lines.l0]) (EvP.ite (fun i1 => ?_) (fun i1 => EvP.ret ?_))
  · obtain ⟨a, b, c, d⟩ := mulB v i0 i1
    have wi : wrap64 (i + 1) = i + 1 := w64 (by omega) (by omega)
    have w1 : wrap64 (i * w) = i * w := w64 (by omega) (by omega)
    have w2 : wrap64 ((i + 1) * w) = (i + 1) * w := w64 (by omega) (by omega)
    rw [wi, w1, w2]
    refine EvP.pos a (EvP.pos b (EvP.pos c (EvP.pos (by rw [hs, List.length_map, List.length_range]; omega) ?_)))
    refine ih _ i1 ⟨by omega, ?_⟩
    rw [hs, show (i + 1).toNat = i.toNat + 1 by omega, List.range_succ, List.map_append, List.map_singleton, show ((i.toNat : Nat) : Int) = i by omega]
    rfl
  · rw [hs, show i = h by omega]
def B01 (l : List Int) : Prop := ∀ b ∈ l, b = 0 ∨ b = 1
theorem B01.app {l m : List Int} (h : B01 l) (k : B01 m) : B01 (l ++ m) := fun b hb => (List.mem_append.mp hb).elim (h b) (k b)
theorem par2 (i : Int) (h : 0 ≤ i) : Int.tmod i 2 = 0 ∨ Int.tmod i 2 = 1 := by
  rw [Int.tmod_eq_emod_of_nonneg h]
  omega
/-- The runs of one row: the same bits behind what there is. -/
theorem rle_len : ∀ (n : Nat) (c : Int) (l : List Int), (rle n c l).length ≤ n := by
  intro n
  induction n with
  | zero => intro c l; exact Nat.le_refl _
  | succ n ih =>
    intro c l
    cases l with
    | nil => exact Nat.zero_le _
    | cons x xs => exact Nat.succ_le_succ (ih _ _)
theorem rle_in : ∀ (n : Nat) (c : Int) (l : List Int), (l.length : Int) ≤ 200 → ∀ x ∈ rle n c l, 0 ≤ x ∧ x ≤ 200 := by
  intro n
  induction n with
  | zero => intro c l hl x hx; cases hx
  | succ n ih =>
    intro c l hl x hx
    cases l with
    | nil => cases hx
    | cons z zs =>
      have hle := rl_le c (z :: zs)
      rcases List.mem_cons.mp hx with rfl | hx
      · omega
      · exact ih _ _ (by rw [List.length_drop]; omega) x hx
theorem rd_lines {w h : Int} {p : List Int} {i : Int} (i0 : 0 ≤ i) (i1 : i < h) : rd_L8 ((List.range h.toNat).map fun y : Nat => rowAt w p y) i = rowAt w p i := by
  have hi : i.toNat < h.toNat := by omega
  simp [rd_L8, List.getD, List.getElem?_map, List.getElem?_range hi, show ((i.toNat : Nat) : Int) = i by omega]

theorem row_in (p : List Int) (out : List Int) (c a : Int) (P : List Int → Prop) (ho : (out.length : Int) ≤ 300) (hp : (p.length : Int) ≤ 200) (a0 : 0 ≤ a) (a1 : a ≤ p.length)
    (h : EvP (fun k => runs_row.l0 k p (out ++ [((rl c (p.drop a.toNat) : Nat) : Int)]) ((1 - c) % 256) (a + (rl c (p.drop a.toNat) : Nat))) P) : EvP (fun k => runs_row.l1 k p out c a a) P := by
  refine EvP.up (L := fun k j (_ : Unit) => runs_row.l1 k p out c j a) (fun j _ => a ≤ j ∧ j + (rl c (p.drop j.toNat) : Nat) = a + (rl c (p.drop a.toNat) : Nat)) p.length ?_ a () a1 ⟨Int.le_refl _, rfl⟩
  intro j _ ⟨j0, hj⟩ hn ih
  refine EvP.step (fun k => by rw [runs_row.l1]) ?_
  have out1 : (rl c (p.drop j.toNat) : Nat) = 0 → EvP (fun k => if out.length < 17592186044416 then runs_row.l0 k p (out ++ [wrap64 (j - a)]) ((1 - c) % 256) j else none) P := fun z => by
    refine EvP.pos (by omega) ?_
    rw [w64 (by omega) (by omega), show j - a = ((rl c (p.drop a.toNat) : Nat) : Int) by omega]
    rw [show j = a + (rl c (p.drop a.toNat) : Nat) by omega]
    exact h
  refine EvP.ite (fun j1 => EvP.pos (by omega) (EvP.ite (fun e => ?_) (fun e => out1 (rl_miss (by omega) j1 e)))) (fun j1 => out1 (rl_end (by omega)))
  have := rl_hit (by omega) j1 e
  rw [w64 (x := j + 1) (by omega) (by omega)]
  exact ih () j1 ⟨by omega, by omega⟩
theorem rowP_is (p : List Int) (hp : (p.length : Int) ≤ 200) (h01 : ∀ y ∈ p, y = 0 ∨ y = 1) : ∀ (n : Nat) (out : List Int) (c a : Int), (c = 0 ∨ c = 1) → 0 ≤ a → a ≤ p.length → out.length + n ≤ 300 → left c (p.drop a.toNat) ≤ n →
    EvP (fun k => runs_row.l0 k p out c a) (· = out ++ rle n c (p.drop a.toNat)) := by
  intro n
  induction n with
  | zero =>
    intro out c a hc a0 a1 ho hn
    have e : ¬ a < (p.length : Int) := fun z => by
      have := congrArg List.length (left_nil hn)
      rw [List.length_drop] at this
      have : p.length - a.toNat = 0 := this
      omega
    refine EvP.step (fun k => by rw [runs_row.l0]) ?_
    refine EvP.neg e (EvP.ret ?_)
    rw [rle, List.append_nil]
  | succ n ih =>
    intro out c a hc a0 a1 ho hn
    by_cases e : a < (p.length : Int)
    · have hd := drop_rd a0 e
      have hle := rl_le c (p.drop a.toNat)
      rw [List.length_drop] at hle
      have hs := left_step (c := c) (x := rd p a) (xs := p.drop (a + 1).toNat) hc (fun y hy => h01 y (List.mem_of_mem_drop (show y ∈ p.drop a.toNat by rw [hd]; exact hy)))
      rw [← hd, drop2 a0] at hs
      have er : rle (n + 1) c (p.drop a.toNat) = ((rl c (p.drop a.toNat) : Nat) : Int) :: rle n ((1 - c) % 256) (p.drop (a + (rl c (p.drop a.toNat) : Nat)).toNat) := by
        rw [← drop2 a0, hd]
        rfl
      have i1 := ih (out ++ [((rl c (p.drop a.toNat) : Nat) : Int)]) ((1 - c) % 256) (a + (rl c (p.drop a.toNat) : Nat)) (flip01 hc) (by omega) (by omega) (by rw [List.length_append]; show out.length + 1 + n ≤ 300; omega) (by omega)
      rw [List.append_assoc] at i1
      rw [er]
      refine EvP.step (fun k => by rw [runs_row.l0]) ?_
      refine EvP.pos e ?_
      exact row_in p out c a _ (by omega) hp a0 a1 i1
    · refine EvP.step (fun k => by rw [runs_row.l0]) ?_
      refine EvP.neg e (EvP.ret ?_)
      rw [drop_end (by omega), rle_nil, List.append_nil]

theorem orShl_good : (List.range 256).all (fun v => (List.range 8).all fun j => v % 2 ^ (8 - j) != 0 || ((List.range 2).all fun b =>
    decide (Go.bits .or .u8 (v : Int) (shl .u8 (b : Int) (7 - (j : Int))) = ((v : Int) + shl .u8 (b : Int) (7 - (j : Int))) % 256) && decide (((v : Int) + shl .u8 (b : Int) (7 - (j : Int))) % 256 % (2 ^ (7 - j) : Nat) = 0))) = true := by decide +kernel
theorem orShl {v b : Int} {j : Nat} (v0 : 0 ≤ v) (v1 : v ≤ 255) (hj : j < 8) (hb : b = 0 ∨ b = 1) (hz : v % (2 ^ (8 - j) : Nat) = 0) :
    Go.bits .or .u8 v (shl .u8 b (7 - (j : Int))) = (v + shl .u8 b (7 - (j : Int))) % 256 ∧ (v + shl .u8 b (7 - (j : Int))) % 256 % (2 ^ (7 - j) : Nat) = 0 := by
  have g := List.all_eq_true.mp (List.all_eq_true.mp orShl_good v.toNat (List.mem_range.mpr (by omega))) j (List.mem_range.mpr hj)
  obtain ⟨n, rfl⟩ : ∃ n : Nat, v = n := ⟨v.toNat, by omega⟩
  rw [Int.toNat_natCast, Bool.or_eq_true] at g
  have hz' : n % 2 ^ (8 - j) = 0 := by exact_mod_cast hz
  rcases g with g | g
  · simp [hz'] at g
  · obtain ⟨m, rfl⟩ : ∃ m : Nat, b = m := ⟨b.toNat, by omega⟩
    have g := List.all_eq_true.mp g m (List.mem_range.mpr (by omega))
    rw [Bool.and_eq_true, decide_eq_true_iff, decide_eq_true_iff] at g
    exact g

theorem packBit_good : (List.range 256).all (fun v => (List.range 8).all fun m => v % 2 ^ (8 - m) != 0 || ((List.range 2).all fun b => (List.range 8).all fun j =>
    let u := ((v : Int) + shl .u8 (b : Int) (7 - (m : Int))) % 256
    decide (m < j) || decide (Int.tmod (shr .u8 u (7 - (j : Int))) 2 = if j = m then (b : Int) else Int.tmod (shr .u8 (v : Int) (7 - (j : Int))) 2))) = true := by decide +kernel
theorem packBit {v b : Int} {m j : Nat} (v0 : 0 ≤ v) (v1 : v ≤ 255) (hm : m < 8) (hj : j ≤ m) (hb : b = 0 ∨ b = 1) (hz : v % (2 ^ (8 - m) : Nat) = 0) :
    Int.tmod (shr .u8 ((v + shl .u8 b (7 - (m : Int))) % 256) (7 - (j : Int))) 2 = if j = m then b else Int.tmod (shr .u8 v (7 - (j : Int))) 2 := by
  have g := List.all_eq_true.mp (List.all_eq_true.mp packBit_good v.toNat (List.mem_range.mpr (by omega))) m (List.mem_range.mpr hm)
  obtain ⟨n, rfl⟩ : ∃ n : Nat, v = n := ⟨v.toNat, by omega⟩
  rw [Int.toNat_natCast, Bool.or_eq_true] at g
  have hz' : n % 2 ^ (8 - m) = 0 := by exact_mod_cast hz
  rcases g with g | g
  · simp [hz'] at g
  · obtain ⟨q, rfl⟩ : ∃ q : Nat, b = q := ⟨b.toNat, by omega⟩
    have g := List.all_eq_true.mp (List.all_eq_true.mp g q (List.mem_range.mpr (by omega))) j (List.mem_range.mpr (by omega))
    simp only [Bool.or_eq_true, decide_eq_true_iff] at g
    rcases g with g | g
    · omega
    · exact g
theorem packP_l0 (bs : List Int) (hb : ∀ b ∈ bs, b = 0 ∨ b = 1) (hl : (bs.length : Int) ≤ 100000000) : ∀ (n : Nat) (i : Int) (x : List Int), 0 ≤ i → (bs.length : Int) - i = n → (x.length : Int) = ((bs.length : Int) + 7) / 8 → (∀ j, 0 ≤ j → j < (x.length : Int) → 0 ≤ rd x j ∧ rd x j ≤ 255) →
    (∀ j, i / 8 < j → j < (x.length : Int) → rd x j = 0) → (i / 8 < (x.length : Int) → rd x (i / 8) % (2 ^ (8 - (i % 8).toNat) : Nat) = 0) → (∀ j, 0 ≤ j → j < i → bitI x j = rd bs j) →
    ∃ r : List Int, EvP (fun k => bits_Pack.l0 k x bs (bs.length : Int) i) (· = (r, 0)) ∧ r.length = x.length ∧ (∀ j, 0 ≤ j → j < (r.length : Int) → 0 ≤ rd r j ∧ rd r j ≤ 255) ∧ (∀ j, 0 ≤ j → j < (bs.length : Int) → bitI r j = rd bs j) := by
  intro n
  induction n with
  | zero =>
    intro i x i0 hn hx h1 h2 h3 h4
    exact ⟨x, EvP.step (fun k => by rw [bits_Pack.l0]) (EvP.neg (by omega) (EvP.ret rfl)), rfl, h1, fun j a b => h4 j a (by omega)⟩
  | succ n ih =>
    intro i x i0 hn hx h1 h2 h3 h4
    have i1 : i < (bs.length : Int) := by omega
    have q1 : i / 8 < (x.length : Int) := by omega
    have q0 : 0 ≤ i / 8 := by omega
    have hbi := hb _ (rd_mem i0 i1)
    obtain ⟨v0, v1⟩ := h1 (i / 8) q0 q1
    have e7 : 7 - i % 8 = 7 - (((i % 8).toNat : Nat) : Int) := by omega
    obtain ⟨g1, g2⟩ := orShl v0 v1 (j := (i % 8).toNat) (by omega) hbi (h3 q1)
    rw [← e7] at g1 g2
    have ed : Int.tdiv i 8 = i / 8 := Int.tdiv_eq_ediv_of_nonneg i0
    have em : Int.tmod i 8 = i % 8 := Int.tmod_eq_emod_of_nonneg i0
    have wd : wrap64 (i / 8) = i / 8 := w64 (by omega) (by omega)
    have wm : wrap64 (7 - i % 8) = 7 - i % 8 := w64 (by omega) (by omega)
    have wi : wrap64 (i + 1) = i + 1 := w64 (by omega) (by omega)
    obtain ⟨r, r1, r3, r4, r5⟩ := ih (i + 1) (x.set (i / 8).toNat ((rd x (i / 8) + shl .u8 (rd bs i) (7 - i % 8)) % 256)) (by omega) (by omega) (by rw [List.length_set]; exact hx)
      (fun j j0 j1 => by
        rw [List.length_set] at j1
        rw [rd_set x (i / 8) j _ q0 q1 j0]
        split
        · omega
        · exact h1 j j0 j1)
      (fun j j0 j1 => by
        rw [List.length_set] at j1
        rw [rd_set x (i / 8) j _ q0 q1 (by omega), if_neg (by omega)]
        exact h2 j (by omega) j1)
      (fun j1 => by
        rw [List.length_set] at j1
        rw [rd_set x (i / 8) _ _ q0 q1 (by omega)]
        by_cases z : (i + 1) / 8 = i / 8
        · rw [if_pos z, show 8 - ((i + 1) % 8).toNat = 7 - (i % 8).toNat by omega]
          exact g2
        · rw [if_neg z, h2 _ (by omega) j1]
          exact Int.zero_emod _)
      (fun j j0 j1 => by
        unfold bitI
        rw [rd_set x (i / 8) (j / 8) _ q0 q1 (by omega)]
        by_cases z : j / 8 = i / 8
        · rw [if_pos z]
          have pb := packBit (v := rd x (i / 8)) (b := rd bs i) (m := (i % 8).toNat) (j := (j % 8).toNat) v0 v1 (by omega) (by omega) hbi (h3 q1)
          rw [show (((i % 8).toNat : Nat) : Int) = i % 8 by omega, show (((j % 8).toNat : Nat) : Int) = j % 8 by omega] at pb
          rw [pb]
          by_cases y : j = i
          · rw [if_pos (by omega), y]
          · rw [if_neg (by omega), ← z]
            exact h4 j j0 (by omega)
        · rw [if_neg z]
          exact h4 j j0 (by omega))
    rw [List.length_set] at r3
    refine ⟨r, ?_, r3, r4, r5⟩
    refine EvP.step (fun k => by rw [bits_Pack.l0]) ?_
    rw [ed, em, wd, wm, wi, g1]
    exact EvP.pos i1 (EvP.pos i0 (EvP.pos i1 (EvP.neg (by omega) (EvP.pos q0 (EvP.pos q1 (EvP.pos (by omega) r1))))))
/-- Bits packed are these bits. -/
theorem packP (bs : List Int) (hb : ∀ b ∈ bs, b = 0 ∨ b = 1) (hl : (bs.length : Int) ≤ 100000000) : ∃ r : List Int, EvP (fun k => bits_Pack.f k bs) (· = (r, 0)) ∧ (r.length : Int) = ((bs.length : Int) + 7) / 8 ∧ Byt06 r ∧ ∀ j, 0 ≤ j → j < (bs.length : Int) → bitI r j = rd bs j := by
  have w1 : wrap64 ((bs.length : Int) + 7) = (bs.length : Int) + 7 := w64 (by omega) (by omega)
  have ed : Int.tdiv ((bs.length : Int) + 7) 8 = ((bs.length : Int) + 7) / 8 := Int.tdiv_eq_ediv_of_nonneg (by omega)
  have w2 : wrap64 (((bs.length : Int) + 7) / 8) = ((bs.length : Int) + 7) / 8 := w64 (by omega) (by omega)
  have hz : ∀ j : Int, 0 ≤ j → j < ((List.replicate (((bs.length : Int) + 7) / 8).toNat (0 : Int)).length : Int) → rd (List.replicate (((bs.length : Int) + 7) / 8).toNat (0 : Int)) j = 0 := fun j j0 j1 => by
    rw [List.length_replicate] at j1
    exact rd_replicate _ _ _ j0 j1
  obtain ⟨r, r1, r3, r4, r5⟩ := packP_l0 bs hb hl bs.length 0 (List.replicate (((bs.length : Int) + 7) / 8).toNat 0) (by omega) (by omega) (by rw [List.length_replicate]; omega) (fun j j0 j1 => by rw [hz j j0 j1]; omega) (fun j j0 j1 => hz j (by omega) j1) (fun j1 => by rw [show (0 : Int) / 8 = 0 from rfl] at *; rw [hz 0 (by omega) j1]; rfl) (fun j a b => by omega)
  rw [List.length_replicate] at r3
  refine ⟨r, ?_, by omega, ⟨fun y hy => ?_, by omega⟩, r5⟩
  · unfold bits_Pack.f
    rw [w1, ed, w2]
    exact EvP.pos (by omega) (EvP.pos (by omega) r1)
  · obtain ⟨i, hi, he⟩ := List.getElem_of_mem hy
    have := r4 (i : Int) (by omega) (by omega)
    rw [rd_get r i hi, he] at this
    exact this

theorem cods_01 : ∀ (ns : List Int) (c : Int), (c = 0 ∨ c = 1) → (∀ n ∈ ns, 0 ≤ n ∧ n ≤ 200) → B01 (cods c ns) ∧ (cods c ns).length ≤ 64 * ns.length := by
  intro ns
  induction ns with
  | nil => intro c hc h; exact ⟨(fun b hb => by cases hb), by simp [cods]⟩
  | cons n ns ih =>
    intro c hc h
    obtain ⟨n0, n1⟩ := h n List.mem_cons_self
    obtain ⟨_, _, r3, r4⟩ := rbP_is n0 n1 hc
    obtain ⟨i1, i2⟩ := ih (1 - c) (by omega) (fun m hm => h m (List.mem_cons_of_mem _ hm))
    refine ⟨B01.app r4 i1, ?_⟩
    simp only [cods, List.length_append, List.length_cons]
    omega
theorem oneP_row (rs : List Int) (hr : ∀ x ∈ rs, 0 ≤ x ∧ x ≤ 200) (hl : rs.length ≤ 201) (rows : List (List Int)) (m y : Int) (P : List Int × Int → Prop) : ∀ (n : Nat) (i : Int) (out : List Int), 0 ≤ i → (rs.length : Int) - i = n → out.length + n * 64 ≤ 5000000 →
    EvP (fun k => runs_One.l0 k (out ++ cods (i % 2) (rs.drop i.toNat)) rows m (wrap64 (y + 1))) P → EvP (fun k => runs_One.l1 k out rows m y rs (rs.length : Int) i) P := by
  intro n
  induction n with
  | zero =>
    intro i out i0 hn ho hP
    rw [List.drop_of_length_le (by omega), cods, List.append_nil] at hP
    exact EvP.step (fun k => by rw [runs_One.l1]) (EvP.neg (by omega) hP)
  | succ n ih =>
    intro i out i0 hn ho hP
    have i1 : i < (rs.length : Int) := by omega
    obtain ⟨x0, x1⟩ := hr _ (rd_mem i0 i1)
    have hp2 : i % 2 = 0 ∨ i % 2 = 1 := by omega
    obtain ⟨r1, _, r3, r4⟩ := rbP_is x0 x1 hp2
    rw [drop_rd i0 i1] at hP
    simp only [cods] at hP
    rw [← List.append_assoc, show 1 - i % 2 = (i + 1) % 2 by omega] at hP
    refine EvP.step (fun k => by rw [runs_One.l1]) (EvP.pos i1 (EvP.pos i0 (EvP.pos i1 ?_)))
    rw [tmod_pos i0, w64 (x := i + 1) (by omega) (by omega)]
    refine EvP.bind r1 ?_
    rintro _ rfl
    refine EvP.pos (by omega) ?_
    exact ih (i + 1) (out ++ rbP (rd rs i) (i % 2)) (by omega) (by omega) (by rw [List.length_append]; omega) hP
theorem runsP_is {l : List Int} (h : Px l) : EvP (fun k => runs_row.f k l) (· = rle 201 0 l) := by
  have hleft : left 0 l ≤ 201 := by
    have := h.1
    have := left_le 0 l
    omega
  have r1 := rowP_is l h.1 h.2 201 [] 0 0 (.inl rfl) (by omega) (by omega) (by decide) hleft
  rw [List.nil_append, show l.drop ((0 : Int)).toNat = l from rfl] at r1
  unfold runs_row.f
  exact r1
/-- The bits of rows. -/
def allB (w : Int) (p : List Int) (y : Int) : Nat → List Int
  | 0 => []
  | n + 1 => cods 0 (rle 201 0 (rowAt w p y)) ++ allB w p (y + 1) n
theorem oneP_all {w h : Int} {p : List Int} (v : Val w h p) (P : List Int × Int → Prop) : ∀ (n : Nat) (y : Int) (out : List Int), 0 ≤ y → h - y = n → out.length + n * 12864 ≤ 5000000 →
    EvP (fun k => (bits_Pack.f k (out ++ allB w p y n)).bind fun bt => some (bt.1, bt.2)) P → EvP (fun k => runs_One.l0 k out ((List.range h.toNat).map fun y : Nat => rowAt w p y) (((List.range h.toNat).map fun y : Nat => rowAt w p y).length : Int) y) P := by
  have hh := v.2.2.2.1
  have hh0 := v.2.1
  have hlen : (((List.range h.toNat).map fun y : Nat => rowAt w p y).length : Int) = h := by rw [List.length_map, List.length_range]; omega
  intro n
  induction n with
  | zero =>
    intro y out y0 hn ho hP
    rw [allB, List.append_nil] at hP
    exact EvP.step (fun k => by rw [runs_One.l0]) (EvP.neg (by omega) hP)
  | succ n ih =>
    intro y out y0 hn ho hP
    have y1 : y < h := by omega
    obtain ⟨hpx, hw⟩ := rowAt_px v y0 y1
    have wy : wrap64 (y + 1) = y + 1 := w64 (by omega) (by omega)
    have hrl := rle_len 201 0 (rowAt w p y)
    have hri := rle_in 201 0 _ hpx.1
    have hcl := (cods_01 (rle 201 0 (rowAt w p y)) 0 (.inl rfl) hri).2
    rw [allB, ← List.append_assoc] at hP
    refine EvP.step (fun k => by rw [runs_One.l0]) (EvP.pos (by omega) (EvP.pos y0 (EvP.pos (by omega) ?_)))
    rw [rd_lines y0 y1]
    refine EvP.bind (runsP_is hpx) ?_
    rintro _ rfl
    refine oneP_row (rle 201 0 (rowAt w p y)) hri hrl _ _ y P (rle 201 0 (rowAt w p y)).length 0 out (by omega) (by omega) (by omega) ?_
    rw [wy, show (0 : Int) % 2 = 0 from rfl, show ((0 : Int)).toNat = 0 from rfl, List.drop_zero]
    exact ih (y + 1) _ (by omega) (by omega) (by rw [List.length_append]; omega) hP
theorem allB_01 {w h : Int} {p : List Int} (v : Val w h p) : ∀ (n : Nat) (y : Int), 0 ≤ y → h - y = n → B01 (allB w p y n) ∧ (allB w p y n).length ≤ n * 12864 := by
  intro n
  induction n with
  | zero => intro y y0 hn; exact ⟨(fun b hb => by cases hb), by simp [allB]⟩
  | succ n ih =>
    intro y y0 hn
    obtain ⟨hpx, hw⟩ := rowAt_px v y0 (show y < h by omega)
    have hrl := rle_len 201 0 (rowAt w p y)
    obtain ⟨c1, c2⟩ := cods_01 (rle 201 0 (rowAt w p y)) 0 (.inl rfl) (rle_in 201 0 _ hpx.1)
    obtain ⟨i1, i2⟩ := ih (y + 1) (by omega) (by omega)
    refine ⟨B01.app c1 i1, ?_⟩
    rw [allB, List.length_append]
    omega
/-- What One answers: these bits, packed. -/
theorem oneP_is {w h : Int} {p : List Int} (v : Val w h p) (hl : (p.length : Int) ≤ 9223372036854775806) : ∃ r : List Int, EvP (fun k => runs_One.f k w h p) (· = (r, 0)) ∧ (r.length : Int) = (((allB w p 0 h.toNat).length : Int) + 7) / 8 ∧ Byt06 r ∧ (∀ j, 0 ≤ j → j < ((allB w p 0 h.toNat).length : Int) → bitI r j = rd (allB w p 0 h.toNat) j) := by
  obtain ⟨b1, b2⟩ := allB_01 v h.toNat 0 (by omega) (by have := v.2.1; omega)
  have hh := v.2.2.2.1
  obtain ⟨r, r1, r2, r3, r4⟩ := packP (allB w p 0 h.toNat) b1 (by omega)
  refine ⟨r, ?_, r2, r3, r4⟩
  unfold runs_One.f
  refine EvP.bind (Valid_is w h p (fun x hx => (v.2.2.2.2.2.2 x hx).1) (by omega)) ?_
  rintro _ rfl
  refine EvP.pos (decide_eq_true v) ?_
  refine EvP.bind (lines_is v) ?_
  rintro _ rfl
  refine oneP_all v _ h.toNat 0 [] (by omega) (by have := v.2.1; omega) (by show 0 + _ ≤ _; omega) ?_
  rw [List.nil_append]
  refine EvP.bind r1 ?_
  rintro _ rfl
  exact EvP.ret rfl

theorem blank_is (w h : Int) : bitmap_blank.f w h = some (if Sid w h then (w, h, tab w h (fun _ _ => 0), 0) else (0, 0, [], 4)) := by
  unfold bitmap_blank.f
  rw [fits_is, Option.bind_some]
  by_cases s : Sid w h
  · have hm := sid_mul s.1 s.2.1 s.2.2.1 s.2.2.2.1
    rw [if_pos (decide_eq_true s), if_pos s, w64 (by omega) (by omega), if_pos (by omega), if_pos (by omega), replicate_tab s.1 s.2.1]
  · rw [if_neg (by simpa using s), if_neg s]

/-- What New returns. -/
def newR (w h c : Int) : Int × Int × List Int × Int := if w < 0 ∨ h < 0 ∨ (c ≠ 0 ∧ c ≠ 1) then (0, 0, [], 2) else if Sid w h then (w, h, tab w h (fun _ _ => c), 0) else (0, 0, [], 4)
theorem New_j0 (w h c : Int) (b : Bool) (hb : b = true ↔ (w < 0 ∨ h < 0 ∨ (c ≠ 0 ∧ c ≠ 1))) : EvP (fun k => bitmap_New.j0 k w h c b) (· = newR w h c) := by
  refine EvP.step (fun k => by rw [bitmap_New.j0]) ?_
  refine EvP.ite (fun h1 => EvP.ret ?_) (fun h1 => ?_)
  · unfold newR
    rw [if_pos (hb.mp h1)]
  · have hn : ¬ (w < 0 ∨ h < 0 ∨ (c ≠ 0 ∧ c ≠ 1)) := fun q => h1 (hb.mpr q)
    unfold newR
    rw [if_neg hn]
    refine EvP.bindv (blank_is w h) ?_
    by_cases s : Sid w h
    · simp only [if_pos s]
      have hm := sid_mul s.1 s.2.1 s.2.2.1 s.2.2.2.1
      have hlen : ((tab w h fun _ _ => (0 : Int)).length : Int) = w * h := by rw [tab_length]; omega
      refine EvP.fill (L := fun k i l => bitmap_New.l0 k c 0 ((tab w h fun _ _ => 0).length : Int) i w h l) (tab w h fun _ _ => 0) (fun _ => c) ?_ ?_
      · intro i l h0 h2 hl hr hk
        refine EvP.step (fun k => by rw [bitmap_New.l0]) ?_
        refine EvP.pos h2 (EvP.pos h0 (EvP.pos (by omega) ?_))
        rw [w64 (by omega) (by omega), show c % 256 = c by omega]
        exact hk
      · refine EvP.step (fun k => by rw [bitmap_New.l0]) ?_
        refine EvP.neg (by omega) (EvP.ret ?_)
        rw [lmap_tab (w := w) (h := h) (g := fun _ _ => c) s.1 s.2.1 (by omega) (fun _ _ _ _ _ _ => rfl)]
    · simp only [if_neg s]
      refine EvP.step (fun k => by rw [bitmap_New.l0]) ?_
      exact EvP.neg (by simp) (EvP.ret rfl)
theorem New_is (w h c : Int) : EvP (fun k => bitmap_New.f k w h c) (· = newR w h c) := by
  unfold bitmap_New.f
  refine EvP.ite (fun h1 => New_j0 w h c true (by simp [h1])) (fun h1 => ?_)
  refine EvP.ite (fun h2 => New_j0 w h c true (by simp [h2])) (fun h2 => ?_)
  refine EvP.ite (fun h3 => New_j0 w h c _ (by simp; omega)) (fun h3 => New_j0 w h c _ (by simp; omega))

theorem byt06 {l : List Int} (g : l.length ≤ 9223372036854775807 ∧ l.length * 1 ≤ 140737488351232 ∧ ∀ y0_ ∈ l, (Lit.int .u8 y0_).wf = true) : Byt06 l := ⟨fun y hy => wf_byt g.2.2 y hy, by omega⟩

theorem rowAt_mid {w y : Int} {a b c : List Int} (w0 : 0 ≤ w) (y0 : 0 ≤ y) (ha : (a.length : Int) = y * w) (hb : (b.length : Int) = w) : rowAt w (a ++ (b ++ c)) y = b := by
  unfold rowAt
  have e : (y + 1) * w = y * w + w := by rw [Int.add_mul, Int.one_mul]
  have hm : 0 ≤ y * w := Int.mul_nonneg y0 w0
  rw [e, show (y * w + w).toNat = a.length + b.length by omega, show (y * w).toNat = a.length by omega]
  rw [← List.append_assoc, List.take_append_of_le_length (by simp), List.take_of_length_le (by simp), List.drop_left]
theorem getOne_read {l : List Int} (hl : Byt06 l) {w h : Int} (hs : Sid w h) : ∀ (d : Nat) (y p : Int) (pix ab : List Int), h - y = d → 0 ≤ y → (pix.length : Int) = y * w → (∀ x ∈ pix, x = 0 ∨ x = 1) → 0 ≤ p → p ≤ en l →
    ∃ s : Except Int (List Int × Int), EvP (fun k => runs_read54.l0 k l w h p true ab y pix) (fun r => match s with | .error e => e ≠ 0 ∧ r.2.2.2.2 = e | .ok v => r = (w, h, v.1, v.2, 0)) ∧ ∀ v, s = .ok v → (v.1.length : Int) = w * h ∧ (∀ x ∈ v.1, x = 0 ∨ x = 1) ∧ p ≤ v.2 ∧ v.2 ≤ en l ∧ (∃ t, v.1 = pix ++ t) ∧ Are l p v.2 (allB w v.1 y d) := by
  obtain ⟨w0, h0, w1, h1, wh⟩ := hs
  intro d
  induction d with
  | zero =>
    intro y p pix ab hd y0 hp hx p0 p1
    refine ⟨.ok (pix, p), ?_, fun v hv => ?_⟩
    · refine EvP.step (fun k => by rw [runs_read54.l0]) (EvP.neg (by omega) ?_)
      exact EvP.bindv (a := (p, p, true)) (by simp [bits_Reader_At.f, bits_Reader_none.f]) (EvP.ret rfl)
    · cases hv
      exact ⟨by show (pix.length : Int) = w * h; rw [hp, show y = h by omega, Int.mul_comm], hx, Int.le_refl _, p1, ⟨[], by simp⟩, Are.nil l p⟩
  | succ d ih =>
    intro y p pix ab hd y0 hp hx p0 p1
    obtain ⟨s, s1, s3⟩ := one_read hl w0 w1 (2 * w + 1).toNat [] 0 p (by simp; omega) (by omega) (by simp) (by simpa using w0) (by simp) p0 p1
    have hm : y * w ≤ 40000 := by
      have := sid_mul (w := y) (h := w) y0 w0 (by omega) w1
      omega
    cases hs' : s with
    | error e =>
      rw [hs'] at s1
      refine ⟨.error e, ?_, fun v hv => by cases hv⟩
      refine EvP.step (fun k => by rw [runs_read54.l0]) (EvP.pos (by omega) ?_)
      refine EvP.bind (Q := PO (.error e)) s1 ?_
      rintro r ⟨e1, e2⟩
      exact EvP.neg (by rw [e2]; exact e1) (EvP.ret ⟨e1, e2⟩)
    | ok v =>
      rw [hs'] at s1
      obtain ⟨⟨v1, v2, v3, v4⟩, ns, n1, n2, n3, n4, n5, n6⟩ := s3 v hs'
      rw [List.nil_append, show (0 : Int) % 2 = 0 from rfl] at n1
      rw [show (0 : Int) % 2 = 0 from rfl] at n2
      obtain ⟨u, u1, u3⟩ := ih (y + 1) v.2 (pix ++ v.1) v.1 (by omega) (by omega) (by rw [List.length_append, Int.natCast_add, hp, v1, Int.add_mul, Int.one_mul]) (fun x hx' => (List.mem_append.mp hx').elim (hx x) (v2 x)) (by omega) v4
      refine ⟨u, ?_, fun z hz => ?_⟩
      · refine EvP.step (fun k => by rw [runs_read54.l0]) (EvP.pos (by omega) ?_)
        refine EvP.bind (Q := PO (.ok v)) s1 ?_
        intro r hr
        have hr : r = (v.1, 0, v.2, true) := hr
        subst hr
        refine EvP.pos rfl (EvP.pos (by simp only; omega) ?_)
        rw [w64 (x := y + 1) (by omega) (by omega)]
        exact u1
      · obtain ⟨z1, z2, z3, z4, ⟨t, z5⟩, z6⟩ := u3 z hz
        refine ⟨z1, z2, by omega, z4, ⟨v.1 ++ t, by rw [z5, List.append_assoc]⟩, ?_⟩
        have hrow : rowAt w z.1 y = v.1 := by
          rw [z5, List.append_assoc]
          exact rowAt_mid w0 y0 hp v1
        rw [allB, hrow, n1, rle_exp 201 0 ns (.inl rfl) (by simp at n6; omega) n3]
        exact n2.app z6
theorem RunsAgain : incunablelaw06_RunsAgain.Pure := by
  intro l w h g0 g1 g2
  have hl := byt06 g0
  have h2 := hl.2
  have awake : EvP (fun k => (incunablelaw06_Awake.f k).bind fun t => some t) (· = true) := EvP.bind Awake06_is (by rintro _ rfl; exact EvP.ret rfl)
  refine EvP.rounds (g := fun k => incunablelaw06_RunsAgain.f k l w h) ?_
  unfold incunablelaw06_RunsAgain.f
  by_cases hs : Sid w h
  · obtain ⟨w0, h0, w1, h1, wh⟩ := id hs
    obtain ⟨s, s1, s3⟩ := getOne_read hl hs h.toNat 0 0 [] (List.replicate w.toNat 0) (by omega) (by omega) (by simp) (by simp) (by omega) (by unfold en; omega)
    refine EvP.bind (Q := fun r => match s with | .error e => e ≠ 0 ∧ r.2.2.2.2 = e | .ok v => r = (w, h, v.1, v.2, 0)) ?_ ?_
    · unfold runs_GetOne.f runs_read54.f
      refine EvP.bind (New_is w h 0) ?_
      rintro _ rfl
      unfold newR
      rw [if_neg (by omega), if_pos hs]
      exact EvP.pos rfl (EvP.pos w0 (EvP.pos (by omega) (EvP.pos (by omega) s1)))
    · intro r hr
      cases s with
      | error e =>
        obtain ⟨e1, e2⟩ := hr
        exact EvP.neg (by rw [e2]; exact e1) awake
      | ok v =>
        have hr : r = (w, h, v.1, v.2, 0) := hr
        subst hr
        obtain ⟨z1, z2, z3, z4, _, z6⟩ := s3 v rfl
        have hv : Val w h v.1 := ⟨w0, h0, w1, h1, wh, z1, fun x hx => by rcases z2 x hx with rfl | rfl <;> omega⟩
        obtain ⟨q, q1, q2, q3, q4⟩ := oneP_is hv (by omega)
        obtain ⟨a1, a2⟩ := z6
        have hq := q3.2
        refine EvP.pos rfl ?_
        refine EvP.bind q1 ?_
        rintro _ rfl
        refine EvP.pos rfl ?_
        dsimp only
        rw [w64 (x := v.2 + 7) (by omega) (by unfold en at z4; omega), tdiv_pos (show 0 ≤ v.2 + 7 by omega), w64 (x := (v.2 + 7) / 8) (by omega) (by unfold en at z4; omega)]
        refine EvP.step (fun k => by rw [incunablelaw06_RunsAgain.j0]) (EvP.neg (by simp; omega) ?_)
        refine EvP.up (L := fun k i (_ : Unit) => incunablelaw06_RunsAgain.l0 k l q v.2 i) (fun i _ => 0 ≤ i) v.2 ?_ 0 () (by omega) (by omega)
        intro i _ i0 hn ih
        refine EvP.step (fun k => by rw [incunablelaw06_RunsAgain.l0]) ?_
        refine EvP.ite (fun i1 => ?_) (fun _ => awake)
        refine EvP.bindv (BitAt_is hl i0 (by omega)) ?_
        refine EvP.bindv (BitAt_is q3 i0 (by unfold en; omega)) (EvP.pos rfl (EvP.pos ?_ ?_))
        · show bitI l i = bitI q i
          rw [q4 i i0 (by omega), ← a2 i i0 (by omega)]
          congr 1
          omega
        · rw [w64 (x := i + 1) (by omega) (by unfold en at z4; omega)]
          exact ih () i1 (by omega)
  · refine EvP.bind (Q := fun r => r.2.2.2.2 = 2) ?_ ?_
    · unfold runs_GetOne.f runs_read54.f
      refine EvP.bind (New_is w h 0) ?_
      rintro _ rfl
      refine EvP.neg ?_ (EvP.ret rfl)
      unfold newR
      split
      · decide
      · first | decide | (rw [if_neg hs]; decide)
    · intro r hr
      exact EvP.neg (by rw [hr]; decide) awake

end Go.Proofs.YtknclbodinfbeaaDoor.Pure
