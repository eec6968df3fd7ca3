/- The bitmap that any bytes are in one dimension: program and reference answer alike, for every row of bytes. -/
import Derived.Test.YtknclbodinfbeaaDoorPRunsGetOnex16
import Derived.Test.YtknclbodinfbeaaDoorQBase
namespace Go.Proofs.YtknclbodinfbeaaDoor.Pure
open Go.RowKit Go.Proofs.YtknclbodinfbeaaDoor.PRunsGetOne Go.Proofs.YtknclbodinfbeaaDoorW.PrintWords Go.Proofs.YtknclbodinfbeaaDoorW.PrintLast Go.Proofs.YtknclbodinfbeaaDoorW.PrintMore Go.Proofs.YtknclbodinfbeaaDoorW.Pu
set_option linter.unusedVariables false
set_option linter.unusedSimpArgs false
theorem EvP.of {α : Type} {g : Nat → Option α} {r : α} (m : ∀ k, LeO (g k) (g (k + 1))) {k : Nat} (h : g k = some r) : EvP g (· = r) := ⟨r, Ev.of m h, rfl⟩
theorem drop_rd {l : List Int} {i : Int} (h0 : 0 ≤ i) (h1 : i < (l.length : Int)) : l.drop i.toNat = rd l i :: l.drop (i + 1).toNat := by
  have h : i.toNat < l.length := by omega
  rw [show (i + 1).toNat = i.toNat + 1 by omega, List.drop_eq_getElem_cons h]
  congr 1
  have := rd_get l i.toNat h
  rw [show ((i.toNat : Nat) : Int) = i by omega] at this
  exact this.symm
theorem drop_end {l : List Int} {i : Int} (h1 : (l.length : Int) ≤ i) : l.drop i.toNat = [] := List.drop_eq_nil_of_le (by omega)
theorem awake06 : incunablelaw06_Awake.f 200 = some true := by decide +kernel
theorem Awake06_is : EvP (fun k => incunablelaw06_Awake.f k) (· = true) := EvP.of incunablelaw06_Awake.mono awake06

/-- A bit of some bytes. -/
def bitI (l : List Int) (i : Int) : Int := Int.tmod (shr .u8 (rd l (i / 8)) (7 - i % 8)) 2
def Byt06 (l : List Int) : Prop := (∀ y ∈ l, 0 ≤ y ∧ y ≤ 255) ∧ (l.length : Int) ≤ 140737488351232
def en (l : List Int) : Int := 8 * (l.length : Int)
theorem bit_good : (List.range 256).all (fun v => (List.range 8).all fun j => decide (0 ≤ shr .u8 (v : Int) (7 - (j : Int))) && decide (shr .u8 (v : Int) (7 - (j : Int)) ≤ 255) && decide (Go.bits .and .u8 (shr .u8 (v : Int) (7 - (j : Int))) 1 = Int.tmod (shr .u8 (v : Int) (7 - (j : Int))) 2) && (decide (Int.tmod (shr .u8 (v : Int) (7 - (j : Int))) 2 = 0) || decide (Int.tmod (shr .u8 (v : Int) (7 - (j : Int))) 2 = 1))) = true := by decide +kernel
theorem bit_at {l : List Int} (hl : Byt06 l) {i : Int} (i0 : 0 ≤ i) (i1 : i < en l) :
    0 ≤ shr .u8 (rd l (i / 8)) (7 - i % 8) ∧ shr .u8 (rd l (i / 8)) (7 - i % 8) ≤ 255 ∧ Go.bits .and .u8 (shr .u8 (rd l (i / 8)) (7 - i % 8)) 1 = bitI l i ∧ (bitI l i = 0 ∨ bitI l i = 1) := by
  unfold en at i1
  obtain ⟨v0, v1⟩ := hl.1 _ (rd_mem (l := l) (i := i / 8) (by omega) (by omega))
  have g := List.all_eq_true.mp (List.all_eq_true.mp bit_good (rd l (i / 8)).toNat (List.mem_range.mpr (by omega))) (i % 8).toNat (List.mem_range.mpr (by omega))
  rw [show (((rd l (i / 8)).toNat : Nat) : Int) = rd l (i / 8) by omega, show (((i % 8).toNat : Nat) : Int) = i % 8 by omega] at g
  simp only [Bool.and_eq_true, Bool.or_eq_true, decide_eq_true_iff] at g
  exact ⟨g.1.1.1, g.1.1.2, g.1.2, g.2⟩
theorem BitAt_is {l : List Int} (hl : Byt06 l) {i : Int} (i0 : 0 ≤ i) (i1 : i < en l) : incunableref04_BitAt.f l i = some (bitI l i, true) := by
  obtain ⟨a, b, c, d⟩ := bit_at hl i0 i1
  have h2 := hl.2
  unfold en at i1
  unfold incunableref04_BitAt.f
  rw [w64 (x := 8 * (l.length : Int)) (by omega) (by omega), if_neg (by omega), tdiv_pos i0, tmod_pos i0, w64 (x := i / 8) (by omega) (by omega), if_pos (by omega), if_pos (by omega), w64 (x := 7 - i % 8) (by omega) (by omega), if_pos (by omega), w64 (by omega) (by omega)]
  rfl
theorem BitAt_end {l : List Int} (hl : Byt06 l) {i : Int} (i1 : en l ≤ i) : incunableref04_BitAt.f l i = some (0, false) := by
  have h2 := hl.2
  unfold en at i1
  unfold incunableref04_BitAt.f
  rw [w64 (x := 8 * (l.length : Int)) (by omega) (by omega), if_pos (by omega)]
/-- The number that some bits are. -/
def valN (l : List Int) (p : Int) : Nat → Int → Int
  | 0, a => a
  | n + 1, a => valN l (p + 1) n (2 * a + bitI l p)
theorem BitsL_is {l : List Int} (hl : Byt06 l) (n : Nat) : ∀ (m : Nat) (j a p : Int), j + m = n → 0 ≤ j → n ≤ 32 → 0 ≤ p → p + m ≤ en l → 0 ≤ a → a < 2 ^ j.toNat →
    EvP (fun k => bits_Reader_Bits.l0 k a (n : Int) j l p true) (· = (valN l p m a, 0, p + m, true)) := by
  intro m
  induction m with
  | zero =>
    intro j a p hj j0 hn p0 hp a0 a1
    refine EvP.step (fun k => by rw [bits_Reader_Bits.l0]) (EvP.neg (by omega) (EvP.ret ?_))
    simp [valN]
  | succ m ih =>
    intro j a p hj j0 hn p0 hp a0 a1
    have h2 := hl.2
    have p1 : p < en l := by omega
    obtain ⟨s0, s1, s2, s3⟩ := bit_at hl p0 p1
    unfold en at hp p1
    have jl : (2 : Int) ^ j.toNat ≤ 2 ^ 32 := by
      have := Nat.pow_le_pow_right (n := 2) (by omega) (show j.toNat ≤ 32 by omega)
      exact_mod_cast this
    have jl' : (2 : Int) ^ 32 = 4294967296 := by decide
    refine EvP.step (fun k => by rw [bits_Reader_Bits.l0]) (EvP.pos (by omega) ?_)
    rw [tdiv_pos p0, tmod_pos p0, w64 (x := p / 8) (by omega) (by omega), w64 (x := 7 - p % 8) (by omega) (by omega), s2, w64 (x := 2 * a) (by omega) (by omega), w64 (x := bitI l p) (by omega) (by omega), w64 (x := j + 1) (by omega) (by omega), w64 (x := p + 1) (by omega) (by omega), w64 (x := 2 * a + bitI l p) (by omega) (by omega)]
    refine EvP.pos (by omega) (EvP.pos (by omega) (EvP.pos (by omega) ?_))
    have e : (2 : Int) ^ (j + 1).toNat = 2 * 2 ^ j.toNat := by rw [show (j + 1).toNat = j.toNat + 1 by omega, Int.pow_succ]; omega
    refine (ih (j + 1) (2 * a + bitI l p) (p + 1) (by omega) (by omega) hn (by omega) (by unfold en; omega) (by omega) (by rw [e]; omega)).mono ?_
    rintro r rfl
    rw [valN]
    congr 3
    omega
/-- Bits of a reader. -/
theorem Bits_is {l : List Int} (hl : Byt06 l) {n p : Int} (n0 : 0 ≤ n) (n1 : n ≤ 32) (p0 : 0 ≤ p) (p1 : p ≤ en l) :
    EvP (fun k => bits_Reader_Bits.f k l p true n) (· = if en l - p < n then (0, 6, p, true) else (valN l p n.toNat 0, 0, p + n, true)) := by
  have h2 := hl.2
  unfold bits_Reader_Bits.f
  refine EvP.bindv (a := (false, p, true)) rfl (EvP.neg (by simp) (EvP.neg (by omega) ?_))
  rw [show decide (n > 32) = false by simpa using n1]
  refine EvP.step (fun k => by rw [bits_Reader_Bits.j0]) (EvP.neg (by simp) ?_)
  refine EvP.bindv (a := (en l - p, p, true)) ?_ ?_
  · unfold bits_Reader_Left.f bits_Reader_none.f en
    unfold en at p1
    simp only [Option.bind_some, Bool.not_true, Bool.false_eq_true, if_false]
    rw [w64 (x := 8 * (l.length : Int)) (by omega) (by omega), w64 (by omega) (by omega)]
  · by_cases c : en l - p < n
    · rw [if_pos c]
      exact EvP.pos (by show n > en l - p; omega) (EvP.ret rfl)
    · rw [if_neg c]
      refine EvP.neg (by show ¬ n > en l - p; omega) ?_
      have := BitsL_is hl n.toNat n.toNat 0 0 p (by omega) (by omega) (by omega) p0 (by omega) (by omega) (by decide)
      rw [show ((n.toNat : Nat) : Int) = n by omega] at this
      exact this
theorem valN_bound {l : List Int} (hl : Byt06 l) : ∀ (m : Nat) (p a : Int), 0 ≤ p → p + m ≤ en l → 0 ≤ a → 0 ≤ valN l p m a ∧ valN l p m a < (a + 1) * 2 ^ m := by
  intro m
  induction m with
  | zero => intro p a p0 hp a0; simp [valN]; omega
  | succ m ih =>
    intro p a p0 hp a0
    obtain ⟨s0, s1, s2, s3⟩ := bit_at hl (i := p) p0 (by omega)
    obtain ⟨q0, q1⟩ := ih (p + 1) (2 * a + bitI l p) (by omega) (by omega) (by omega)
    rw [valN]
    refine ⟨q0, Int.lt_of_lt_of_le q1 ?_⟩
    rw [Int.pow_succ, show (a + 1) * (2 ^ m * 2) = (2 * (a + 1)) * 2 ^ m by rw [Int.mul_comm ((2 : Int) ^ m) 2, ← Int.mul_assoc, Int.mul_comm (a + 1) 2]]
    exact Int.mul_le_mul_of_nonneg_right (by omega) (Int.pow_nonneg (by omega))

/-- How a table of words is read, bit by bit. -/
inductive Tr06 where
  | leaf (i : Nat)
  | bad
  | node (a b : Tr06)
/-- Which word, or why none; the place behind. -/
def Tr06.run (l : List Int) : Tr06 → Int → Int × Int × Int
  | .leaf i, p => ((i : Int), 0, p)
  | .bad, p => (0, 3, p)
  | .node a b, p => if en l ≤ p then (0, 6, p) else if bitI l p = 0 then a.run l (p + 1) else b.run l (p + 1)
theorem Tr06.run_place (l : List Int) : ∀ (t : Tr06) (p : Int), 0 ≤ p → p ≤ en l → p ≤ (t.run l p).2.2 ∧ (t.run l p).2.2 ≤ en l := by
  intro t
  induction t with
  | leaf i => intro p h0 h1; exact ⟨Int.le_refl _, h1⟩
  | bad => intro p h0 h1; exact ⟨Int.le_refl _, h1⟩
  | node a b iha ihb =>
    intro p h0 h1
    simp only [Tr06.run]
    split
    · exact ⟨Int.le_refl _, h1⟩
    · split
      · obtain ⟨x, y⟩ := iha (p + 1) (by omega) (by omega); exact ⟨by omega, y⟩
      · obtain ⟨x, y⟩ := ihb (p + 1) (by omega) (by omega); exact ⟨by omega, y⟩
def dig0 : ByteArray := Utf8.encode (wrap32 (48 + wrap32 0))
def dig1 : ByteArray := Utf8.encode (wrap32 (48 + wrap32 1))
/-- The tree is that of a list of words, as the program tells it. -/
def wok (L : List ByteArray) : ByteArray → Tr06 → Bool
  | s, .leaf i => decide (slices_Index_string_string.f 20 L s = some (i : Int)) && (s.toList != [])
  | s, .bad => decide (slices_Index_string_string.f 20 L s = some (-1)) && decide (slices_ContainsFunc_string_string_118.f 20 L s = some false)
  | s, .node a b => decide (slices_Index_string_string.f 20 L s = some (-1)) && decide (slices_ContainsFunc_string_string_118.f 20 L s = some true) && decide (s.size + dig0.size ≤ 1000) && decide (s.size + dig1.size ≤ 1000) && wok L (s ++ dig0) a && wok L (s ++ dig1) b
theorem word_run {l : List Int} (hl : Byt06 l) (L : List ByteArray) : ∀ (t : Tr06) (s : ByteArray) (p : Int), wok L s t = true → 0 ≤ p → p ≤ en l →
    EvP (fun k => runs_reader_word.l0 k L l p true s) (· = ((t.run l p).1, (t.run l p).2.1, (t.run l p).2.2, true)) := by
  intro t
  induction t with
  | leaf i =>
    intro s p hw h0 h1
    simp only [wok, Bool.and_eq_true, decide_eq_true_iff] at hw
    refine EvP.step (fun k => by rw [runs_reader_word.l0]) ?_
    refine EvP.bind (EvP.of (fun k => slices_Index_string_string.mono L s k) hw.1) ?_
    rintro _ rfl
    refine EvP.pos (by omega) ?_
    rw [hw.2]
    refine EvP.step (fun k => by rw [runs_reader_word.j1]) ?_
    exact EvP.pos rfl (EvP.ret rfl)
  | bad =>
    intro s p hw h0 h1
    simp only [wok, Bool.and_eq_true, decide_eq_true_iff] at hw
    refine EvP.step (fun k => by rw [runs_reader_word.l0]) ?_
    refine EvP.bind (EvP.of (fun k => slices_Index_string_string.mono L s k) hw.1) ?_
    rintro _ rfl
    refine EvP.neg (by omega) ?_
    refine EvP.step (fun k => by rw [runs_reader_word.j1]) (EvP.neg (by simp) ?_)
    refine EvP.bind (EvP.of (fun k => slices_ContainsFunc_string_string_118.mono L s k) hw.2) ?_
    rintro _ rfl
    exact EvP.neg (by simp) (EvP.ret rfl)
  | node a b iha ihb =>
    intro s p hw h0 h1
    simp only [wok, Bool.and_eq_true, decide_eq_true_iff] at hw
    obtain ⟨⟨⟨⟨⟨w1, w2⟩, w3⟩, w4⟩, w5⟩, w6⟩ := hw
    refine EvP.step (fun k => by rw [runs_reader_word.l0]) ?_
    refine EvP.bind (EvP.of (fun k => slices_Index_string_string.mono L s k) w1) ?_
    rintro _ rfl
    refine EvP.neg (by omega) ?_
    refine EvP.step (fun k => by rw [runs_reader_word.j1]) (EvP.neg (by simp) ?_)
    refine EvP.bind (EvP.of (fun k => slices_ContainsFunc_string_string_118.mono L s k) w2) ?_
    rintro _ rfl
    refine EvP.pos rfl ?_
    refine EvP.bind (Bits_is hl (n := 1) (by omega) (by omega) h0 h1) ?_
    rintro _ rfl
    by_cases c : en l ≤ p
    · rw [if_pos (show en l - p < 1 by omega), Tr06.run, if_pos c]
      exact EvP.neg (by simp) (EvP.ret rfl)
    · rw [if_neg (show ¬ en l - p < 1 by omega), Tr06.run, if_neg c]
      have hv : valN l p (Int.toNat 1) 0 = bitI l p := by simp [valN]
      rw [hv]
      obtain ⟨s0, s1, s2, s3⟩ := bit_at hl h0 (show p < en l by omega)
      refine EvP.pos rfl ?_
      rcases s3 with s3 | s3
      · rw [s3, if_pos rfl]
        exact EvP.pos (show s.size + dig0.size ≤ 9223372036854775807 by omega) (iha (s ++ dig0) (p + 1) w5 (by omega) (by omega))
      · rw [s3, if_neg (by omega)]
        exact EvP.pos (show s.size + dig1.size ≤ 9223372036854775807 by omega) (ihb (s ++ dig1) (p + 1) w6 (by omega) (by omega))
def trU : Tr06 := .node (.leaf 0) (.node (.leaf 1) (.node (.leaf 2) (.node (.leaf 3) (.node (.leaf 4) (.leaf 5)))))
def trC0 : Tr06 := .node (.node (.leaf 0) (.leaf 1)) (.node (.leaf 2) (.leaf 3))
def trC1 : Tr06 := .node (.leaf 0) (.node (.leaf 1) (.node (.leaf 2) (.leaf 3)))
theorem wokU : wok tU.2 ⟨#[]⟩ trU = true := by decide +kernel
theorem wokC0 : wok tC0.2 ⟨#[]⟩ trC0 = true := by decide +kernel
theorem wokC1 : wok tC1.2 ⟨#[]⟩ trC1 = true := by decide +kernel

/-- What the reference sees among codes behind some bits: a code at its end, or whether any goes on. -/
def scan06 (pre : List Int) : List (List Int) → Nat → Bool → Nat ⊕ Bool
  | [], _, s => .inr s
  | c :: cs, i, s => if pre.length ≤ c.length ∧ c.take pre.length = pre then (if c.length = pre.length then .inl i else scan06 pre cs (i + 1) true) else scan06 pre cs (i + 1) s
def isL : Nat ⊕ Bool → Nat → Bool
  | .inl i, j => i == j
  | .inr _, _ => false
def isR : Nat ⊕ Bool → Bool → Bool
  | .inl _, _ => false
  | .inr a, b => a == b
theorem isL_eq {x : Nat ⊕ Bool} {j : Nat} (h : isL x j = true) : x = .inl j := by
  cases x with
  | inl i => simp only [isL, beq_iff_eq] at h; rw [h]
  | inr a => simp [isL] at h
theorem isR_eq {x : Nat ⊕ Bool} {b : Bool} (h : isR x b = true) : x = .inr b := by
  cases x with
  | inl i => simp [isR] at h
  | inr a => simp only [isR, beq_iff_eq] at h; rw [h]
def tok (cs : List (List Int)) : List Int → Tr06 → Bool
  | pre, .leaf i => isL (scan06 pre cs 0 false) i
  | pre, .bad => isR (scan06 pre cs 0 false) false
  | pre, .node a b => (pre == [] || isR (scan06 pre cs 0 false) true) && decide (pre.length < 16) && tok cs (pre ++ [0]) a && tok cs (pre ++ [1]) b
def good06 (ls : List S87) (cs : List (List Int)) : Bool := decide (ls.length = cs.length) && ls.all (fun x => decide (x.f0 > 0) && decide (x.f3 = 0) && decide (0 ≤ x.f1) && decide (x.f1 ≤ 20) && decide (0 ≤ x.f2) && decide (x.f2 ≤ 1000)) && cs.all (fun c => c.all (fun b => decide (b = 0) || decide (b = 1)))
theorem good_line {ls : List S87} {cs : List (List Int)} (h : good06 ls cs = true) {i : Int} (i0 : 0 ≤ i) (i1 : i < (ls.length : Int)) :
    (rd_T87 ls i).f0 > 0 ∧ (rd_T87 ls i).f3 = 0 ∧ 0 ≤ (rd_T87 ls i).f1 ∧ (rd_T87 ls i).f1 ≤ 20 ∧ 0 ≤ (rd_T87 ls i).f2 ∧ (rd_T87 ls i).f2 ≤ 1000 := by
  simp only [good06, Bool.and_eq_true, List.all_eq_true, decide_eq_true_iff] at h
  have hm : rd_T87 ls i ∈ ls := by
    unfold rd_T87
    rw [List.getD_eq_getElem?_getD, List.getElem?_eq_getElem (show i.toNat < ls.length by omega)]
    exact List.getElem_mem _
  obtain ⟨⟨⟨⟨⟨a, b⟩, c⟩, d⟩, e⟩, f⟩ := h.1.2 _ hm
  exact ⟨a, b, c, d, e, f⟩
theorem begins_is {l : List Int} (hl : Byt06 l) (c pre : List Int) {at_ : Int} (h0 : 0 ≤ at_) (h1 : at_ + pre.length ≤ en l) (hc : ∀ b ∈ c, b = 0 ∨ b = 1) (hp : ∀ j : Int, 0 ≤ j → j < (pre.length : Int) → bitI l (at_ + j) = rd pre j) :
    EvP (fun k => incunableref04_begins.f k c l at_ (pre.length : Int)) (· = decide (pre.length ≤ c.length ∧ c.take pre.length = pre)) := by
  have h2 := hl.2
  unfold en at h1
  unfold incunableref04_begins.f
  refine EvP.ite (fun q => EvP.ret ?_) (fun q => ?_)
  · symm; simp only [decide_eq_false_iff_not]; omega
  · refine EvP.up (L := fun k i (_ : Unit) => incunableref04_begins.l0 k c l at_ (pre.length : Int) i) (fun i _ => 0 ≤ i ∧ ∀ j : Int, 0 ≤ j → j < i → rd c j = rd pre j) (pre.length : Int) ?_ 0 () (by omega) ⟨by omega, fun j a b => by omega⟩
    rintro i _ ⟨i0, hi⟩ hn ih
    refine EvP.step (fun k => by rw [incunableref04_begins.l0]) ?_
    refine EvP.ite (fun i1 => ?_) (fun i1 => EvP.ret ?_)
    · rw [w64 (x := at_ + i) (by omega) (by omega)]
      refine EvP.bindv (BitAt_is hl (by omega) (by unfold en; omega)) (EvP.pos i0 (EvP.pos (by omega) ?_))
      have hcm := hc _ (rd_mem i0 (show i < (c.length : Int) by omega))
      rw [w64 (x := rd c i) (by omega) (by omega)]
      refine EvP.ite (fun e => ?_) (fun e => EvP.ret ?_)
      · rw [w64 (x := i + 1) (by omega) (by omega)]
        refine ih () i1 ⟨by omega, fun j a b => ?_⟩
        by_cases z : j = i
        · rw [z, e]; exact hp i i0 i1
        · exact hi j a (by omega)
      · symm; simp only [decide_eq_false_iff_not]
        rintro ⟨_, e2⟩
        apply e
        show rd c i = bitI l (at_ + i)
        rw [hp i i0 i1, ← e2]
        unfold rd
        simp only [List.getD_eq_getElem?_getD]
        rw [List.getElem?_take_of_lt (by omega)]
    · symm; simp only [decide_eq_true_iff]
      refine ⟨by omega, rd_ext (by simp; omega) (fun j a b => ?_)⟩
      have hb : j < (pre.length : Int) := by simp at b; omega
      rw [← hi j a (by omega)]
      unfold rd
      simp only [List.getD_eq_getElem?_getD]
      rw [List.getElem?_take_of_lt (by omega)]
theorem inner_is {l : List Int} (hl : Byt06 l) {f0 f1 f2 p : Int} (n0 : 0 ≤ f1) (n1 : f1 ≤ 20) (m0 : 0 ≤ f2) (m1 : f2 ≤ 1000) (p0 : 0 ≤ p) (p1 : p ≤ en l) :
    EvP (fun k => incunableref04_inner.f k f0 f1 f2 0 l p) (· = if en l - p < f1 then (false, 0, 0, 6) else (false, f2 + valN l p f1.toNat 0, p + f1, 0)) := by
  have h2 := hl.2
  unfold incunableref04_inner.f
  have key : ∀ (m : Nat) (j a : Int), 0 ≤ j → j + m = f1 → 0 ≤ a → a < 2 ^ j.toNat → p + j ≤ en l →
      EvP (fun k => incunableref04_inner.l0 k l p a j f0 f1 f2 0) (· = if en l - p < f1 then (false, 0, 0, 6) else (false, f2 + valN l (p + j) m a, p + f1, 0)) := by
    intro m
    induction m with
    | zero =>
      intro j a j0 hj a0 a1 pj
      have jl : (2 : Int) ^ j.toNat ≤ 2 ^ 20 := by
        have := Nat.pow_le_pow_right (n := 2) (by omega) (show j.toNat ≤ 20 by omega)
        exact_mod_cast this
      have jl' : (2 : Int) ^ 20 = 1048576 := by decide
      unfold en at pj p1 ⊢
      refine EvP.step (fun k => by rw [incunableref04_inner.l0]) (EvP.neg (by omega) (EvP.neg (by omega) (EvP.neg (by omega) (EvP.ret ?_))))
      rw [if_neg (by omega), w64 (by omega) (by omega), w64 (by omega) (by omega), valN]
    | succ m ih =>
      intro j a j0 hj a0 a1 pj
      have jl : (2 : Int) ^ j.toNat ≤ 2 ^ 20 := by
        have := Nat.pow_le_pow_right (n := 2) (by omega) (show j.toNat ≤ 20 by omega)
        exact_mod_cast this
      have jl' : (2 : Int) ^ 20 = 1048576 := by decide
      refine EvP.step (fun k => by rw [incunableref04_inner.l0]) (EvP.pos (by omega) ?_)
      have pj' := pj
      unfold en at pj' p1
      rw [w64 (x := p + j) (by omega) (by omega)]
      by_cases c : p + j < en l
      · obtain ⟨s0, s1, s2, s3⟩ := bit_at hl (i := p + j) (by omega) c
        refine EvP.bindv (BitAt_is hl (by omega) c) (EvP.pos rfl ?_)
        rw [w64 (x := 2 * a) (by omega) (by omega)]
        dsimp only
        rw [w64 (x := 2 * a + bitI l (p + j)) (by omega) (by omega), w64 (x := j + 1) (by omega) (by omega)]
        have e : (2 : Int) ^ (j + 1).toNat = 2 * 2 ^ j.toNat := by rw [show (j + 1).toNat = j.toNat + 1 by omega, Int.pow_succ]; omega
        refine (ih (j + 1) (2 * a + bitI l (p + j)) (by omega) (by omega) (by omega) (by rw [e]; omega) (by omega)).mono ?_
        rintro r rfl
        rw [valN, show p + (j + 1) = p + j + 1 by omega]
      · refine EvP.bindv (BitAt_end hl (by omega)) (EvP.neg (by simp) (EvP.ret ?_))
        rw [if_pos (by omega)]
  have := key f1.toNat 0 0 (by omega) (by omega) (by omega) (by decide) (by omega)
  rw [Int.add_zero] at this
  exact this

theorem l1_is {l : List Int} (hl : Byt06 l) {ls : List S87} {cs : List (List Int)} (hg : good06 ls cs = true) (hlen : cs.length ≤ 100) {pre : List Int} {at_ : Int} (h0 : 0 ≤ at_) (h1 : at_ + pre.length ≤ en l) (hn : pre.length ≤ 16)
    (hp : ∀ j : Int, 0 ≤ j → j < (pre.length : Int) → bitI l (at_ + j) = rd pre j) {P : Bool × Int × Int × Int → Prop} :
    ∀ (m : Nat) (i : Nat) (s : Bool), i + m = cs.length →
      (∀ j : Nat, scan06 pre (cs.drop i) i s = .inl j → j < cs.length → EvP (fun k => (incunableref04_inner.f k (rd_T87 ls j).f0 (rd_T87 ls j).f1 (rd_T87 ls j).f2 (rd_T87 ls j).f3 l (at_ + pre.length)).bind fun bt479 => some (bt479.1, bt479.2.1, bt479.2.2.1, bt479.2.2.2)) P) →
      (scan06 pre (cs.drop i) i s = .inr true → EvP (fun k => incunableref04_Take.l0 k ls l at_ cs ((pre.length : Int) + 1)) P) →
      (scan06 pre (cs.drop i) i s = .inr false → P (false, 0, 0, 3)) →
      EvP (fun k => incunableref04_Take.l1 k ls l at_ cs (pre.length : Int) s cs (cs.length : Int) (i : Int)) P := by
  have h2 := hl.2
  have hg' := hg
  simp only [good06, Bool.and_eq_true, List.all_eq_true, decide_eq_true_iff, Bool.or_eq_true] at hg'
  obtain ⟨⟨hll, _⟩, hcc⟩ := hg'
  intro m
  induction m with
  | zero =>
    intro i s hi kl kt kf
    have hd : cs.drop i = [] := List.drop_eq_nil_of_le (by omega)
    rw [hd] at kl kt kf
    refine EvP.step (fun k => by rw [incunableref04_Take.l1]) (EvP.neg (by omega) ?_)
    refine EvP.ite (fun e => ?_) (fun e => EvP.ret (kf (by simp only [scan06]; rw [Bool.eq_false_iff.mpr e])))
    rw [w64 (x := (pre.length : Int) + 1) (by omega) (by omega)]
    exact kt (by simp only [scan06]; rw [e])
  | succ m ih =>
    intro i s hi kl kt kf
    have hlt : i < cs.length := by omega
    have hd : cs.drop i = cs[i] :: cs.drop (i + 1) := List.drop_eq_getElem_cons hlt
    have hr : rd_L8 cs (i : Int) = cs[i] := by unfold rd_L8; simp [List.getD_eq_getElem?_getD, hlt]
    obtain ⟨g0, g1, g2, g3, g4, g5⟩ := good_line hg (i := (i : Int)) (by omega) (by omega)
    refine EvP.step (fun k => by rw [incunableref04_Take.l1]) (EvP.pos (by omega) (EvP.pos (by omega) (EvP.pos (by omega) (EvP.pos (by omega) ?_))))
    refine EvP.bindv (a := true) (by unfold incunableref04_used.f; simp only [decide_eq_true g0]) (EvP.pos rfl ?_)
    rw [hr]
    refine EvP.bind (begins_is hl cs[i] pre h0 h1 (hcc _ (List.getElem_mem _)) hp) ?_
    rintro _ rfl
    rw [show ((i : Int) + 1) = ((i + 1 : Nat) : Int) by omega]
    rw [w64 (x := ((i + 1 : Nat) : Int)) (by omega) (by omega)]
    by_cases b : pre.length ≤ cs[i].length ∧ cs[i].take pre.length = pre
    · rw [decide_eq_true b]
      refine EvP.pos rfl ?_
      by_cases e : cs[i].length = pre.length
      · refine EvP.pos (by omega) ?_
        rw [w64 (x := at_ + (pre.length : Int)) (by omega) (by unfold en at h1; omega)]
        exact kl i (by rw [hd, scan06, if_pos b, if_pos e]) hlt
      · refine EvP.neg (by omega) ?_
        have hs : scan06 pre (cs.drop i) i s = scan06 pre (cs.drop (i + 1)) (i + 1) true := by rw [hd, scan06, if_pos b, if_neg e]
        rw [hs] at kl kt kf
        exact ih (i + 1) true (by omega) kl kt kf
    · rw [decide_eq_false b]
      refine EvP.neg (by simp) ?_
      have hs : scan06 pre (cs.drop i) i s = scan06 pre (cs.drop (i + 1)) (i + 1) s := by rw [hd, scan06, if_neg b]
      rw [hs] at kl kt kf
      exact ih (i + 1) s (by omega) kl kt kf
/-- What follows a word, by the reference. -/
def TPost (l : List Int) (ls : List S87) (r : Int × Int × Int) (P : Bool × Int × Int × Int → Prop) : Prop :=
  if r.2.1 = 0 then EvP (fun k => (incunableref04_inner.f k (rd_T87 ls r.1).f0 (rd_T87 ls r.1).f1 (rd_T87 ls r.1).f2 (rd_T87 ls r.1).f3 l r.2.2).bind fun bt479 => some (bt479.1, bt479.2.1, bt479.2.2.1, bt479.2.2.2)) P else P (false, 0, 0, r.2.1)
theorem TPost.err {l : List Int} {ls : List S87} {r : Int × Int × Int} {P : Bool × Int × Int × Int → Prop} (h : r.2.1 ≠ 0) (hP : TPost l ls r P) : P (false, 0, 0, r.2.1) := by
  unfold TPost at hP
  rwa [if_neg h] at hP
theorem TPost.ok {l : List Int} {ls : List S87} {r : Int × Int × Int} {P : Bool × Int × Int × Int → Prop} (h : r.2.1 = 0) (hP : TPost l ls r P) : EvP (fun k => (incunableref04_inner.f k (rd_T87 ls r.1).f0 (rd_T87 ls r.1).f1 (rd_T87 ls r.1).f2 (rd_T87 ls r.1).f3 l r.2.2).bind fun bt479 => some (bt479.1, bt479.2.1, bt479.2.2.1, bt479.2.2.2)) P := by
  unfold TPost at hP
  rwa [if_pos h] at hP
theorem take_node {l : List Int} (hl : Byt06 l) {ls : List S87} {cs : List (List Int)} (hg : good06 ls cs = true) (hlen : cs.length ≤ 100) {P : Bool × Int × Int × Int → Prop} :
    ∀ (t : Tr06) (pre : List Int) (at_ : Int), tok cs pre t = true → 0 ≤ at_ → at_ + pre.length ≤ en l → pre.length ≤ 16 → (∀ j : Int, 0 ≤ j → j < (pre.length : Int) → bitI l (at_ + j) = rd pre j) → TPost l ls (t.run l (at_ + pre.length)) P →
      (match t with | .node _ _ => EvP (fun k => incunableref04_Take.l0 k ls l at_ cs ((pre.length : Int) + 1)) P | _ => True) ∧ (pre ≠ [] → EvP (fun k => incunableref04_Take.l1 k ls l at_ cs (pre.length : Int) false cs (cs.length : Int) 0) P) := by
  have h2 := hl.2
  intro t
  induction t with
  | leaf i =>
    intro pre at_ ht h0 h1 hn hp hP
    refine ⟨trivial, fun _ => ?_⟩
    have hs := isL_eq ht
    have hP := TPost.ok rfl hP
    refine l1_is hl hg hlen h0 h1 hn hp cs.length 0 false (by omega) ?_ ?_ ?_
    · intro j hj _
      rw [List.drop_zero, hs] at hj
      cases hj
      exact hP
    · intro hj; rw [List.drop_zero, hs] at hj; cases hj
    · intro hj; rw [List.drop_zero, hs] at hj; cases hj
  | bad =>
    intro pre at_ ht h0 h1 hn hp hP
    refine ⟨trivial, fun _ => ?_⟩
    have hs := isR_eq ht
    have hP := TPost.err (by simp [Tr06.run]) hP
    refine l1_is hl hg hlen h0 h1 hn hp cs.length 0 false (by omega) ?_ ?_ ?_
    · intro j hj _; rw [List.drop_zero, hs] at hj; cases hj
    · intro hj; rw [List.drop_zero, hs] at hj; cases hj
    · intro _; exact hP
  | node a b iha ihb =>
    intro pre at_ ht h0 h1 hn hp hP
    simp only [tok, Bool.and_eq_true, decide_eq_true_iff, Bool.or_eq_true] at ht
    obtain ⟨⟨⟨t1, t2⟩, t3⟩, t4⟩ := ht
    have go : EvP (fun k => incunableref04_Take.l0 k ls l at_ cs ((pre.length : Int) + 1)) P := by
      have h1' := h1
      unfold en at h1'
      refine EvP.step (fun k => by rw [incunableref04_Take.l0]) (EvP.pos (by omega) ?_)
      rw [w64 (x := at_ + ((pre.length : Int) + 1)) (by omega) (by omega), w64 (x := at_ + ((pre.length : Int) + 1) - 1) (by omega) (by omega), show at_ + ((pre.length : Int) + 1) - 1 = at_ + pre.length by omega]
      simp only [Tr06.run] at hP
      by_cases c : en l ≤ at_ + pre.length
      · rw [if_pos c] at hP
        have hP := TPost.err (by simp) hP
        exact EvP.bindv (BitAt_end hl c) (EvP.neg (by simp) (EvP.ret hP))
      · rw [if_neg c] at hP
        refine EvP.bindv (BitAt_is hl (by omega) (by omega)) (EvP.pos rfl ?_)
        have hpp : ∀ v : Int, bitI l (at_ + pre.length) = v → ∀ j : Int, 0 ≤ j → j < ((pre ++ [v]).length : Int) → bitI l (at_ + j) = rd (pre ++ [v]) j := by
          intro v hv j a b
          rw [rd_append pre v j a]
          split
          · rename_i z; rw [z]; exact hv
          · rename_i z; simp at b; exact hp j a (by omega)
        have hll : ∀ v : Int, ((pre ++ [v]).length : Int) = (pre.length : Int) + 1 := by intro v; simp
        obtain ⟨s0, s1, s2, s3⟩ := bit_at hl (i := at_ + pre.length) (by omega) (by omega)
        rcases s3 with s3 | s3
        · rw [if_pos s3] at hP
          have := (iha (pre ++ [0]) at_ t3 h0 (by rw [hll]; omega) (by simp; omega) (hpp 0 s3) (by rw [hll, show at_ + ((pre.length : Int) + 1) = at_ + pre.length + 1 by omega]; exact hP)).2 (by simp)
          rw [hll] at this
          exact this
        · rw [if_neg (by omega)] at hP
          have := (ihb (pre ++ [1]) at_ t4 h0 (by rw [hll]; omega) (by simp; omega) (hpp 1 s3) (by rw [hll, show at_ + ((pre.length : Int) + 1) = at_ + pre.length + 1 by omega]; exact hP)).2 (by simp)
          rw [hll] at this
          exact this
    refine ⟨go, fun hne => ?_⟩
    have hs := isR_eq (t1.resolve_left (by simpa using hne))
    refine l1_is hl hg hlen h0 h1 hn hp cs.length 0 false (by omega) ?_ ?_ ?_
    · intro j hj _; rw [List.drop_zero, hs] at hj; cases hj
    · intro _; exact go
    · intro hj; rw [List.drop_zero, hs] at hj; cases hj

/-- A number by a table: what it is and the place behind, or why none. -/
def num06 (ls : List S87) (t : Tr06) (l : List Int) (p : Int) : Except Int (Int × Int) :=
  if (t.run l p).2.1 = 0 then
    (if en l - (t.run l p).2.2 < (rd_T87 ls (t.run l p).1).f1 then .error 6
     else .ok ((rd_T87 ls (t.run l p).1).f2 + valN l (t.run l p).2.2 (rd_T87 ls (t.run l p).1).f1.toNat 0, (t.run l p).2.2 + (rd_T87 ls (t.run l p).1).f1))
  else .error (t.run l p).2.1
/-- What the program's reader answers. -/
def PP (s : Except Int (Int × Int)) (r : Int × Int × Int × Bool) : Prop := match s with
  | .error e => e ≠ 0 ∧ r.2.1 = e
  | .ok v => r = (v.1, 0, v.2, true)
/-- What the reference's Take answers. -/
def RP (s : Except Int (Int × Int)) (r : Bool × Int × Int × Int) : Prop := match s with
  | .error e => e ≠ 0 ∧ r = (false, 0, 0, e)
  | .ok v => r = (false, v.1, v.2, 0)
def Tr06.lt (n : Nat) : Tr06 → Bool
  | .leaf i => decide (i < n)
  | .bad => true
  | .node a b => a.lt n && b.lt n
theorem Tr06.run_lt (l : List Int) (n : Nat) : ∀ (t : Tr06) (p : Int), t.lt n = true → (t.run l p).2.1 = 0 → 0 ≤ (t.run l p).1 ∧ (t.run l p).1 < (n : Int) := by
  intro t
  induction t with
  | leaf i => intro p h _; simp only [Tr06.lt, decide_eq_true_iff] at h; simp only [Tr06.run]; omega
  | bad => intro p h e; simp [Tr06.run] at e
  | node a b iha ihb =>
    intro p h e
    simp only [Tr06.lt, Bool.and_eq_true] at h
    simp only [Tr06.run] at e ⊢
    split
    · rename_i c; rw [if_pos c] at e; simp at e
    · rename_i c
      rw [if_neg c] at e
      split
      · rename_i d; rw [if_pos d] at e; exact iha _ h.1 e
      · rename_i d; rw [if_neg d] at e; exact ihb _ h.2 e
theorem num06_ok {ls : List S87} {cs : List (List Int)} (hg : good06 ls cs = true) {t : Tr06} (ht : t.lt ls.length = true) {l : List Int} (hl : Byt06 l) {p : Int} (h0 : 0 ≤ p) (h1 : p ≤ en l) {v : Int × Int} (h : num06 ls t l p = .ok v) :
    0 ≤ v.1 ∧ v.1 < 1000 + 2000000 ∧ p ≤ v.2 ∧ v.2 ≤ en l := by
  unfold num06 at h
  split at h
  · rename_i e
    obtain ⟨i0, i1⟩ := Tr06.run_lt l ls.length t p ht e
    obtain ⟨p0, p1⟩ := Tr06.run_place l t p h0 h1
    obtain ⟨g0, g1, g2, g3, g4, g5⟩ := good_line hg i0 i1
    split at h
    · cases h
    · rename_i c
      injection h with h
      subst h
      obtain ⟨b0, b1⟩ := valN_bound hl (rd_T87 ls (t.run l p).1).f1.toNat (t.run l p).2.2 0 (by omega) (by omega) (by omega)
      have jl : (2 : Int) ^ (rd_T87 ls (t.run l p).1).f1.toNat ≤ 2 ^ 20 := by
        have := Nat.pow_le_pow_right (n := 2) (by omega) (show (rd_T87 ls (t.run l p).1).f1.toNat ≤ 20 by omega)
        exact_mod_cast this
      have jl' : (2 : Int) ^ 20 = 1048576 := by decide
      refine ⟨?_, ?_, ?_, ?_⟩ <;> simp only <;> omega
  · cases h
theorem number_is {l : List Int} (hl : Byt06 l) {ls : List S87} {cs : List (List Int)} (hg : good06 ls cs = true) {t : Tr06} (ht : t.lt ls.length = true) {L : List ByteArray} (hw : wok L ⟨#[]⟩ t = true) {p : Int} (h0 : 0 ≤ p) (h1 : p ≤ en l) :
    EvP (fun k => runs_reader_number.f k l p true ls L) (PP (num06 ls t l p)) := by
  unfold runs_reader_number.f
  refine EvP.bind (Q := (· = ((t.run l p).1, (t.run l p).2.1, (t.run l p).2.2, true))) (word_run hl L t ⟨#[]⟩ p hw h0 h1) ?_
  rintro _ rfl
  unfold num06
  by_cases e : (t.run l p).2.1 = 0
  · obtain ⟨i0, i1⟩ := Tr06.run_lt l ls.length t p ht e
    obtain ⟨p0, p1⟩ := Tr06.run_place l t p h0 h1
    obtain ⟨g0, g1, g2, g3, g4, g5⟩ := good_line hg i0 i1
    have nb := fun v => num06_ok hg ht hl h0 h1 (v := v)
    unfold num06 at nb
    rw [if_pos e] at nb ⊢
    refine EvP.pos e (EvP.pos i0 (EvP.pos i1 ?_))
    refine EvP.bind (Bits_is hl (n := (rd_T87 ls (t.run l p).1).f1) (p := (t.run l p).2.2) g2 (by omega) (by omega) p1) ?_
    rintro _ rfl
    by_cases c : en l - (t.run l p).2.2 < (rd_T87 ls (t.run l p).1).f1
    · rw [if_pos c, if_pos c]
      exact EvP.ret ⟨by omega, rfl⟩
    · rw [if_neg c] at nb
      obtain ⟨b0, b1, _, _⟩ := nb _ rfl
      rw [if_neg c, if_neg c]
      refine EvP.ret ?_
      show _ = _
      simp only at b0 b1 ⊢
      rw [w64 (by omega) (by omega), Int.add_comm]
  · rw [if_neg e]
    exact EvP.neg e (EvP.ret ⟨e, rfl⟩)
theorem take_is {l : List Int} (hl : Byt06 l) {ls : List S87} {cs : List (List Int)} (hg : good06 ls cs = true) (hlen : cs.length ≤ 100) (hcs : incunableref04_Codes.f 200 ls = some cs) {a b : Tr06} (ht : (Tr06.node a b).lt ls.length = true) (hk : tok cs [] (.node a b) = true) {p : Int} (h0 : 0 ≤ p) (h1 : p ≤ en l) :
    EvP (fun k => incunableref04_Take.f k ls l p) (RP (num06 ls (.node a b) l p)) := by
  unfold incunableref04_Take.f
  refine EvP.bind (EvP.of (fun k => incunableref04_Codes.mono ls k) hcs) ?_
  rintro _ rfl
  refine (take_node hl hg hlen (.node a b) [] p hk h0 (by simpa using h1) (by simp) (fun j a b => by simp at b; omega) ?_).1
  rw [show p + (([] : List Int).length : Int) = p by simp]
  unfold TPost num06
  by_cases e : ((Tr06.node a b).run l p).2.1 = 0
  · rw [if_pos e, if_pos e]
    obtain ⟨i0, i1⟩ := Tr06.run_lt l ls.length _ p ht e
    obtain ⟨p0, p1⟩ := Tr06.run_place l (.node a b) p h0 h1
    obtain ⟨g0, g1, g2, g3, g4, g5⟩ := good_line hg i0 i1
    rw [g1]
    refine EvP.bind (inner_is hl g2 g3 g4 g5 (by omega) p1) ?_
    rintro _ rfl
    refine EvP.ret ?_
    by_cases c : en l - ((Tr06.node a b).run l p).2.2 < (rd_T87 ls ((Tr06.node a b).run l p).1).f1
    · rw [if_pos c, if_pos c]; exact ⟨by omega, rfl⟩
    · rw [if_neg c, if_neg c]; rfl
  · rw [if_neg e, if_neg e]
    exact ⟨e, rfl⟩
def csU : List (List Int) := [[0], [1, 0], [1, 1, 0], [1, 1, 1, 0], [1, 1, 1, 1, 0], [1, 1, 1, 1, 1]]
def csC0 : List (List Int) := [[0, 0], [0, 1], [1, 0], [1, 1]]
def csC1 : List (List Int) := [[0], [1, 0], [1, 1, 0], [1, 1, 1]]
theorem csU_is : incunableref04_Codes.f 200 tU.1 = some csU := by decide +kernel
theorem csC0_is : incunableref04_Codes.f 200 tC0.1 = some csC0 := by decide +kernel
theorem csC1_is : incunableref04_Codes.f 200 tC1.1 = some csC1 := by decide +kernel
theorem goodU : good06 tU.1 csU = true := by decide +kernel
theorem goodC0 : good06 tC0.1 csC0 = true := by decide +kernel
theorem goodC1 : good06 tC1.1 csC1 = true := by decide +kernel
theorem tokU : tok csU [] trU = true := by decide +kernel
theorem tokC0 : tok csC0 [] trC0 = true := by decide +kernel
theorem tokC1 : tok csC1 [] trC1 = true := by decide +kernel
/-- A run of a colour. -/
def run06 (l : List Int) (p c : Int) : Except Int (Int × Int) := match num06 tU.1 trU l p with
  | .error e => .error e
  | .ok n => match num06 (if c = 0 then tC0.1 else tC1.1) (if c = 0 then trC0 else trC1) l n.2 with
    | .error e => .error e
    | .ok m => if m.1 ≥ 64 then .error 3 else .ok (n.1 * 64 + m.1, m.2)
theorem numC_ok {l : List Int} (hl : Byt06 l) {c p : Int} (h0 : 0 ≤ p) (h1 : p ≤ en l) {v : Int × Int} (h : num06 (if c = 0 then tC0.1 else tC1.1) (if c = 0 then trC0 else trC1) l p = .ok v) : 0 ≤ v.1 ∧ v.1 < 1000 + 2000000 ∧ p ≤ v.2 ∧ v.2 ≤ en l := by
  by_cases c0 : c = 0
  · simp only [if_pos c0] at h
    exact num06_ok goodC0 (by decide) hl h0 h1 h
  · simp only [if_neg c0] at h
    exact num06_ok goodC1 (by decide) hl h0 h1 h
theorem run06_ok {l : List Int} (hl : Byt06 l) {c p : Int} (h0 : 0 ≤ p) (h1 : p ≤ en l) {v : Int × Int} (h : run06 l p c = .ok v) : 0 ≤ v.1 ∧ v.1 < 200000000 ∧ p ≤ v.2 ∧ v.2 ≤ en l := by
  unfold run06 at h
  cases e1 : num06 tU.1 trU l p with
  | error e => rw [e1] at h; cases h
  | ok n =>
    rw [e1] at h
    obtain ⟨a, b, c', d⟩ := num06_ok goodU (by decide) hl h0 h1 e1
    simp only at h
    cases e2 : num06 (if c = 0 then tC0.1 else tC1.1) (if c = 0 then trC0 else trC1) l n.2 with
    | error e => rw [e2] at h; cases h
    | ok m =>
      rw [e2] at h
      obtain ⟨a', b', c'', d'⟩ := numC_ok hl (by omega) d e2
      simp only at h
      split at h
      · cases h
      · injection h with h
        subst h
        refine ⟨?_, ?_, ?_, ?_⟩ <;> simp only <;> omega
theorem run_is {l : List Int} (hl : Byt06 l) {c p : Int} (hc : c = 0 ∨ c = 1) (h0 : 0 ≤ p) (h1 : p ≤ en l) : EvP (fun k => runs_reader_run.f k l p true c) (PP (run06 l p c)) := by
  unfold runs_reader_run.f runs_reader_runG.f run06
  refine EvP.pos hc ?_
  refine EvP.bind (number_is hl goodU (t := trU) (by decide) wokU h0 h1) ?_
  intro r hr
  cases e1 : num06 tU.1 trU l p with
  | error e =>
    rw [e1] at hr
    obtain ⟨hr1, hr2⟩ := hr
    exact EvP.neg (by rw [hr2]; exact hr1) (EvP.ret ⟨hr1, hr2⟩)
  | ok n =>
    rw [e1] at hr
    have hr : r = (n.1, 0, n.2, true) := hr
    subst hr
    obtain ⟨a, b, c', d⟩ := num06_ok goodU (by decide) hl h0 h1 e1
    refine EvP.pos rfl ?_
    have hm : EvP (fun k => runs_reader_number.f k l n.2 true (if c = 0 then tC0.1 else tC1.1) (if c = 0 then tC0.2 else tC1.2)) (PP (num06 (if c = 0 then tC0.1 else tC1.1) (if c = 0 then trC0 else trC1) l n.2)) := by
      by_cases c0 : c = 0
      · simp only [if_pos c0]
        exact number_is hl goodC0 (t := trC0) (by decide) wokC0 (by omega) d
      · simp only [if_neg c0]
        exact number_is hl goodC1 (t := trC1) (by decide) wokC1 (by omega) d
    refine EvP.bind hm ?_
    intro r hr
    simp only
    cases e2 : num06 (if c = 0 then tC0.1 else tC1.1) (if c = 0 then trC0 else trC1) l n.2 with
    | error e =>
      rw [e2] at hr
      obtain ⟨hr1, hr2⟩ := hr
      exact EvP.neg (by rw [hr2]; exact hr1) (EvP.ret ⟨hr1, hr2⟩)
    | ok m =>
      rw [e2] at hr
      have hr : r = (m.1, 0, m.2, true) := hr
      subst hr
      obtain ⟨a', b', c'', d'⟩ := numC_ok hl (by omega) d e2
      refine EvP.pos rfl ?_
      simp only
      refine EvP.ite (fun q => EvP.ret ?_) (fun q => EvP.ret ?_)
      · rw [if_pos q]
        exact ⟨by omega, rfl⟩
      · rw [if_neg q]
        show _ = _
        rw [w64 (x := n.1 * 64) (by omega) (by omega), w64 (by omega) (by omega)]
/-- What the reference's run answers. -/
def RR (s : Except Int (Int × Int)) (r : Int × Int × Int) : Prop := match s with
  | .error e => e ≠ 0 ∧ r.2.2 = e
  | .ok v => r = (v.1, v.2, 0)
theorem refRun_is {l : List Int} (hl : Byt06 l) {c p : Int} (hc : c = 0 ∨ c = 1) (h0 : 0 ≤ p) (h1 : p ≤ en l) : EvP (fun k => incunableref06_run.f k l p c) (RR (run06 l p c)) := by
  unfold incunableref06_run.f run06
  refine EvP.bindv (a := tU.1) rfl ?_
  refine EvP.bind (take_is hl goodU (by decide) csU_is (by decide) tokU h0 h1) ?_
  intro r hr
  rw [show Tr06.node (.leaf 0) (.node (.leaf 1) (.node (.leaf 2) (.node (.leaf 3) (.node (.leaf 4) (.leaf 5))))) = trU from rfl] at hr
  cases e1 : num06 tU.1 trU l p with
  | error e =>
    rw [e1] at hr
    obtain ⟨hr1, rfl⟩ := hr
    exact EvP.neg hr1 (EvP.ret ⟨hr1, rfl⟩)
  | ok n =>
    rw [e1] at hr
    have hr : r = (false, n.1, n.2, 0) := hr
    subst hr
    obtain ⟨a, b, c', d⟩ := num06_ok goodU (by decide) hl h0 h1 e1
    refine EvP.pos rfl ?_
    refine EvP.bindv (a := if c = 0 then tC0.1 else tC1.1) (by rcases hc with rfl | rfl <;> rfl) ?_
    have hm : EvP (fun k => incunableref04_Take.f k (if c = 0 then tC0.1 else tC1.1) l n.2) (RP (num06 (if c = 0 then tC0.1 else tC1.1) (if c = 0 then trC0 else trC1) l n.2)) := by
      by_cases c0 : c = 0
      · simp only [if_pos c0]
        exact take_is hl goodC0 (by decide) csC0_is (by decide) tokC0 (by omega) d
      · simp only [if_neg c0]
        exact take_is hl goodC1 (by decide) csC1_is (by decide) tokC1 (by omega) d
    refine EvP.bind hm ?_
    intro r hr
    simp only
    cases e2 : num06 (if c = 0 then tC0.1 else tC1.1) (if c = 0 then trC0 else trC1) l n.2 with
    | error e =>
      rw [e2] at hr
      obtain ⟨hr1, rfl⟩ := hr
      exact EvP.neg hr1 (EvP.ret ⟨hr1, rfl⟩)
    | ok m =>
      rw [e2] at hr
      have hr : r = (false, m.1, m.2, 0) := hr
      subst hr
      obtain ⟨a', b', c'', d'⟩ := numC_ok hl (by omega) d e2
      refine EvP.pos rfl ?_
      simp only
      by_cases q : m.1 ≥ 64
      · rw [if_pos q]
        exact EvP.pos (by omega) (EvP.ret ⟨by omega, rfl⟩)
      · rw [if_neg q]
        refine EvP.neg (by omega) (EvP.ret ?_)
        show _ = _
        rw [w64 (x := 64 * n.1) (by omega) (by omega), w64 (by omega) (by omega), Int.mul_comm 64 n.1]

theorem rep06 : (List.range 201).all (fun n => decide (slices_Repeat_byte_byte.f 20 [0] (n : Int) = some (List.replicate n 0)) && decide (slices_Repeat_byte_byte.f 20 [1] (n : Int) = some (List.replicate n 1))) = true := by decide +kernel
theorem rep_is {v n : Int} (h0 : 0 ≤ n) (h1 : n ≤ 200) (hv : v = 0 ∨ v = 1) : EvP (fun k => slices_Repeat_byte_byte.f k [v] n) (· = List.replicate n.toNat v) := by
  have g := List.all_eq_true.mp rep06 n.toNat (List.mem_range.mpr (by omega))
  rw [Bool.and_eq_true, decide_eq_true_iff, decide_eq_true_iff, show ((n.toNat : Nat) : Int) = n by omega] at g
  rcases hv with rfl | rfl
  · exact EvP.of (slices_Repeat_byte_byte.mono _ _) g.1
  · exact EvP.of (slices_Repeat_byte_byte.mono _ _) g.2

theorem paint_is {row : List Int} {n c : Int} (n0 : 0 ≤ n) (n1 : (row.length : Int) + n ≤ 10000) (hc : c = 0 ∨ c = 1) : EvP (fun k => incunableref06_paint.f k row ((row.length : Int) + n) c) (· = row ++ List.replicate n.toNat c) := by
  unfold incunableref06_paint.f
  refine EvP.bindv (a := ([] : List Int)) rfl (EvP.pos (by simp; omega) ?_)
  rw [List.nil_append]
  have key : ∀ (m : Nat) (x : List Int), (x.length : Int) + m = (row.length : Int) + n → EvP (fun k => incunableref06_paint.l0 k ((row.length : Int) + n) c x) (· = x ++ List.replicate m c) := by
    intro m
    induction m with
    | zero => intro x hx; refine EvP.step (fun k => by rw [incunableref06_paint.l0]) (EvP.neg (by omega) (EvP.ret (by simp)))
    | succ m ih =>
      intro x hx
      refine EvP.step (fun k => by rw [incunableref06_paint.l0]) (EvP.pos (by omega) (EvP.pos (by omega) ?_))
      rw [show c % 256 = c by omega]
      refine (ih (x ++ [c]) (by simp; omega)).mono ?_
      rintro _ rfl
      rw [List.append_assoc, List.replicate_succ]; rfl
  have := key n.toNat row (by omega)
  exact this
/-- What the program's row answers. -/
def PO (s : Except Int (List Int × Int)) (r : List Int × Int × Int × Bool) : Prop := match s with
  | .error e => e ≠ 0 ∧ r.2.1 = e
  | .ok v => r = (v.1, 0, v.2, true)
/-- What the reference's row answers. -/
def RO (s : Except Int (List Int × Int)) (r : List Int × Int × Int) : Prop := match s with
  | .error e => e ≠ 0 ∧ r.2.2 = e
  | .ok v => r = (v.1, v.2, 0)
/-- A row that has been read. -/
def Row06 (l : List Int) (w p : Int) (v : List Int × Int) : Prop := (v.1.length : Int) = w ∧ (∀ x ∈ v.1, x = 0 ∨ x = 1) ∧ p ≤ v.2 ∧ v.2 ≤ en l
theorem one_pair {l : List Int} (hl : Byt06 l) {w : Int} (w0 : 0 ≤ w) (w1 : w ≤ 200) : ∀ (d : Nat) (row : List Int) (i p : Int), 2 * (w - (row.length : Int)) + (if i = 0 then 1 else 0) ≤ d → 0 ≤ i → i ≤ (row.length : Int) + 1 → (row.length : Int) ≤ w → (∀ x ∈ row, x = 0 ∨ x = 1) → 0 ≤ p → p ≤ en l →
    ∃ s : Except Int (List Int × Int), EvP (fun k => runs_reader_one.l0 k w row i l p true) (PO s) ∧ EvP (fun k => incunableref06_oneRow.l0 k l p w row (i % 2) i) (RO s) ∧ ∀ v, s = .ok v → Row06 l w p v := by
  intro d
  induction d with
  | zero =>
    intro row i p hd i0 i1 hr hx p0 p1
    refine ⟨.ok (row, p), ?_, ?_, fun v hv => ?_⟩
    · exact EvP.step (fun k => by rw [runs_reader_one.l0]) (EvP.neg (by split at hd <;> omega) (EvP.ret rfl))
    · exact EvP.step (fun k => by rw [incunableref06_oneRow.l0]) (EvP.neg (by split at hd <;> omega) (EvP.ret rfl))
    · cases hv; exact ⟨by show (row.length : Int) = w; split at hd <;> omega, hx, Int.le_refl _, p1⟩
  | succ d ih =>
    intro row i p hd i0 i1 hr hx p0 p1
    by_cases c : (row.length : Int) < w
    · have hc : i % 2 = 0 ∨ i % 2 = 1 := by omega
      have hP := run_is hl hc p0 p1
      have hR := refRun_is hl hc p0 p1
      cases hs : run06 l p (i % 2) with
      | error e =>
        rw [hs] at hP hR
        refine ⟨.error e, ?_, ?_, fun v hv => by cases hv⟩
        · refine EvP.step (fun k => by rw [runs_reader_one.l0]) (EvP.pos c ?_)
          rw [tmod_pos i0]
          refine EvP.bind hP ?_
          rintro r ⟨h1, h2⟩
          exact EvP.neg (by rw [h2]; exact h1) (EvP.ret ⟨h1, h2⟩)
        · refine EvP.step (fun k => by rw [incunableref06_oneRow.l0]) (EvP.pos c ?_)
          refine EvP.bind hR ?_
          rintro r ⟨h1, h2⟩
          exact EvP.neg (by rw [h2]; exact h1) (EvP.ret ⟨h1, h2⟩)
      | ok n =>
        obtain ⟨n0, n1, q0, q1⟩ := run06_ok hl p0 p1 hs
        rw [hs] at hP hR
        by_cases bad : (n.1 = 0 ∧ i > 0) ∨ n.1 > w - (row.length : Int)
        · refine ⟨.error 3, ?_, ?_, fun v hv => by cases hv⟩
          · refine EvP.step (fun k => by rw [runs_reader_one.l0]) (EvP.pos c ?_)
            rw [tmod_pos i0]
            refine EvP.bind hP ?_
            intro r hr'
            have hr' : r = (n.1, 0, n.2, true) := hr'
            subst hr'
            refine EvP.pos rfl ?_
            rw [w64 (x := w - (row.length : Int)) (by omega) (by omega)]
            have fin : ∀ k : Nat → Option (List Int × Int × Int × Bool), EvP (fun n' => if n.1 > w - (row.length : Int) then some (([] : List Int), 3, n.2, true) else k n') (PO (.error 3)) ∨ ¬ n.1 > w - (row.length : Int) := fun k => by
              by_cases z : n.1 > w - (row.length : Int)
              · exact .inl (EvP.pos z (EvP.ret ⟨by omega, rfl⟩))
              · exact .inr z
            refine EvP.ite (fun z => EvP.ite (fun y => EvP.ret ⟨by omega, rfl⟩) (fun y => ?_)) (fun z => ?_)
            · exact (fin _).resolve_right (fun u => u (by omega))
            · exact (fin _).resolve_right (fun u => u (by omega))
          · refine EvP.step (fun k => by rw [incunableref06_oneRow.l0]) (EvP.pos c ?_)
            refine EvP.bind hR ?_
            intro r hr'
            have hr' : r = (n.1, n.2, 0) := hr'
            subst hr'
            refine EvP.pos rfl ?_
            rw [w64 (x := w - (row.length : Int)) (by omega) (by omega)]
            have fin : ∀ k : Nat → Option (List Int × Int × Int), EvP (fun n' => if n.1 > w - (row.length : Int) then some (([] : List Int), 0, 3) else k n') (RO (.error 3)) ∨ ¬ n.1 > w - (row.length : Int) := fun k => by
              by_cases z : n.1 > w - (row.length : Int)
              · exact .inl (EvP.pos z (EvP.ret ⟨by omega, rfl⟩))
              · exact .inr z
            refine EvP.ite (fun z => EvP.ite (fun y => EvP.ret ⟨by omega, rfl⟩) (fun y => ?_)) (fun z => ?_)
            · exact (fin _).resolve_right (fun u => u (by omega))
            · exact (fin _).resolve_right (fun u => u (by omega))
        · have b1 : ¬ (n.1 = 0 ∧ i > 0) := fun z => bad (.inl z)
          have b2 : ¬ n.1 > w - (row.length : Int) := fun z => bad (.inr z)
          have hlen : ((row ++ List.replicate n.1.toNat (i % 2)).length : Int) = (row.length : Int) + n.1 := by simp; omega
          obtain ⟨s, s1, s2, s3⟩ := ih (row ++ List.replicate n.1.toNat (i % 2)) (i + 1) n.2 (by rw [hlen, if_neg (by omega)]; split at hd <;> omega) (by omega) (by rw [hlen]; omega) (by rw [hlen]; omega)
            (fun x hx' => (List.mem_append.mp hx').elim (fun z => hx x z) (fun z => by rw [(List.mem_replicate.mp z).2]; exact hc)) (by omega) q1
          refine ⟨s, ?_, ?_, fun v hv => ?_⟩
          · refine EvP.step (fun k => by rw [runs_reader_one.l0]) (EvP.pos c ?_)
            rw [tmod_pos i0]
            refine EvP.bind hP ?_
            intro r hr'
            have hr' : r = (n.1, 0, n.2, true) := hr'
            subst hr'
            refine EvP.pos rfl ?_
            rw [w64 (x := w - (row.length : Int)) (by omega) (by omega), w64 (x := i + 1) (by omega) (by omega), show i % 2 % 256 = i % 2 by omega]
            have fin : EvP (fun k => if n.1 > w - (row.length : Int) then some (([] : List Int), 3, n.2, true) else ((slices_Repeat_byte_byte.f k ([i % 2] : List Int) n.1).bind fun t394 => (if row.length + t394.length < 140737488355328 then (runs_reader_one.l0 k w (row ++ t394) (i + 1) l n.2 true) else (none)))) (PO s) := by
              refine EvP.neg b2 ?_
              refine EvP.bind (rep_is n0 (by omega) hc) ?_
              rintro _ rfl
              exact EvP.pos (by simp; omega) s1
            exact EvP.ite (fun z => EvP.neg (fun y => b1 ⟨z, y⟩) fin) (fun z => fin)
          · refine EvP.step (fun k => by rw [incunableref06_oneRow.l0]) (EvP.pos c ?_)
            refine EvP.bind hR ?_
            intro r hr'
            have hr' : r = (n.1, n.2, 0) := hr'
            subst hr'
            refine EvP.pos rfl ?_
            rw [w64 (x := w - (row.length : Int)) (by omega) (by omega), w64 (x := i + 1) (by omega) (by omega), w64 (x := 1 - i % 2) (by omega) (by omega), w64 (x := (row.length : Int) + n.1) (by omega) (by omega), show 1 - i % 2 = (i + 1) % 2 by omega]
            have fin : EvP (fun k => if n.1 > w - (row.length : Int) then some (([] : List Int), 0, 3) else ((incunableref06_paint.f k row ((row.length : Int) + n.1) (i % 2)).bind fun t529 => (incunableref06_oneRow.l0 k l n.2 w t529 ((i + 1) % 2) (i + 1)))) (RO s) := by
              refine EvP.neg b2 ?_
              refine EvP.bind (paint_is n0 (by omega) hc) ?_
              rintro _ rfl
              exact s2
            exact EvP.ite (fun z => EvP.neg (fun y => b1 ⟨z, y⟩) fin) (fun z => fin)
          · obtain ⟨x1, x2, x3, x4⟩ := s3 v hv
            exact ⟨x1, x2, by omega, x4⟩
    · refine ⟨.ok (row, p), ?_, ?_, fun v hv => ?_⟩
      · exact EvP.step (fun k => by rw [runs_reader_one.l0]) (EvP.neg c (EvP.ret rfl))
      · exact EvP.step (fun k => by rw [incunableref06_oneRow.l0]) (EvP.neg c (EvP.ret rfl))
      · cases hv; exact ⟨by show (row.length : Int) = w; omega, hx, Int.le_refl _, p1⟩

instance (w h : Int) (p : List Int) : Decidable (Val w h p) := by unfold Val; exact inferInstance
theorem sid_mul {w h : Int} (hw : 0 ≤ w) (hh : 0 ≤ h) (hw' : w ≤ 200) (hh' : h ≤ 200) : 0 ≤ w * h ∧ w * h ≤ 40000 := by
  have h1 : 0 ≤ w * h := Int.mul_nonneg hw hh
  have h2 : w * h ≤ 200 * h := Int.mul_le_mul_of_nonneg_right hw' hh
  omega

theorem fits_is (w h : Int) : bitmap_fits.f w h = some (decide (Sid w h)) := by
  unfold bitmap_fits.f
  by_cases h1 : 0 ≤ w ∧ 0 ≤ h ∧ w ≤ 200 ∧ h ≤ 200
  · obtain ⟨a, b, c, d⟩ := h1
    have := sid_mul a b c d
    rw [if_pos (by omega), if_pos (by omega), if_pos c, if_pos d, w64 (by omega) (by omega)]
    simp [Sid, a, b, c, d]
  · have h2 : ¬ Sid w h := fun s => h1 ⟨s.1, s.2.1, s.2.2.1, s.2.2.2.1⟩
    simp only [h2, decide_false]
    split
    · split
      · split
        · split
          · omega
          · rfl
        · rfl
      · rfl
    · rfl

theorem isSize06_is (w h : Int) : incunableref06_IsSize.f w h = some (decide (Sid w h)) := by
  unfold incunableref06_IsSize.f
  by_cases h1 : 0 ≤ w ∧ 0 ≤ h ∧ w ≤ 200 ∧ h ≤ 200
  · obtain ⟨a, b, c, d⟩ := h1
    have := sid_mul a b c d
    rw [if_pos (by omega), if_pos (by omega), if_pos (by omega), if_pos d, w64 (by omega) (by omega)]
    simp [Sid, a, b, c, d]
  · have h2 : ¬ Sid w h := fun s => h1 ⟨s.1, s.2.1, s.2.2.1, s.2.2.2.1⟩
    simp only [h2, decide_false]
    split
    · split
      · split
        · split
          · omega
          · rfl
        · rfl
      · rfl
    · rfl
theorem SameBitmap06_is (w h : Int) (l : List Int) (hl : (l.length : Int) ≤ 9223372036854775806) : EvP (fun k => incunableref06_SameBitmap.f k w h l w h l) (· = true) := by
  unfold incunableref06_SameBitmap.f
  refine EvP.pos rfl (EvP.pos rfl ?_)
  refine EvP.step (fun k => by rw [incunableref06_SameBitmap.j0]) (EvP.neg (by simp) ?_)
  refine EvP.up (L := fun k i (_ : Unit) => incunableref06_SameBitmap.l0 k (l.length : Int) i w h l w h l) (fun i _ => 0 ≤ i) l.length ?_ 0 () (by omega) (by omega)
  intro i _ i0 hn ih
  refine EvP.step (fun k => by rw [incunableref06_SameBitmap.l0]) ?_
  refine EvP.ite (fun i1 => EvP.pos i0 (EvP.pos i1 (EvP.pos i1 (EvP.pos rfl ?_)))) (fun _ => EvP.ret rfl)
  rw [w64 (x := i + 1) (by omega) (by omega)]
  exact ih () i1 (by omega)
/-- What a reader of a bitmap answers, program and reference alike. -/
def PG (w h : Int) (s : Except Int (List Int × Int)) (r : Int × Int × List Int × Int × Int) : Prop := match s with
  | .error e => e ≠ 0 ∧ r = (0, 0, [], 0, e)
  | .ok v => r = (w, h, v.1, v.2, 0)

theorem blank_is (w h : Int) : bitmap_blank.f w h = some (if Sid w h then (w, h, tab w h (fun _ _ => 0), 0) else (0, 0, [], 4)) := by
  unfold bitmap_blank.f
  rw [fits_is, Option.bind_some]
  by_cases s : Sid w h
  · have hm := sid_mul s.1 s.2.1 s.2.2.1 s.2.2.2.1
    rw [if_pos (decide_eq_true s), if_pos s, w64 (by omega) (by omega), if_pos (by omega), if_pos (by omega), replicate_tab s.1 s.2.1]
  · rw [if_neg (by simpa using s), if_neg s]

/-- What New returns. -/
def newR (w h c : Int) : Int × Int × List Int × Int := if w < 0 ∨ h < 0 ∨ (c ≠ 0 ∧ c ≠ 1) then (0, 0, [], 2) else if Sid w h then (w, h, tab w h (fun _ _ => c), 0) else (0, 0, [], 4)
theorem New_j0 (w h c : Int) (b : Bool) (hb : b = true ↔ (w < 0 ∨ h < 0 ∨ (c ≠ 0 ∧ c ≠ 1))) : EvP (fun k => bitmap_New.j0 k w h c b) (· = newR w h c) := by
  refine EvP.step (fun k => by rw [bitmap_New.j0]) ?_
  refine EvP.ite (fun h1 => EvP.ret ?_) (fun h1 => ?_)
  · unfold newR
    rw [if_pos (hb.mp h1)]
  · have hn : ¬ (w < 0 ∨ h < 0 ∨ (c ≠ 0 ∧ c ≠ 1)) := fun q => h1 (hb.mpr q)
    unfold newR
    rw [if_neg hn]
    refine EvP.bindv (blank_is w h) ?_
    by_cases s : Sid w h
    · simp only [if_pos s]
      have hm := sid_mul s.1 s.2.1 s.2.2.1 s.2.2.2.1
      have hlen : ((tab w h fun _ _ => (0 : Int)).length : Int) = w * h := by rw [tab_length]; omega
      refine EvP.fill (L := fun k i l => bitmap_New.l0 k c 0 ((tab w h fun _ _ => 0).length : Int) i w h l) (tab w h fun _ _ => 0) (fun _ => c) ?_ ?_
      · intro i l h0 h2 hl hr hk
        refine EvP.step (fun k => by rw [bitmap_New.l0]) ?_
        refine EvP.pos h2 (EvP.pos h0 (EvP.pos (by omega) ?_))
        rw [w64 (by omega) (by omega), show c % 256 = c by omega]
        exact hk
      · refine EvP.step (fun k => by rw [bitmap_New.l0]) ?_
        refine EvP.neg (by omega) (EvP.ret ?_)
        rw [lmap_tab (w := w) (h := h) (g := fun _ _ => c) s.1 s.2.1 (by omega) (fun _ _ _ _ _ _ => rfl)]
    · simp only [if_neg s]
      refine EvP.step (fun k => by rw [bitmap_New.l0]) ?_
      exact EvP.neg (by simp) (EvP.ret rfl)
theorem New_is (w h c : Int) : EvP (fun k => bitmap_New.f k w h c) (· = newR w h c) := by
  unfold bitmap_New.f
  refine EvP.ite (fun h1 => New_j0 w h c true (by simp [h1])) (fun h1 => ?_)
  refine EvP.ite (fun h2 => New_j0 w h c true (by simp [h2])) (fun h2 => ?_)
  refine EvP.ite (fun h3 => New_j0 w h c _ (by simp; omega)) (fun h3 => New_j0 w h c _ (by simp; omega))

theorem getOne_pair {l : List Int} (hl : Byt06 l) {w h : Int} (hs : Sid w h) : ∀ (d : Nat) (y p : Int) (pix ab : List Int), h - y = d → 0 ≤ y → (pix.length : Int) = y * w → (∀ x ∈ pix, x = 0 ∨ x = 1) → 0 ≤ p → p ≤ en l →
    ∃ s : Except Int (List Int × Int), EvP (fun k => runs_read54.l0 k l w h p true ab y pix) (PG w h s) ∧ EvP (fun k => incunableref06_Get.l0 k l w h false ab p y w h pix) (PG w h s) ∧ ∀ v, s = .ok v → (v.1.length : Int) = w * h ∧ (∀ x ∈ v.1, x = 0 ∨ x = 1) ∧ p ≤ v.2 ∧ v.2 ≤ en l := by
  obtain ⟨w0, h0, w1, h1, wh⟩ := hs
  intro d
  induction d with
  | zero =>
    intro y p pix ab hd y0 hp hx p0 p1
    refine ⟨.ok (pix, p), ?_, ?_, fun v hv => ?_⟩
    · refine EvP.step (fun k => by rw [runs_read54.l0]) (EvP.neg (by omega) ?_)
      exact EvP.bindv (a := (p, p, true)) (by simp [bits_Reader_At.f, bits_Reader_none.f]) (EvP.ret rfl)
    · exact EvP.step (fun k => by rw [incunableref06_Get.l0]) (EvP.neg (by omega) (EvP.ret rfl))
    · cases hv
      exact ⟨by show (pix.length : Int) = w * h; rw [hp, show y = h by omega, Int.mul_comm], hx, Int.le_refl _, p1⟩
  | succ d ih =>
    intro y p pix ab hd y0 hp hx p0 p1
    obtain ⟨s, s1, s2, s3⟩ := one_pair hl w0 w1 (2 * w + 1).toNat [] 0 p (by simp; omega) (by omega) (by simp) (by simpa using w0) (by simp) p0 p1
    have hm : y * w ≤ 40000 := by
      have := sid_mul (w := y) (h := w) y0 w0 (by omega) w1
      omega
    cases hs' : s with
    | error e =>
      rw [hs'] at s1 s2
      refine ⟨.error e, ?_, ?_, fun v hv => by cases hv⟩
      · refine EvP.step (fun k => by rw [runs_read54.l0]) (EvP.pos (by omega) ?_)
        refine EvP.bind (Q := PO (.error e)) s1 ?_
        rintro r ⟨e1, e2⟩
        refine EvP.neg (by rw [e2]; exact e1) (EvP.ret ⟨e1, by rw [e2]⟩)
      · refine EvP.step (fun k => by rw [incunableref06_Get.l0]) (EvP.pos (by omega) (EvP.neg (by simp) ?_))
        refine EvP.bind (Q := RO (.error e)) s2 ?_
        rintro r ⟨e1, e2⟩
        refine EvP.neg (by rw [e2]; exact e1) (EvP.ret ⟨e1, by rw [e2]⟩)
    | ok v =>
      rw [hs'] at s1 s2
      obtain ⟨v1, v2, v3, v4⟩ := s3 v hs'
      obtain ⟨u, u1, u2, u3⟩ := ih (y + 1) v.2 (pix ++ v.1) v.1 (by omega) (by omega) (by rw [List.length_append, Int.natCast_add, hp, v1, Int.add_mul, Int.one_mul]) (fun x hx' => (List.mem_append.mp hx').elim (hx x) (v2 x)) (by omega) v4
      refine ⟨u, ?_, ?_, fun z hz => ?_⟩
      · refine EvP.step (fun k => by rw [runs_read54.l0]) (EvP.pos (by omega) ?_)
        refine EvP.bind (Q := PO (.ok v)) s1 ?_
        intro r hr
        have hr : r = (v.1, 0, v.2, true) := hr
        subst hr
        refine EvP.pos rfl (EvP.pos (by simp only; omega) ?_)
        rw [w64 (x := y + 1) (by omega) (by omega)]
        exact u1
      · refine EvP.step (fun k => by rw [incunableref06_Get.l0]) (EvP.pos (by omega) (EvP.neg (by simp) ?_))
        refine EvP.bind (Q := RO (.ok v)) s2 ?_
        intro r hr
        have hr : r = (v.1, v.2, 0) := hr
        subst hr
        refine EvP.pos rfl (EvP.pos (by simp only; omega) ?_)
        rw [w64 (x := y + 1) (by omega) (by omega)]
        exact u2
      · obtain ⟨z1, z2, z3, z4⟩ := u3 z hz
        exact ⟨z1, z2, by omega, z4⟩
/-- Program and reference read the same. -/
theorem GetOne_pair {l : List Int} (hl : Byt06 l) (w h : Int) : ∃ s : Except Int (List Int × Int), EvP (fun k => runs_GetOne.f k l w h) (PG w h s) ∧ EvP (fun k => incunableref06_GetOne.f k l w h) (PG w h s) ∧ ∀ v, s = .ok v → Sid w h ∧ (v.1.length : Int) = w * h ∧ (∀ x ∈ v.1, x = 0 ∨ x = 1) ∧ 0 ≤ v.2 ∧ v.2 ≤ en l := by
  have h2 := hl.2
  by_cases hs : Sid w h
  · obtain ⟨w0, h0, w1, h1, wh⟩ := id hs
    obtain ⟨s, s1, s2, s3⟩ := getOne_pair hl hs h.toNat 0 0 [] (List.replicate w.toNat 0) (by omega) (by omega) (by simp) (by simp) (by omega) (by unfold en; omega)
    refine ⟨s, ?_, ?_, fun v hv => ⟨hs, s3 v hv⟩⟩
    · unfold runs_GetOne.f runs_read54.f
      refine EvP.bind (New_is w h 0) ?_
      rintro _ rfl
      unfold newR
      rw [if_neg (by omega), if_pos hs]
      exact EvP.pos rfl (EvP.pos w0 (EvP.pos (by omega) (EvP.pos (by omega) s1)))
    · unfold incunableref06_GetOne.f incunableref06_Get.f
      have main : EvP (fun k => (incunableref06_IsSize.f w h).bind fun t533 => (if t533 = true then (if 0 ≤ w then (if (w : Int).toNat ≤ 281474976710656 then (incunableref06_Get.l0 k l w h false (List.replicate (w : Int).toNat 0) 0 0 w h ([] : List Int)) else (none)) else (none)) else (some (0, 0, ([] : List Int), 0, 2)))) (PG w h s) := by
        refine EvP.bindv (isSize06_is w h) ?_
        rw [decide_eq_true hs]
        exact EvP.pos rfl (EvP.pos w0 (EvP.pos (by omega) s2))
      exact EvP.bind main (fun r hr => EvP.ret hr)
  · refine ⟨.error 2, ?_, ?_, fun v hv => by cases hv⟩
    · unfold runs_GetOne.f runs_read54.f
      refine EvP.bind (New_is w h 0) ?_
      rintro _ rfl
      refine EvP.neg ?_ (EvP.ret ⟨by omega, rfl⟩)
      unfold newR
      split
      · decide
      · first | decide | (rw [if_neg hs]; decide)
    · unfold incunableref06_GetOne.f incunableref06_Get.f
      have main : EvP (fun k => (incunableref06_IsSize.f w h).bind fun t533 => (if t533 = true then (if 0 ≤ w then (if (w : Int).toNat ≤ 281474976710656 then (incunableref06_Get.l0 k l w h false (List.replicate (w : Int).toNat 0) 0 0 w h ([] : List Int)) else (none)) else (none)) else (some (0, 0, ([] : List Int), 0, 2)))) (PG w h (.error 2)) := by
        refine EvP.bindv (isSize06_is w h) ?_
        rw [decide_eq_false hs]
        exact EvP.neg (by simp) (EvP.ret ⟨by omega, rfl⟩)
      exact EvP.bind main (fun r hr => EvP.ret hr)

/-- The numbers of a list are those of bytes. -/
def Byt (p : List Int) : Prop := ∀ x ∈ p, 0 ≤ x ∧ x ≤ 255
theorem val_byt {w h : Int} {p : List Int} (v : Val w h p) : Byt p := fun x hx => ⟨(v.2.2.2.2.2.2 x hx).1, by have := (v.2.2.2.2.2.2 x hx).2; omega⟩

theorem wf_byt {p : List Int} (h : ∀ y ∈ p, (Lit.int .u8 y).wf = true) : Byt p := fun x hx => by
  have h1 : (decide (IntKind.u8.min ≤ x) && decide (x ≤ IntKind.u8.max)) = true := h x hx
  obtain ⟨a, b⟩ := Bool.and_eq_true_iff.mp h1
  exact ⟨of_decide_eq_true a, of_decide_eq_true b⟩
theorem wf_i64 {x : Int} (h : (Lit.int .i64 x).wf = true) : -9223372036854775808 ≤ x ∧ x ≤ 9223372036854775807 := by
  have h1 : (decide (IntKind.i64.min ≤ x) && decide (x ≤ IntKind.i64.max)) = true := h
  obtain ⟨a, b⟩ := Bool.and_eq_true_iff.mp h1
  exact ⟨of_decide_eq_true a, of_decide_eq_true b⟩

theorem byt06 {l : List Int} (g : l.length ≤ 9223372036854775807 ∧ l.length * 1 ≤ 140737488351232 ∧ ∀ y0_ ∈ l, (Lit.int .u8 y0_).wf = true) : Byt06 l := ⟨fun y hy => wf_byt g.2.2 y hy, by omega⟩
theorem RunsGetOne : incunablelaw06_RunsGetOne.Pure := by
  intro l w h g0 g1 g2
  have hl := byt06 g0
  have awake : EvP (fun k => (incunablelaw06_Awake.f k).bind fun t => some t) (· = true) := EvP.bind Awake06_is (by rintro _ rfl; exact EvP.ret rfl)
  refine EvP.rounds (g := fun k => incunablelaw06_RunsGetOne.f k l w h) ?_
  unfold incunablelaw06_RunsGetOne.f
  refine EvP.ite (fun c => awake) (fun c => ?_)
  obtain ⟨s, s1, s2, s3⟩ := GetOne_pair hl w h
  refine EvP.bind s1 (fun r hr => EvP.bind s2 (fun q hq => ?_))
  have e : r = q := by
    cases s with
    | error e => rw [hr.2, hq.2]
    | ok v => exact (show r = _ from hr).trans (show q = _ from hq).symm
  have hlen : (q.2.2.1.length : Int) ≤ 9223372036854775806 := by
    cases s with
    | error e => rw [hq.2]; simp
    | ok v =>
      obtain ⟨sid, z, _⟩ := s3 v rfl
      rw [show q = _ from hq]
      have := sid.2.2.2.2
      show (v.1.length : Int) ≤ _
      omega
  subst e
  refine EvP.pos rfl (EvP.pos rfl ?_)
  refine EvP.bind (SameBitmap06_is _ _ _ hlen) ?_
  rintro _ rfl
  exact EvP.pos rfl awake

end Go.Proofs.YtknclbodinfbeaaDoor.Pure
