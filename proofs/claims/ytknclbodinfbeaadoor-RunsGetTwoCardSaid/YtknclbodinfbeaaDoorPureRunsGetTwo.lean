/- The bitmap that any bytes are in two dimensions: program and reference answer alike. -/
import Derived.Test.YtknclbodinfbeaaDoorPRunsGetTwox17
import Derived.Test.YtknclbodinfbeaaDoorQBase
namespace Go.Proofs.YtknclbodinfbeaaDoor.Pure
open Go.RowKit Go.Proofs.YtknclbodinfbeaaDoor.PRunsGetTwo Go.Proofs.YtknclbodinfbeaaDoorW.PrintWords Go.Proofs.YtknclbodinfbeaaDoorW.PrintLast Go.Proofs.YtknclbodinfbeaaDoorW.PrintMore Go.Proofs.YtknclbodinfbeaaDoorW.Pu
set_option linter.unusedVariables false
set_option linter.unusedSimpArgs false
theorem EvP.of {α : Type} {g : Nat → Option α} {r : α} (m : ∀ k, LeO (g k) (g (k + 1))) {k : Nat} (h : g k = some r) : EvP g (· = r) := ⟨r, Ev.of m h, rfl⟩
theorem awake06 : incunablelaw06_Awake.f 200 = some true := by decide +kernel
theorem Awake06_is : EvP (fun k => incunablelaw06_Awake.f k) (· = true) := EvP.of incunablelaw06_Awake.mono awake06
def bitI (l : List Int) (i : Int) : Int := Int.tmod (shr .u8 (rd l (i / 8)) (7 - i % 8)) 2
def Byt06 (l : List Int) : Prop := (∀ y ∈ l, 0 ≤ y ∧ y ≤ 255) ∧ (l.length : Int) ≤ 140737488351232
def en (l : List Int) : Int := 8 * (l.length : Int)
theorem bit_good : (List.range 256).all (fun v => (List.range 8).all fun j => decide (0 ≤ shr .u8 (v : Int) (7 - (j : Int))) && decide (shr .u8 (v : Int) (7 - (j : Int)) ≤ 255) && decide (Go.bits .and .u8 (shr .u8 (v : Int) (7 - (j : Int))) 1 = Int.tmod (shr .u8 (v : Int) (7 - (j : Int))) 2) && (decide (Int.tmod (shr .u8 (v : Int) (7 - (j : Int))) 2 = 0) || decide (Int.tmod (shr .u8 (v : Int) (7 - (j : Int))) 2 = 1))) = true := by decide +kernel
theorem bit_at {l : List Int} (hl : Byt06 l) {i : Int} (i0 : 0 ≤ i) (i1 : i < en l) :
  0 ≤ shr .u8 (rd l (i / 8)) (7 - i % 8) ∧ shr .u8 (rd l (i / 8)) (7 - i % 8) ≤ 255 ∧ Go.bits .and .u8 (shr .u8 (rd l (i / 8)) (7 - i % 8)) 1 = bitI l i ∧ (bitI l i = 0 ∨ bitI l i = 1) := by
 unfold en at i1
 obtain ⟨v0, v1⟩ := hl.1 _ (rd_mem (l := l) (i := i / 8) (by omega) (by omega))
 have g := List.all_eq_true.mp (List.all_eq_true.mp bit_good (rd l (i / 8)).toNat (List.mem_range.mpr (by omega))) (i % 8).toNat (List.mem_range.mpr (by omega))
 rw [show (((rd l (i / 8)).toNat : Nat) : Int) = rd l (i / 8) by omega, show (((i % 8).toNat : Nat) : Int) = i % 8 by omega] at g
 simp only [Bool.and_eq_true, Bool.or_eq_true, decide_eq_true_iff] at g
 exact ⟨g.1.1.1, g.1.1.2, g.1.2, g.2⟩
theorem BitAt_is {l : List Int} (hl : Byt06 l) {i : Int} (i0 : 0 ≤ i) (i1 : i < en l) : incunableref04_BitAt.f l i = some (bitI l i, true) := by
 obtain ⟨a, b, c, d⟩ := bit_at hl i0 i1
 have h2 := hl.2
 unfold en at i1
 unfold incunableref04_BitAt.f
 rw [w64 (x := 8 * (l.length : Int)) (by omega) (by omega), if_neg (by omega), tdiv_pos i0, tmod_pos i0, w64 (x := i / 8) (by omega) (by omega), if_pos (by omega), if_pos (by omega), w64 (x := 7 - i % 8) (by omega) (by omega), if_pos (by omega), w64 (by omega) (by omega)]
 rfl
theorem BitAt_end {l : List Int} (hl : Byt06 l) {i : Int} (i1 : en l ≤ i) : incunableref04_BitAt.f l i = some (0, false) := by
 have h2 := hl.2
 unfold en at i1
 unfold incunableref04_BitAt.f
 rw [w64 (x := 8 * (l.length : Int)) (by omega) (by omega), if_pos (by omega)]
def valN (l : List Int) (p : Int) : Nat → Int → Int
 | 0, a => a
 | n + 1, a => valN l (p + 1) n (2 * a + bitI l p)
theorem BitsL_is {l : List Int} (hl : Byt06 l) (n : Nat) : ∀ (m : Nat) (j a p : Int), j + m = n → 0 ≤ j → n ≤ 32 → 0 ≤ p → p + m ≤ en l → 0 ≤ a → a < 2 ^ j.toNat →
  EvP (fun k => bits_Reader_Bits.l0 k a (n : Int) j l p true) (· = (valN l p m a, 0, p + m, true)) := by
 intro m
 induction m with
 | zero =>
  intro j a p hj j0 hn p0 hp a0 a1
  refine EvP.step (fun k => by rw [bits_Reader_Bits.l0]) (EvP.neg (by omega) (EvP.ret ?_))
  simp [valN]
 | succ m ih =>
  intro j a p hj j0 hn p0 hp a0 a1
  have h2 := hl.2
  have p1 : p < en l := by omega
  obtain ⟨s0, s1, s2, s3⟩ := bit_at hl p0 p1
  unfold en at hp p1
  have jl : (2 : Int) ^ j.toNat ≤ 2 ^ 32 := by
   have := Nat.pow_le_pow_right (n := 2) (by omega) (show j.toNat ≤ 32 by omega)
   exact_mod_cast this
  have jl' : (2 : Int) ^ 32 = 4294967296 := by decide
  refine EvP.step (fun k => by rw [bits_Reader_Bits.l0]) (EvP.pos (by omega) ?_)
  rw [tdiv_pos p0, tmod_pos p0, w64 (x := p / 8) (by omega) (by omega), w64 (x := 7 - p % 8) (by omega) (by omega), s2, w64 (x := 2 * a) (by omega) (by omega), w64 (x := bitI l p) (by omega) (by omega), w64 (x := j + 1) (by omega) (by omega), w64 (x := p + 1) (by omega) (by omega), w64 (x := 2 * a + bitI l p) (by omega) (by omega)]
  refine EvP.pos (by omega) (EvP.pos (by omega) (EvP.pos (by omega) ?_))
  have e : (2 : Int) ^ (j + 1).toNat = 2 * 2 ^ j.toNat := by rw [show (j + 1).toNat = j.toNat + 1 by omega, Int.pow_succ]; omega
  refine (ih (j + 1) (2 * a + bitI l p) (p + 1) (by omega) (by omega) hn (by omega) (by unfold en; omega) (by omega) (by rw [e]; omega)).mono ?_
  rintro r rfl
  rw [valN]
  congr 3
  omega
theorem Bits_is {l : List Int} (hl : Byt06 l) {n p : Int} (n0 : 0 ≤ n) (n1 : n ≤ 32) (p0 : 0 ≤ p) (p1 : p ≤ en l) :
  EvP (fun k => bits_Reader_Bits.f k l p true n) (· = if en l - p < n then (0, 6, p, true) else (valN l p n.toNat 0, 0, p + n, true)) := by
 have h2 := hl.2
 unfold bits_Reader_Bits.f
 refine EvP.bindv (a := (false, p, true)) rfl (EvP.neg (by simp) (EvP.neg (by omega) ?_))
 rw [show decide (n > 32) = false by simpa using n1]
 refine EvP.step (fun k => by rw [bits_Reader_Bits.j0]) (EvP.neg (by simp) ?_)
 refine EvP.bindv (a := (en l - p, p, true)) ?_ ?_
 ·unfold bits_Reader_Left.f bits_Reader_none.f en
  unfold en at p1
  simp only [Option.bind_some, Bool.not_true, Bool.false_eq_true, if_false]
  rw [w64 (x := 8 * (l.length : Int)) (by omega) (by omega), w64 (by omega) (by omega)]
 ·by_cases c : en l - p < n
  ·rw [if_pos c]
   exact EvP.pos (by show n > en l - p; omega) (EvP.ret rfl)
  ·rw [if_neg c]
   refine EvP.neg (by show ¬ n > en l - p; omega) ?_
   have := BitsL_is hl n.toNat n.toNat 0 0 p (by omega) (by omega) (by omega) p0 (by omega) (by omega) (by decide)
   rw [show ((n.toNat : Nat) : Int) = n by omega] at this
   exact this
theorem valN_bound {l : List Int} (hl : Byt06 l) : ∀ (m : Nat) (p a : Int), 0 ≤ p → p + m ≤ en l → 0 ≤ a → 0 ≤ valN l p m a ∧ valN l p m a < (a + 1) * 2 ^ m := by
 intro m
 induction m with
 | zero => intro p a p0 hp a0; simp [valN]; omega
 | succ m ih =>
  intro p a p0 hp a0
  obtain ⟨s0, s1, s2, s3⟩ := bit_at hl (i := p) p0 (by omega)
  obtain ⟨q0, q1⟩ := ih (p + 1) (2 * a + bitI l p) (by omega) (by omega) (by omega)
  rw [valN]
  refine ⟨q0, Int.lt_of_lt_of_le q1 ?_⟩
  rw [Int.pow_succ, show (a + 1) * (2 ^ m * 2) = (2 * (a + 1)) * 2 ^ m by rw [Int.mul_comm ((2 : Int) ^ m) 2, ← Int.mul_assoc, Int.mul_comm (a + 1) 2]]
  exact Int.mul_le_mul_of_nonneg_right (by omega) (Int.pow_nonneg (by omega))
inductive Tr06 where
 | leaf (i : Nat)
 | bad
 | node (a b : Tr06)
def Tr06.run (l : List Int) : Tr06 → Int → Int × Int × Int
 | .leaf i, p => ((i : Int), 0, p)
 | .bad, p => (0, 3, p)
 | .node a b, p => if en l ≤ p then (0, 6, p) else if bitI l p = 0 then a.run l (p + 1) else b.run l (p + 1)
theorem Tr06.run_place (l : List Int) : ∀ (t : Tr06) (p : Int), 0 ≤ p → p ≤ en l → p ≤ (t.run l p).2.2 ∧ (t.run l p).2.2 ≤ en l := by
 intro t
 induction t with
 | leaf i => intro p h0 h1; exact ⟨Int.le_refl _, h1⟩
 | bad => intro p h0 h1; exact ⟨Int.le_refl _, h1⟩
 | node a b iha ihb =>
  intro p h0 h1
  simp only [Tr06.run]
  split
  ·exact ⟨Int.le_refl _, h1⟩
  ·split
   ·obtain ⟨x, y⟩ := iha (p + 1) (by omega) (by omega); exact ⟨by omega, y⟩
   ·obtain ⟨x, y⟩ := ihb (p + 1) (by omega) (by omega); exact ⟨by omega, y⟩
def dig0 : ByteArray := Utf8.encode (wrap32 (48 + wrap32 0))
def dig1 : ByteArray := Utf8.encode (wrap32 (48 + wrap32 1))
def wok (L : List ByteArray) : ByteArray → Tr06 → Bool
 | s, .leaf i => decide (slices_Index_string_string.f 20 L s = some (i : Int)) && (s.toList != [])
 | s, .bad => decide (slices_Index_string_string.f 20 L s = some (-1)) && decide (slices_ContainsFunc_string_string_118.f 20 L s = some false)
 | s, .node a b => decide (slices_Index_string_string.f 20 L s = some (-1)) && decide (slices_ContainsFunc_string_string_118.f 20 L s = some true) && decide (s.size + dig0.size ≤ 1000) && decide (s.size + dig1.size ≤ 1000) && wok L (s ++ dig0) a && wok L (s ++ dig1) b
theorem word_run {l : List Int} (hl : Byt06 l) (L : List ByteArray) : ∀ (t : Tr06) (s : ByteArray) (p : Int), wok L s t = true → 0 ≤ p → p ≤ en l →
  EvP (fun k => runs_reader_word.l0 k L l p true s) (· = ((t.run l p).1, (t.run l p).2.1, (t.run l p).2.2, true)) := by
 intro t
 induction t with
 | leaf i =>
  intro s p hw h0 h1
  simp only [wok, Bool.and_eq_true, decide_eq_true_iff] at hw
  refine EvP.step (fun k => by rw [runs_reader_word.l0]) ?_
  refine EvP.bind (EvP.of (fun k => slices_Index_string_string.mono L s k) hw.1) ?_
  rintro _ rfl
  refine EvP.pos (by omega) ?_
  rw [hw.2]
  refine EvP.step (fun k => by rw [runs_reader_word.j1]) ?_
  exact EvP.pos rfl (EvP.ret rfl)
 | bad =>
  intro s p hw h0 h1
  simp only [wok, Bool.and_eq_true, decide_eq_true_iff] at hw
  refine EvP.step (fun k => by rw [runs_reader_word.l0]) ?_
  refine EvP.bind (EvP.of (fun k => slices_Index_string_string.mono L s k) hw.1) ?_
  rintro _ rfl
  refine EvP.neg (by omega) ?_
  refine EvP.step (fun k => by rw [runs_reader_word.j1]) (EvP.neg (by simp) ?_)
  refine EvP.bind (EvP.of (fun k => slices_ContainsFunc_string_string_118.mono L s k) hw.2) ?_
  rintro _ rfl
  exact EvP.neg (by simp) (EvP.ret rfl)
 | node a b iha ihb =>
  intro s p hw h0 h1
  simp only [wok, Bool.and_eq_true, decide_eq_true_iff] at hw
  obtain ⟨⟨⟨⟨⟨w1, w2⟩, w3⟩, w4⟩, w5⟩, w6⟩ := hw
  refine EvP.step (fun k => by rw [runs_reader_word.l0]) ?_
  refine EvP.bind (EvP.of (fun k => slices_Index_string_string.mono L s k) w1) ?_
  rintro _ rfl
  refine EvP.neg (by omega) ?_
  refine EvP.step (fun k => by rw [runs_reader_word.j1]) (EvP.neg (by simp) ?_)
  refine EvP.bind (EvP.of (fun k => slices_ContainsFunc_string_string_118.mono L s k) w2) ?_
  rintro _ rfl
  refine EvP.pos rfl ?_
  refine EvP.bind (Bits_is hl (n := 1) (by omega) (by omega) h0 h1) ?_
  rintro _ rfl
  by_cases c : en l ≤ p
  ·rw [if_pos (show en l - p < 1 by omega), Tr06.run, if_pos c]
   exact EvP.neg (by simp) (EvP.ret rfl)
  ·rw [if_neg (show ¬ en l - p < 1 by omega), Tr06.run, if_neg c]
   have hv : valN l p (Int.toNat 1) 0 = bitI l p := by simp [valN]
   rw [hv]
   obtain ⟨s0, s1, s2, s3⟩ := bit_at hl h0 (show p < en l by omega)
   refine EvP.pos rfl ?_
   rcases s3 with s3 | s3
   ·rw [s3, if_pos rfl]
    exact EvP.pos (show s.size + dig0.size ≤ 9223372036854775807 by omega) (iha (s ++ dig0) (p + 1) w5 (by omega) (by omega))
   ·rw [s3, if_neg (by omega)]
    exact EvP.pos (show s.size + dig1.size ≤ 9223372036854775807 by omega) (ihb (s ++ dig1) (p + 1) w6 (by omega) (by omega))
def trU : Tr06 := .node (.leaf 0) (.node (.leaf 1) (.node (.leaf 2) (.node (.leaf 3) (.node (.leaf 4) (.leaf 5)))))
def trC0 : Tr06 := .node (.node (.leaf 0) (.leaf 1)) (.node (.leaf 2) (.leaf 3))
def trC1 : Tr06 := .node (.leaf 0) (.node (.leaf 1) (.node (.leaf 2) (.leaf 3)))
theorem wokU : wok tU.2 ⟨#[]⟩ trU = true := by decide +kernel
theorem wokC0 : wok tC0.2 ⟨#[]⟩ trC0 = true := by decide +kernel
theorem wokC1 : wok tC1.2 ⟨#[]⟩ trC1 = true := by decide +kernel
def scan06 (pre : List Int) : List (List Int) → Nat → Bool → Nat ⊕ Bool
 | [], _, s => .inr s
 | c :: cs, i, s => if pre.length ≤ c.length ∧ c.take pre.length = pre then (if c.length = pre.length then .inl i else scan06 pre cs (i + 1) true) else scan06 pre cs (i + 1) s
def isL : Nat ⊕ Bool → Nat → Bool
 | .inl i, j => i == j
 | .inr _, _ => false
def isR : Nat ⊕ Bool → Bool → Bool
 | .inl _, _ => false
 | .inr a, b => a == b
theorem isL_eq {x : Nat ⊕ Bool} {j : Nat} (h : isL x j = true) : x = .inl j := by
 cases x with
 | inl i => simp only [isL, beq_iff_eq] at h; rw [h]
 | inr a => simp [isL] at h
theorem isR_eq {x : Nat ⊕ Bool} {b : Bool} (h : isR x b = true) : x = .inr b := by
 cases x with
 | inl i => simp [isR] at h
 | inr a => simp only [isR, beq_iff_eq] at h; rw [h]
def tok (cs : List (List Int)) : List Int → Tr06 → Bool
 | pre, .leaf i => isL (scan06 pre cs 0 false) i
 | pre, .bad => isR (scan06 pre cs 0 false) false
 | pre, .node a b => (pre == [] || isR (scan06 pre cs 0 false) true) && decide (pre.length < 16) && tok cs (pre ++ [0]) a && tok cs (pre ++ [1]) b
def good06 (ls : List S87) (cs : List (List Int)) : Bool := decide (ls.length = cs.length) && ls.all (fun x => decide (x.f0 > 0) && decide (x.f3 = 0) && decide (0 ≤ x.f1) && decide (x.f1 ≤ 20) && decide (0 ≤ x.f2) && decide (x.f2 ≤ 1000)) && cs.all (fun c => c.all (fun b => decide (b = 0) || decide (b = 1)))
theorem good_line {ls : List S87} {cs : List (List Int)} (h : good06 ls cs = true) {i : Int} (i0 : 0 ≤ i) (i1 : i < (ls.length : Int)) :
  (rd_T87 ls i).f0 > 0 ∧ (rd_T87 ls i).f3 = 0 ∧ 0 ≤ (rd_T87 ls i).f1 ∧ (rd_T87 ls i).f1 ≤ 20 ∧ 0 ≤ (rd_T87 ls i).f2 ∧ (rd_T87 ls i).f2 ≤ 1000 := by
 simp only [good06, Bool.and_eq_true, List.all_eq_true, decide_eq_true_iff] at h
 have hm : rd_T87 ls i ∈ ls := by
  unfold rd_T87
  rw [List.getD_eq_getElem?_getD, List.getElem?_eq_getElem (show i.toNat < ls.length by omega)]
  exact List.getElem_mem _
 obtain ⟨⟨⟨⟨⟨a, b⟩, c⟩, d⟩, e⟩, f⟩ := h.1.2 _ hm
 exact ⟨a, b, c, d, e, f⟩
def csU : List (List Int) := [[0], [1, 0], [1, 1, 0], [1, 1, 1, 0], [1, 1, 1, 1, 0], [1, 1, 1, 1, 1]]
def csC0 : List (List Int) := [[0, 0], [0, 1], [1, 0], [1, 1]]
def csC1 : List (List Int) := [[0], [1, 0], [1, 1, 0], [1, 1, 1]]
theorem goodU : good06 tU.1 csU = true := by decide +kernel
theorem goodC0 : good06 tC0.1 csC0 = true := by decide +kernel
theorem goodC1 : good06 tC1.1 csC1 = true := by decide +kernel
def num06 (ls : List S87) (t : Tr06) (l : List Int) (p : Int) : Except Int (Int × Int) :=
 if (t.run l p).2.1 = 0 then
  (if en l - (t.run l p).2.2 < (rd_T87 ls (t.run l p).1).f1 then .error 6
   else .ok ((rd_T87 ls (t.run l p).1).f2 + valN l (t.run l p).2.2 (rd_T87 ls (t.run l p).1).f1.toNat 0, (t.run l p).2.2 + (rd_T87 ls (t.run l p).1).f1))
 else .error (t.run l p).2.1
def PP (s : Except Int (Int × Int)) (r : Int × Int × Int × Bool) : Prop := match s with
 | .error e => e ≠ 0 ∧ r.2.1 = e
 | .ok v => r = (v.1, 0, v.2, true)
def Tr06.lt (n : Nat) : Tr06 → Bool
 | .leaf i => decide (i < n)
 | .bad => true
 | .node a b => a.lt n && b.lt n
theorem Tr06.run_lt (l : List Int) (n : Nat) : ∀ (t : Tr06) (p : Int), t.lt n = true → (t.run l p).2.1 = 0 → 0 ≤ (t.run l p).1 ∧ (t.run l p).1 < (n : Int) := by
 intro t
 induction t with
 | leaf i => intro p h _; simp only [Tr06.lt, decide_eq_true_iff] at h; simp only [Tr06.run]; omega
 | bad => intro p h e; simp [Tr06.run] at e
 | node a b iha ihb =>
  intro p h e
  simp only [Tr06.lt, Bool.and_eq_true] at h
  simp only [Tr06.run] at e ⊢
  split
  ·rename_i c; rw [if_pos c] at e; simp at e
  ·rename_i c
   rw [if_neg c] at e
   split
   ·rename_i d; rw [if_pos d] at e; exact iha _ h.1 e
   ·rename_i d; rw [if_neg d] at e; exact ihb _ h.2 e
theorem num06_ok {ls : List S87} {cs : List (List Int)} (hg : good06 ls cs = true) {t : Tr06} (ht : t.lt ls.length = true) {l : List Int} (hl : Byt06 l) {p : Int} (h0 : 0 ≤ p) (h1 : p ≤ en l) {v : Int × Int} (h : num06 ls t l p = .ok v) :
  0 ≤ v.1 ∧ v.1 < 1000 + 2000000 ∧ p ≤ v.2 ∧ v.2 ≤ en l := by
 unfold num06 at h
 split at h
 ·rename_i e
  obtain ⟨i0, i1⟩ := Tr06.run_lt l ls.length t p ht e
  obtain ⟨p0, p1⟩ := Tr06.run_place l t p h0 h1
  obtain ⟨g0, g1, g2, g3, g4, g5⟩ := good_line hg i0 i1
  split at h
  ·cases h
  ·rename_i c
   injection h with h
   subst h
   obtain ⟨b0, b1⟩ := valN_bound hl (rd_T87 ls (t.run l p).1).f1.toNat (t.run l p).2.2 0 (by omega) (by omega) (by omega)
   have jl : (2 : Int) ^ (rd_T87 ls (t.run l p).1).f1.toNat ≤ 2 ^ 20 := by
    have := Nat.pow_le_pow_right (n := 2) (by omega) (show (rd_T87 ls (t.run l p).1).f1.toNat ≤ 20 by omega)
    exact_mod_cast this
   have jl' : (2 : Int) ^ 20 = 1048576 := by decide
   refine ⟨?_, ?_, ?_, ?_⟩ <;> simp only <;> omega
 ·cases h
theorem number_is {l : List Int} (hl : Byt06 l) {ls : List S87} {cs : List (List Int)} (hg : good06 ls cs = true) {t : Tr06} (ht : t.lt ls.length = true) {L : List ByteArray} (hw : wok L ⟨#[]⟩ t = true) {p : Int} (h0 : 0 ≤ p) (h1 : p ≤ en l) :
  EvP (fun k => runs_reader_number.f k l p true ls L) (PP (num06 ls t l p)) := by
 unfold runs_reader_number.f
 refine EvP.bind (Q := (· = ((t.run l p).1, (t.run l p).2.1, (t.run l p).2.2, true))) (word_run hl L t ⟨#[]⟩ p hw h0 h1) ?_
 rintro _ rfl
 unfold num06
 by_cases e : (t.run l p).2.1 = 0
 ·obtain ⟨i0, i1⟩ := Tr06.run_lt l ls.length t p ht e
  obtain ⟨p0, p1⟩ := Tr06.run_place l t p h0 h1
  obtain ⟨g0, g1, g2, g3, g4, g5⟩ := good_line hg i0 i1
  have nb := fun v => num06_ok hg ht hl h0 h1 (v := v)
  unfold num06 at nb
  rw [if_pos e] at nb ⊢
  refine EvP.pos e (EvP.pos i0 (EvP.pos i1 ?_))
  refine EvP.bind (Bits_is hl (n := (rd_T87 ls (t.run l p).1).f1) (p := (t.run l p).2.2) g2 (by omega) (by omega) p1) ?_
  rintro _ rfl
  by_cases c : en l - (t.run l p).2.2 < (rd_T87 ls (t.run l p).1).f1
  ·rw [if_pos c, if_pos c]
   exact EvP.ret ⟨by omega, rfl⟩
  ·rw [if_neg c] at nb
   obtain ⟨b0, b1, _, _⟩ := nb _ rfl
   rw [if_neg c, if_neg c]
   refine EvP.ret ?_
   show _ = _
   simp only at b0 b1 ⊢
   rw [w64 (by omega) (by omega), Int.add_comm]
 ·rw [if_neg e]
  exact EvP.neg e (EvP.ret ⟨e, rfl⟩)
def run06 (l : List Int) (p c : Int) : Except Int (Int × Int) := match num06 tU.1 trU l p with
 | .error e => .error e
 | .ok n => match num06 (if c = 0 then tC0.1 else tC1.1) (if c = 0 then trC0 else trC1) l n.2 with
  | .error e => .error e
  | .ok m => if m.1 ≥ 64 then .error 3 else .ok (n.1 * 64 + m.1, m.2)
theorem numC_ok {l : List Int} (hl : Byt06 l) {c p : Int} (h0 : 0 ≤ p) (h1 : p ≤ en l) {v : Int × Int} (h : num06 (if c = 0 then tC0.1 else tC1.1) (if c = 0 then trC0 else trC1) l p = .ok v) : 0 ≤ v.1 ∧ v.1 < 1000 + 2000000 ∧ p ≤ v.2 ∧ v.2 ≤ en l := by
 by_cases c0 : c = 0
 ·simp only [if_pos c0] at h
  exact num06_ok goodC0 (by decide) hl h0 h1 h
 ·simp only [if_neg c0] at h
  exact num06_ok goodC1 (by decide) hl h0 h1 h
theorem run06_ok {l : List Int} (hl : Byt06 l) {c p : Int} (h0 : 0 ≤ p) (h1 : p ≤ en l) {v : Int × Int} (h : run06 l p c = .ok v) : 0 ≤ v.1 ∧ v.1 < 200000000 ∧ p ≤ v.2 ∧ v.2 ≤ en l := by
 unfold run06 at h
 cases e1 : num06 tU.1 trU l p with
 | error e => rw [e1] at h; cases h
 | ok n =>
  rw [e1] at h
  obtain ⟨a, b, c', d⟩ := num06_ok goodU (by decide) hl h0 h1 e1
  simp only at h
  cases e2 : num06 (if c = 0 then tC0.1 else tC1.1) (if c = 0 then trC0 else trC1) l n.2 with
  | error e => rw [e2] at h; cases h
  | ok m =>
   rw [e2] at h
   obtain ⟨a', b', c'', d'⟩ := numC_ok hl (by omega) d e2
   simp only at h
   split at h
   ·cases h
   ·injection h with h
    subst h
    refine ⟨?_, ?_, ?_, ?_⟩ <;> simp only <;> omega
theorem run_is {l : List Int} (hl : Byt06 l) {c p : Int} (hc : c = 0 ∨ c = 1) (h0 : 0 ≤ p) (h1 : p ≤ en l) : EvP (fun k => runs_reader_run.f k l p true c) (PP (run06 l p c)) := by
 unfold runs_reader_run.f runs_reader_runG.f run06
 refine EvP.pos hc ?_
 refine EvP.bind (number_is hl goodU (t := trU) (by decide) wokU h0 h1) ?_
 intro r hr
 cases e1 : num06 tU.1 trU l p with
 | error e =>
  rw [e1] at hr
  obtain ⟨hr1, hr2⟩ := hr
  exact EvP.neg (by rw [hr2]; exact hr1) (EvP.ret ⟨hr1, hr2⟩)
 | ok n =>
  rw [e1] at hr
  have hr : r = (n.1, 0, n.2, true) := hr
  subst hr
  obtain ⟨a, b, c', d⟩ := num06_ok goodU (by decide) hl h0 h1 e1
  refine EvP.pos rfl ?_
  have hm : EvP (fun k => runs_reader_number.f k l n.2 true (if c = 0 then tC0.1 else tC1.1) (if c = 0 then tC0.2 else tC1.2)) (PP (num06 (if c = 0 then tC0.1 else tC1.1) (if c = 0 then trC0 else trC1) l n.2)) := by
   by_cases c0 : c = 0
   ·simp only [if_pos c0]
    exact number_is hl goodC0 (t := trC0) (by decide) wokC0 (by omega) d
   ·simp only [if_neg c0]
    exact number_is hl goodC1 (t := trC1) (by decide) wokC1 (by omega) d
  refine EvP.bind hm ?_
  intro r hr
  simp only
  cases e2 : num06 (if c = 0 then tC0.1 else tC1.1) (if c = 0 then trC0 else trC1) l n.2 with
  | error e =>
   rw [e2] at hr
   obtain ⟨hr1, hr2⟩ := hr
   exact EvP.neg (by rw [hr2]; exact hr1) (EvP.ret ⟨hr1, hr2⟩)
  | ok m =>
   rw [e2] at hr
   have hr : r = (m.1, 0, m.2, true) := hr
   subst hr
   obtain ⟨a', b', c'', d'⟩ := numC_ok hl (by omega) d e2
   refine EvP.pos rfl ?_
   simp only
   refine EvP.ite (fun q => EvP.ret ?_) (fun q => EvP.ret ?_)
   ·rw [if_pos q]
    exact ⟨by omega, rfl⟩
   ·rw [if_neg q]
    show _ = _
    rw [w64 (x := n.1 * 64) (by omega) (by omega), w64 (by omega) (by omega)]
theorem rep06 : (List.range 201).all (fun n => decide (slices_Repeat_byte_byte.f 20 [0] (n : Int) = some (List.replicate n 0)) && decide (slices_Repeat_byte_byte.f 20 [1] (n : Int) = some (List.replicate n 1))) = true := by decide +kernel
theorem rep_is {v n : Int} (h0 : 0 ≤ n) (h1 : n ≤ 200) (hv : v = 0 ∨ v = 1) : EvP (fun k => slices_Repeat_byte_byte.f k [v] n) (· = List.replicate n.toNat v) := by
 have g := List.all_eq_true.mp rep06 n.toNat (List.mem_range.mpr (by omega))
 rw [Bool.and_eq_true, decide_eq_true_iff, decide_eq_true_iff, show ((n.toNat : Nat) : Int) = n by omega] at g
 rcases hv with rfl | rfl
 ·exact EvP.of (slices_Repeat_byte_byte.mono _ _) g.1
 ·exact EvP.of (slices_Repeat_byte_byte.mono _ _) g.2
def PO (s : Except Int (List Int × Int)) (r : List Int × Int × Int × Bool) : Prop := match s with
 | .error e => e ≠ 0 ∧ r.2.1 = e
 | .ok v => r = (v.1, 0, v.2, true)
def Row06 (l : List Int) (w p : Int) (v : List Int × Int) : Prop := (v.1.length : Int) = w ∧ (∀ x ∈ v.1, x = 0 ∨ x = 1) ∧ p ≤ v.2 ∧ v.2 ≤ en l
theorem begins_is {l : List Int} (hl : Byt06 l) (c pre : List Int) {at_ : Int} (h0 : 0 ≤ at_) (h1 : at_ + pre.length ≤ en l) (hc : ∀ b ∈ c, b = 0 ∨ b = 1) (hp : ∀ j : Int, 0 ≤ j → j < (pre.length : Int) → bitI l (at_ + j) = rd pre j) :
  EvP (fun k => incunableref04_begins.f k c l at_ (pre.length : Int)) (· = decide (pre.length ≤ c.length ∧ c.take pre.length = pre)) := by
 have h2 := hl.2
 unfold en at h1
 unfold incunableref04_begins.f
 refine EvP.ite (fun q => EvP.ret ?_) (fun q => ?_)
 ·symm; simp only [decide_eq_false_iff_not]; omega
 ·refine EvP.up (L := fun k i (_ : Unit) => incunableref04_begins.l0 k c l at_ (pre.length : Int) i) (fun i _ => 0 ≤ i ∧ ∀ j : Int, 0 ≤ j → j < i → rd c j = rd pre j) (pre.length : Int) ?_ 0 () (by omega) ⟨by omega, fun j a b => by omega⟩
  rintro i _ ⟨i0, hi⟩ hn ih
  refine EvP.step (fun k => by rw [incunableref04_begins.l0]) ?_
  refine EvP.ite (fun i1 => ?_) (fun i1 => EvP.ret ?_)
  ·rw [w64 (x := at_ + i) (by omega) (by omega)]
   refine EvP.bindv (BitAt_is hl (by omega) (by unfold en; omega)) (EvP.pos i0 (EvP.pos (by omega) ?_))
   have hcm := hc _ (rd_mem i0 (show i < (c.length : Int) by omega))
   rw [w64 (x := rd c i) (by omega) (by omega)]
   refine EvP.ite (fun e => ?_) (fun e => EvP.ret ?_)
   ·rw [w64 (x := i + 1) (by omega) (by omega)]
    refine ih () i1 ⟨by omega, fun j a b => ?_⟩
    by_cases z : j = i
    ·rw [z, e]; exact hp i i0 i1
    ·exact hi j a (by omega)
   ·symm; simp only [decide_eq_false_iff_not]
    rintro ⟨_, e2⟩
    apply e
    show rd c i = bitI l (at_ + i)
    rw [hp i i0 i1, ← e2]
    unfold rd
    simp only [List.getD_eq_getElem?_getD]
    rw [List.getElem?_take_of_lt (by omega)]
  ·symm; simp only [decide_eq_true_iff]
   refine ⟨by omega, rd_ext (by simp; omega) (fun j a b => ?_)⟩
   have hb : j < (pre.length : Int) := by simp at b; omega
   rw [← hi j a (by omega)]
   unfold rd
   simp only [List.getD_eq_getElem?_getD]
   rw [List.getElem?_take_of_lt (by omega)]
theorem inner_is {l : List Int} (hl : Byt06 l) {f0 f1 f2 p : Int} (n0 : 0 ≤ f1) (n1 : f1 ≤ 20) (m0 : 0 ≤ f2) (m1 : f2 ≤ 1000) (p0 : 0 ≤ p) (p1 : p ≤ en l) :
  EvP (fun k => incunableref04_inner.f k f0 f1 f2 0 l p) (· = if en l - p < f1 then (false, 0, 0, 6) else (false, f2 + valN l p f1.toNat 0, p + f1, 0)) := by
 have h2 := hl.2
 unfold incunableref04_inner.f
 have key : ∀ (m : Nat) (j a : Int), 0 ≤ j → j + m = f1 → 0 ≤ a → a < 2 ^ j.toNat → p + j ≤ en l →
   EvP (fun k => incunableref04_inner.l0 k l p a j f0 f1 f2 0) (· = if en l - p < f1 then (false, 0, 0, 6) else (false, f2 + valN l (p + j) m a, p + f1, 0)) := by
  intro m
  induction m with
  | zero =>
   intro j a j0 hj a0 a1 pj
   have jl : (2 : Int) ^ j.toNat ≤ 2 ^ 20 := by
    have := Nat.pow_le_pow_right (n := 2) (by omega) (show j.toNat ≤ 20 by omega)
    exact_mod_cast this
   have jl' : (2 : Int) ^ 20 = 1048576 := by decide
   unfold en at pj p1 ⊢
   refine EvP.step (fun k => by rw [incunableref04_inner.l0]) (EvP.neg (by omega) (EvP.neg (by omega) (EvP.neg (by omega) (EvP.ret ?_))))
   rw [if_neg (by omega), w64 (by omega) (by omega), w64 (by omega) (by omega), valN]
  | succ m ih =>
   intro j a j0 hj a0 a1 pj
   have jl : (2 : Int) ^ j.toNat ≤ 2 ^ 20 := by
    have := Nat.pow_le_pow_right (n := 2) (by omega) (show j.toNat ≤ 20 by omega)
    exact_mod_cast this
   have jl' : (2 : Int) ^ 20 = 1048576 := by decide
   refine EvP.step (fun k => by rw [incunableref04_inner.l0]) (EvP.pos (by omega) ?_)
   have pj' := pj
   unfold en at pj' p1
   rw [w64 (x := p + j) (by omega) (by omega)]
   by_cases c : p + j < en l
   ·obtain ⟨s0, s1, s2, s3⟩ := bit_at hl (i := p + j) (by omega) c
    refine EvP.bindv (BitAt_is hl (by omega) c) (EvP.pos rfl ?_)
    rw [w64 (x := 2 * a) (by omega) (by omega)]
    dsimp only
    rw [w64 (x := 2 * a + bitI l (p + j)) (by omega) (by omega), w64 (x := j + 1) (by omega) (by omega)]
    have e : (2 : Int) ^ (j + 1).toNat = 2 * 2 ^ j.toNat := by rw [show (j + 1).toNat = j.toNat + 1 by omega, Int.pow_succ]; omega
    refine (ih (j + 1) (2 * a + bitI l (p + j)) (by omega) (by omega) (by omega) (by rw [e]; omega) (by omega)).mono ?_
    rintro r rfl
    rw [valN, show p + (j + 1) = p + j + 1 by omega]
   ·refine EvP.bindv (BitAt_end hl (by omega)) (EvP.neg (by simp) (EvP.ret ?_))
    rw [if_pos (by omega)]
 have := key f1.toNat 0 0 (by omega) (by omega) (by omega) (by decide) (by omega)
 rw [Int.add_zero] at this
 exact this
theorem l1_is {l : List Int} (hl : Byt06 l) {ls : List S87} {cs : List (List Int)} (hg : good06 ls cs = true) (hlen : cs.length ≤ 100) {pre : List Int} {at_ : Int} (h0 : 0 ≤ at_) (h1 : at_ + pre.length ≤ en l) (hn : pre.length ≤ 16)
  (hp : ∀ j : Int, 0 ≤ j → j < (pre.length : Int) → bitI l (at_ + j) = rd pre j) {P : Bool × Int × Int × Int → Prop} :
  ∀ (m : Nat) (i : Nat) (s : Bool), i + m = cs.length →
   (∀ j : Nat, scan06 pre (cs.drop i) i s = .inl j → j < cs.length → EvP (fun k => (incunableref04_inner.f k (rd_T87 ls j).f0 (rd_T87 ls j).f1 (rd_T87 ls j).f2 (rd_T87 ls j).f3 l (at_ + pre.length)).bind fun bt479 => some (bt479.1, bt479.2.1, bt479.2.2.1, bt479.2.2.2)) P) →
   (scan06 pre (cs.drop i) i s = .inr true → EvP (fun k => incunableref04_Take.l0 k ls l at_ cs ((pre.length : Int) + 1)) P) →
   (scan06 pre (cs.drop i) i s = .inr false → P (false, 0, 0, 3)) →
   EvP (fun k => incunableref04_Take.l1 k ls l at_ cs (pre.length : Int) s cs (cs.length : Int) (i : Int)) P := by
 have h2 := hl.2
 have hg' := hg
 simp only [good06, Bool.and_eq_true, List.all_eq_true, decide_eq_true_iff, Bool.or_eq_true] at hg'
 obtain ⟨⟨hll, _⟩, hcc⟩ := hg'
 intro m
 induction m with
 | zero =>
  intro i s hi kl kt kf
  have hd : cs.drop i = [] := List.drop_eq_nil_of_le (by omega)
  rw [hd] at kl kt kf
  refine EvP.step (fun k => by rw [incunableref04_Take.l1]) (EvP.neg (by omega) ?_)
  refine EvP.ite (fun e => ?_) (fun e => EvP.ret (kf (by simp only [scan06]; rw [Bool.eq_false_iff.mpr e])))
  rw [w64 (x := (pre.length : Int) + 1) (by omega) (by omega)]
  exact kt (by simp only [scan06]; rw [e])
 | succ m ih =>
  intro i s hi kl kt kf
  have hlt : i < cs.length := by omega
  have hd : cs.drop i = cs[i] :: cs.drop (i + 1) := List.drop_eq_getElem_cons hlt
  have hr : rd_L8 cs (i : Int) = cs[i] := by unfold rd_L8; simp [List.getD_eq_getElem?_getD, hlt]
  obtain ⟨g0, g1, g2, g3, g4, g5⟩ := good_line hg (i := (i : Int)) (by omega) (by omega)
  refine EvP.step (fun k => by rw [incunableref04_Take.l1]) (EvP.pos (by omega) (EvP.pos (by omega) (EvP.pos (by omega) (EvP.pos (by omega) ?_))))
  refine EvP.bindv (a := true) (by unfold incunableref04_used.f; simp only [decide_eq_true g0]) (EvP.pos rfl ?_)
  rw [hr]
  refine EvP.bind (begins_is hl cs[i] pre h0 h1 (hcc _ (List.getElem_mem _)) hp) ?_
  rintro _ rfl
  rw [show ((i : Int) + 1) = ((i + 1 : Nat) : Int) by omega]
  rw [w64 (x := ((i + 1 : Nat) : Int)) (by omega) (by omega)]
  by_cases b : pre.length ≤ cs[i].length ∧ cs[i].take pre.length = pre
  ·rw [decide_eq_true b]
   refine EvP.pos rfl ?_
   by_cases e : cs[i].length = pre.length
   ·refine EvP.pos (by omega) ?_
    rw [w64 (x := at_ + (pre.length : Int)) (by omega) (by unfold en at h1; omega)]
    exact kl i (by rw [hd, scan06, if_pos b, if_pos e]) hlt
   ·refine EvP.neg (by omega) ?_
    have hs : scan06 pre (cs.drop i) i s = scan06 pre (cs.drop (i + 1)) (i + 1) true := by rw [hd, scan06, if_pos b, if_neg e]
    rw [hs] at kl kt kf
    exact ih (i + 1) true (by omega) kl kt kf
  ·rw [decide_eq_false b]
   refine EvP.neg (by simp) ?_
   have hs : scan06 pre (cs.drop i) i s = scan06 pre (cs.drop (i + 1)) (i + 1) s := by rw [hd, scan06, if_neg b]
   rw [hs] at kl kt kf
   exact ih (i + 1) s (by omega) kl kt kf
def TPost (l : List Int) (ls : List S87) (r : Int × Int × Int) (P : Bool × Int × Int × Int → Prop) : Prop :=
 if r.2.1 = 0 then EvP (fun k => (incunableref04_inner.f k (rd_T87 ls r.1).f0 (rd_T87 ls r.1).f1 (rd_T87 ls r.1).f2 (rd_T87 ls r.1).f3 l r.2.2).bind fun bt479 => some (bt479.1, bt479.2.1, bt479.2.2.1, bt479.2.2.2)) P else P (false, 0, 0, r.2.1)
theorem TPost.err {l : List Int} {ls : List S87} {r : Int × Int × Int} {P : Bool × Int × Int × Int → Prop} (h : r.2.1 ≠ 0) (hP : TPost l ls r P) : P (false, 0, 0, r.2.1) := by
 unfold TPost at hP
 rwa [if_neg h] at hP
theorem TPost.ok {l : List Int} {ls : List S87} {r : Int × Int × Int} {P : Bool × Int × Int × Int → Prop} (h : r.2.1 = 0) (hP : TPost l ls r P) : EvP (fun k => (incunableref04_inner.f k (rd_T87 ls r.1).f0 (rd_T87 ls r.1).f1 (rd_T87 ls r.1).f2 (rd_T87 ls r.1).f3 l r.2.2).bind fun bt479 => some (bt479.1, bt479.2.1, bt479.2.2.1, bt479.2.2.2)) P := by
 unfold TPost at hP
 rwa [if_pos h] at hP
theorem take_node {l : List Int} (hl : Byt06 l) {ls : List S87} {cs : List (List Int)} (hg : good06 ls cs = true) (hlen : cs.length ≤ 100) {P : Bool × Int × Int × Int → Prop} :
  ∀ (t : Tr06) (pre : List Int) (at_ : Int), tok cs pre t = true → 0 ≤ at_ → at_ + pre.length ≤ en l → pre.length ≤ 16 → (∀ j : Int, 0 ≤ j → j < (pre.length : Int) → bitI l (at_ + j) = rd pre j) → TPost l ls (t.run l (at_ + pre.length)) P →
   (match t with | .node _ _ => EvP (fun k => incunableref04_Take.l0 k ls l at_ cs ((pre.length : Int) + 1)) P | _ => True) ∧ (pre ≠ [] → EvP (fun k => incunableref04_Take.l1 k ls l at_ cs (pre.length : Int) false cs (cs.length : Int) 0) P) := by
 have h2 := hl.2
 intro t
 induction t with
 | leaf i =>
  intro pre at_ ht h0 h1 hn hp hP
  refine ⟨trivial, fun _ => ?_⟩
  have hs := isL_eq ht
  have hP := TPost.ok rfl hP
  refine l1_is hl hg hlen h0 h1 hn hp cs.length 0 false (by omega) ?_ ?_ ?_
  ·intro j hj _
   rw [List.drop_zero, hs] at hj
   cases hj
   exact hP
  ·intro hj; rw [List.drop_zero, hs] at hj; cases hj
  ·intro hj; rw [List.drop_zero, hs] at hj; cases hj
 | bad =>
  intro pre at_ ht h0 h1 hn hp hP
  refine ⟨trivial, fun _ => ?_⟩
  have hs := isR_eq ht
  have hP := TPost.err (by simp [Tr06.run]) hP
  refine l1_is hl hg hlen h0 h1 hn hp cs.length 0 false (by omega) ?_ ?_ ?_
  ·intro j hj _; rw [List.drop_zero, hs] at hj; cases hj
  ·intro hj; rw [List.drop_zero, hs] at hj; cases hj
  ·intro _; exact hP
 | node a b iha ihb =>
  intro pre at_ ht h0 h1 hn hp hP
  simp only [tok, Bool.and_eq_true, decide_eq_true_iff, Bool.or_eq_true] at ht
  obtain ⟨⟨⟨t1, t2⟩, t3⟩, t4⟩ := ht
  have go : EvP (fun k => incunableref04_Take.l0 k ls l at_ cs ((pre.length : Int) + 1)) P := by
   have h1' := h1
   unfold en at h1'
   refine EvP.step (fun k => by rw [incunableref04_Take.l0]) (EvP.pos (by omega) ?_)
   rw [w64 (x := at_ + ((pre.length : Int) + 1)) (by omega) (by omega), w64 (x := at_ + ((pre.length : Int) + 1) - 1) (by omega) (by omega), show at_ + ((pre.length : Int) + 1) - 1 = at_ + pre.length by omega]
   simp only [Tr06.run] at hP
   by_cases c : en l ≤ at_ + pre.length
   ·rw [if_pos c] at hP
    have hP := TPost.err (by simp) hP
    exact EvP.bindv (BitAt_end hl c) (EvP.neg (by simp) (EvP.ret hP))
   ·rw [if_neg c] at hP
    refine EvP.bindv (BitAt_is hl (by omega) (by omega)) (EvP.pos rfl ?_)
    have hpp : ∀ v : Int, bitI l (at_ + pre.length) = v → ∀ j : Int, 0 ≤ j → j < ((pre ++ [v]).length : Int) → bitI l (at_ + j) = rd (pre ++ [v]) j := by
     intro v hv j a b
     rw [rd_append pre v j a]
     split
     ·rename_i z; rw [z]; exact hv
     ·rename_i z; simp at b; exact hp j a (by omega)
    have hll : ∀ v : Int, ((pre ++ [v]).length : Int) = (pre.length : Int) + 1 := by intro v; simp
    obtain ⟨s0, s1, s2, s3⟩ := bit_at hl (i := at_ + pre.length) (by omega) (by omega)
    rcases s3 with s3 | s3
    ·rw [if_pos s3] at hP
     have := (iha (pre ++ [0]) at_ t3 h0 (by rw [hll]; omega) (by simp; omega) (hpp 0 s3) (by rw [hll, show at_ + ((pre.length : Int) + 1) = at_ + pre.length + 1 by omega]; exact hP)).2 (by simp)
     rw [hll] at this
     exact this
    ·rw [if_neg (by omega)] at hP
     have := (ihb (pre ++ [1]) at_ t4 h0 (by rw [hll]; omega) (by simp; omega) (hpp 1 s3) (by rw [hll, show at_ + ((pre.length : Int) + 1) = at_ + pre.length + 1 by omega]; exact hP)).2 (by simp)
     rw [hll] at this
     exact this
  refine ⟨go, fun hne => ?_⟩
  have hs := isR_eq (t1.resolve_left (by simpa using hne))
  refine l1_is hl hg hlen h0 h1 hn hp cs.length 0 false (by omega) ?_ ?_ ?_
  ·intro j hj _; rw [List.drop_zero, hs] at hj; cases hj
  ·intro _; exact go
  ·intro hj; rw [List.drop_zero, hs] at hj; cases hj
def RP (s : Except Int (Int × Int)) (r : Bool × Int × Int × Int) : Prop := match s with
 | .error e => e ≠ 0 ∧ r = (false, 0, 0, e)
 | .ok v => r = (false, v.1, v.2, 0)
theorem take_is {l : List Int} (hl : Byt06 l) {ls : List S87} {cs : List (List Int)} (hg : good06 ls cs = true) (hlen : cs.length ≤ 100) (hcs : incunableref04_Codes.f 200 ls = some cs) {a b : Tr06} (ht : (Tr06.node a b).lt ls.length = true) (hk : tok cs [] (.node a b) = true) {p : Int} (h0 : 0 ≤ p) (h1 : p ≤ en l) :
  EvP (fun k => incunableref04_Take.f k ls l p) (RP (num06 ls (.node a b) l p)) := by
 unfold incunableref04_Take.f
 refine EvP.bind (EvP.of (fun k => incunableref04_Codes.mono ls k) hcs) ?_
 rintro _ rfl
 refine (take_node hl hg hlen (.node a b) [] p hk h0 (by simpa using h1) (by simp) (fun j a b => by simp at b; omega) ?_).1
 rw [show p + (([] : List Int).length : Int) = p by simp]
 unfold TPost num06
 by_cases e : ((Tr06.node a b).run l p).2.1 = 0
 ·rw [if_pos e, if_pos e]
  obtain ⟨i0, i1⟩ := Tr06.run_lt l ls.length _ p ht e
  obtain ⟨p0, p1⟩ := Tr06.run_place l (.node a b) p h0 h1
  obtain ⟨g0, g1, g2, g3, g4, g5⟩ := good_line hg i0 i1
  rw [g1]
  refine EvP.bind (inner_is hl g2 g3 g4 g5 (by omega) p1) ?_
  rintro _ rfl
  refine EvP.ret ?_
  by_cases c : en l - ((Tr06.node a b).run l p).2.2 < (rd_T87 ls ((Tr06.node a b).run l p).1).f1
  ·rw [if_pos c, if_pos c]; exact ⟨by omega, rfl⟩
  ·rw [if_neg c, if_neg c]; rfl
 ·rw [if_neg e, if_neg e]
  exact ⟨e, rfl⟩
theorem csU_is : incunableref04_Codes.f 200 tU.1 = some csU := by decide +kernel
theorem csC0_is : incunableref04_Codes.f 200 tC0.1 = some csC0 := by decide +kernel
theorem csC1_is : incunableref04_Codes.f 200 tC1.1 = some csC1 := by decide +kernel
theorem tokU : tok csU [] trU = true := by decide +kernel
theorem tokC0 : tok csC0 [] trC0 = true := by decide +kernel
theorem tokC1 : tok csC1 [] trC1 = true := by decide +kernel
def RR (s : Except Int (Int × Int)) (r : Int × Int × Int) : Prop := match s with
 | .error e => e ≠ 0 ∧ r.2.2 = e
 | .ok v => r = (v.1, v.2, 0)
theorem refRun_is {l : List Int} (hl : Byt06 l) {c p : Int} (hc : c = 0 ∨ c = 1) (h0 : 0 ≤ p) (h1 : p ≤ en l) : EvP (fun k => incunableref06_run.f k l p c) (RR (run06 l p c)) := by
 unfold incunableref06_run.f run06
 refine EvP.bindv (a := tU.1) rfl ?_
 refine EvP.bind (take_is hl goodU (by decide) csU_is (by decide) tokU h0 h1) ?_
 intro r hr
 rw [show Tr06.node (.leaf 0) (.node (.leaf 1) (.node (.leaf 2) (.node (.leaf 3) (.node (.leaf 4) (.leaf 5))))) = trU from rfl] at hr
 cases e1 : num06 tU.1 trU l p with
 | error e =>
  rw [e1] at hr
  obtain ⟨hr1, rfl⟩ := hr
  exact EvP.neg hr1 (EvP.ret ⟨hr1, rfl⟩)
 | ok n =>
  rw [e1] at hr
  have hr : r = (false, n.1, n.2, 0) := hr
  subst hr
  obtain ⟨a, b, c', d⟩ := num06_ok goodU (by decide) hl h0 h1 e1
  refine EvP.pos rfl ?_
  refine EvP.bindv (a := if c = 0 then tC0.1 else tC1.1) (by rcases hc with rfl | rfl <;> rfl) ?_
  have hm : EvP (fun k => incunableref04_Take.f k (if c = 0 then tC0.1 else tC1.1) l n.2) (RP (num06 (if c = 0 then tC0.1 else tC1.1) (if c = 0 then trC0 else trC1) l n.2)) := by
   by_cases c0 : c = 0
   ·simp only [if_pos c0]
    exact take_is hl goodC0 (by decide) csC0_is (by decide) tokC0 (by omega) d
   ·simp only [if_neg c0]
    exact take_is hl goodC1 (by decide) csC1_is (by decide) tokC1 (by omega) d
  refine EvP.bind hm ?_
  intro r hr
  simp only
  cases e2 : num06 (if c = 0 then tC0.1 else tC1.1) (if c = 0 then trC0 else trC1) l n.2 with
  | error e =>
   rw [e2] at hr
   obtain ⟨hr1, rfl⟩ := hr
   exact EvP.neg hr1 (EvP.ret ⟨hr1, rfl⟩)
  | ok m =>
   rw [e2] at hr
   have hr : r = (false, m.1, m.2, 0) := hr
   subst hr
   obtain ⟨a', b', c'', d'⟩ := numC_ok hl (by omega) d e2
   refine EvP.pos rfl ?_
   simp only
   by_cases q : m.1 ≥ 64
   ·rw [if_pos q]
    exact EvP.pos (by omega) (EvP.ret ⟨by omega, rfl⟩)
   ·rw [if_neg q]
    refine EvP.neg (by omega) (EvP.ret ?_)
    show _ = _
    rw [w64 (x := 64 * n.1) (by omega) (by omega), w64 (by omega) (by omega), Int.mul_comm 64 n.1]
theorem paint_is {row : List Int} {n c : Int} (n0 : 0 ≤ n) (n1 : (row.length : Int) + n ≤ 10000) (hc : c = 0 ∨ c = 1) : EvP (fun k => incunableref06_paint.f k row ((row.length : Int) + n) c) (· = row ++ List.replicate n.toNat c) := by
 unfold incunableref06_paint.f
 refine EvP.bindv (a := ([] : List Int)) rfl (EvP.pos (by simp; omega) ?_)
 rw [List.nil_append]
 have key : ∀ (m : Nat) (x : List Int), (x.length : Int) + m = (row.length : Int) + n → EvP (fun k => incunableref06_paint.l0 k ((row.length : Int) + n) c x) (· = x ++ List.replicate m c) := by
  intro m
  induction m with
  | zero => intro x hx; refine EvP.step (fun k => by rw [incunableref06_paint.l0]) (EvP.neg (by omega) (EvP.ret (by simp)))
  | succ m ih =>
   intro x hx
   refine EvP.step (fun k => by rw [incunableref06_paint.l0]) (EvP.pos (by omega) (EvP.pos (by omega) ?_))
   rw [show c % 256 = c by omega]
   refine (ih (x ++ [c]) (by simp; omega)).mono ?_
   rintro _ rfl
   rw [List.append_assoc, List.replicate_succ]; rfl
 have := key n.toNat row (by omega)
 exact this
def RO (s : Except Int (List Int × Int)) (r : List Int × Int × Int) : Prop := match s with
 | .error e => e ≠ 0 ∧ r.2.2 = e
 | .ok v => r = (v.1, v.2, 0)
def trW : Tr06 := .node (.node (.node (.node (.node (.node (.bad) (.node (.leaf 2) (.leaf 8))) (.node (.leaf 3) (.leaf 7))) (.leaf 0)) (.leaf 1)) (.node (.leaf 4) (.leaf 6))) (.leaf 5)
theorem wokW : wok tW ⟨#[]⟩ trW = true := by decide +kernel
def kindW (i : Int) : ByteArray := if i = 0 then ⟨#[112, 97, 115, 115]⟩ else if i = 1 then ⟨#[102, 108, 97, 116]⟩ else ⟨#[117, 112]⟩
def RT (r : Int × Int × Int) (q : ByteArray × Int × Int × Int) : Prop := if r.2.1 = 0 then q = (kindW r.1, if r.1 < 2 then 0 else r.1 - 5, r.2.2, 0) else q = (⟨#[]⟩, 0, 0, r.2.1)
theorem RT.err {r : Int × Int × Int} {q : ByteArray × Int × Int × Int} (h : r.2.1 ≠ 0) (e : q = (⟨#[]⟩, 0, 0, r.2.1)) : RT r q := by
 unfold RT
 rw [if_neg h]
 exact e
section
variable {l : List Int} {p : Int} {y : List Int} {s : ByteArray} {b : Bool} {P : ByteArray × Int × Int × Int → Prop}
abbrev UpE (l : List Int) (p : Int) (y : List Int) (s : ByteArray) (b : Bool) (P : ByteArray × Int × Int × Int → Prop) (d : Int) : Prop := EvP (fun k => incunableref06_take.l1 k l p y s b d) P
theorem upN {d e : Int} {u : ByteArray} (hd : d ≤ 3) (hu : incunableref06_upright.f d = some u) (he : wrap64 (d + 1) = e) (hn : ¬ s.toList = u.toList) (h : UpE l p y s b P e) : UpE l p y s b P d := by
 subst he
 refine EvP.step (fun k => by rw [incunableref06_take.l1]) ?_
 refine EvP.pos hd (EvP.bindv hu ?_)
 exact EvP.neg hn h
theorem uA (hn : ¬ s.toList = (⟨#[48, 48, 48, 48, 48, 49, 48]⟩ : ByteArray).toList) (h : UpE l p y s b P (-2)) : UpE l p y s b P (-3) := upN (by decide) (by unfold incunableref06_upright.f; rfl) (by rw [w64 (by omega) (by omega)]; rfl) hn h
theorem uB (hn : ¬ s.toList = (⟨#[48, 48, 48, 48, 49, 48]⟩ : ByteArray).toList) (h : UpE l p y s b P (-1)) : UpE l p y s b P (-2) := upN (by decide) (by unfold incunableref06_upright.f; rfl) (by rw [w64 (by omega) (by omega)]; rfl) hn h
theorem uC (hn : ¬ s.toList = (⟨#[48, 49, 48]⟩ : ByteArray).toList) (h : UpE l p y s b P 0) : UpE l p y s b P (-1) := upN (by decide) (by unfold incunableref06_upright.f; rfl) (by rw [w64 (by omega) (by omega)]; rfl) hn h
theorem uD (hn : ¬ s.toList = (⟨#[49]⟩ : ByteArray).toList) (h : UpE l p y s b P 1) : UpE l p y s b P 0 := upN (by decide) (by unfold incunableref06_upright.f; rfl) (by rw [w64 (by omega) (by omega)]; rfl) hn h
theorem uE (hn : ¬ s.toList = (⟨#[48, 49, 49]⟩ : ByteArray).toList) (h : UpE l p y s b P 2) : UpE l p y s b P 1 := upN (by decide) (by unfold incunableref06_upright.f; rfl) (by rw [w64 (by omega) (by omega)]; rfl) hn h
theorem uF (hn : ¬ s.toList = (⟨#[48, 48, 48, 48, 49, 49]⟩ : ByteArray).toList) (h : UpE l p y s b P 3) : UpE l p y s b P 2 := upN (by decide) (by unfold incunableref06_upright.f; rfl) (by rw [w64 (by omega) (by omega)]; rfl) hn h
theorem uG (hn : ¬ s.toList = (⟨#[48, 48, 48, 48, 48, 49, 49]⟩ : ByteArray).toList) (h : UpE l p y s b P 4) : UpE l p y s b P 3 := upN (by decide) (by unfold incunableref06_upright.f; rfl) (by rw [w64 (by omega) (by omega)]; rfl) hn h
theorem stJ (h : UpE l p y s b P (-3)) : EvP (fun k => incunableref06_take.j1 k l p y s b) P := EvP.step (fun k => by rw [incunableref06_take.j1]) h
theorem upEnd (h : EvP (fun k => if b = true then incunableref06_take.l0 k l p y else some (⟨#[]⟩, 0, 0, 3)) P) : UpE l p y s b P 4 := by
 refine EvP.step (fun k => by rw [incunableref06_take.l1]) ?_
 exact EvP.neg (by decide) h
end
abbrev tl06 (k : Nat) (l : List Int) (p : Int) (y404 : List Int) : Option (ByteArray × Int × Int × Int) := (if (strOfNums y404).toList = ([48, 48, 48, 49] : List UInt8) then (some ((⟨#[112, 97, 115, 115]⟩ : ByteArray), 0, wrap64 (p + 4), 0)) else (if (strOfNums y404).toList = ([48, 48, 49] : List UInt8) then (some ((⟨#[102, 108, 97, 116]⟩ : ByteArray), 0, wrap64 (p + 3), 0)) else (if (y404.length : Int) < 4 then (if 0 ≤ (y404.length : Int) then (if (y404.length : Int) ≤ 4 then (if (strOfNums y404).toList = ((⟨#[48, 48, 48, 48]⟩ : ByteArray).extract 0 ((y404.length : Int) : Int).toNat).toList then (incunableref06_take.j1 k l p y404 (strOfNums y404) true) else (if (strOfNums y404).toList = ([48, 48, 48, 48] : List UInt8) then (incunableref06_take.j1 k l p y404 (strOfNums y404) true) else (if (strOfNums y404).toList = ([48, 48, 48, 48, 48] : List UInt8) then (incunableref06_take.j1 k l p y404 (strOfNums y404) true) else (if (strOfNums y404).toList = ([48, 48, 48, 48, 48, 49] : List UInt8) then (incunableref06_take.j1 k l p y404 (strOfNums y404) true) else (if (strOfNums y404).toList = ([48, 48, 48, 48, 49] : List UInt8) then (incunableref06_take.j1 k l p y404 (strOfNums y404) true) else (incunableref06_take.j1 k l p y404 (strOfNums y404) ((strOfNums y404).toList == ([48, 49] : List UInt8)))))))) else (none)) else (none)) else (if (strOfNums y404).toList = ([48, 48, 48, 48] : List UInt8) then (incunableref06_take.j1 k l p y404 (strOfNums y404) true) else (if (strOfNums y404).toList = ([48, 48, 48, 48, 48] : List UInt8) then (incunableref06_take.j1 k l p y404 (strOfNums y404) true) else (if (strOfNums y404).toList = ([48, 48, 48, 48, 48, 49] : List UInt8) then (incunableref06_take.j1 k l p y404 (strOfNums y404) true) else (if (strOfNums y404).toList = ([48, 48, 48, 48, 49] : List UInt8) then (incunableref06_take.j1 k l p y404 (strOfNums y404) true) else (incunableref06_take.j1 k l p y404 (strOfNums y404) ((strOfNums y404).toList == ([48, 49] : List UInt8))))))))))
theorem take_round {l : List Int} (hl : Byt06 l) {p : Int} (y : List Int) (ta tb : Tr06) (h0 : 0 ≤ p) (h1 : p + y.length ≤ en l) (hy : y.length ≤ 16)
  (hA : bitI l (p + y.length) = 0 → p + y.length < en l → EvP (fun k => (some (y ++ [48] : List Int)).bind fun y404 => tl06 k l p y404) (RT (ta.run l (p + y.length + 1))))
  (hB : bitI l (p + y.length) = 1 → p + y.length < en l → EvP (fun k => (some (y ++ [49] : List Int)).bind fun y404 => tl06 k l p y404) (RT (tb.run l (p + y.length + 1)))) :
  EvP (fun k => incunableref06_take.l0 k l p y) (RT ((Tr06.node ta tb).run l (p + y.length))) := by
 have h2 := hl.2
 have h1' := h1
 unfold en at h1'
 refine EvP.step (fun k => by rw [incunableref06_take.l0]) ?_
 rw [w64 (x := p + (y.length : Int)) (by omega) (by omega)]
 simp only [Tr06.run]
 by_cases c : en l ≤ p + y.length
 ·rw [if_pos c]
  exact EvP.bindv (BitAt_end hl c) (EvP.neg (by simp) (EvP.ret (RT.err (by simp) rfl)))
 ·rw [if_neg c]
  refine EvP.bindv (BitAt_is hl (by omega) (by omega)) (EvP.pos rfl (EvP.pos (by omega) ?_))
  obtain ⟨s0, s1, s2, s3⟩ := bit_at hl (i := p + y.length) (by omega) (by omega)
  rcases s3 with s3 | s3
  ·rw [if_pos s3]
   dsimp only
   rw [s3, show wrap64 (48 + 0) % 256 = 48 by rw [w64 (by omega) (by omega)]; omega]
   exact hA s3 (by omega)
  ·rw [if_neg (by omega)]
   dsimp only
   rw [s3, show wrap64 (48 + 1) % 256 = 49 by rw [w64 (by omega) (by omega)]; omega]
   exact hB s3 (by omega)
theorem tN_000001 {l : List Int} (hl : Byt06 l) {p : Int} (h0 : 0 ≤ p) (h1 : p + 6 ≤ en l) : EvP (fun k => incunableref06_take.l0 k l p [48, 48, 48, 48, 48, 49]) (RT ((Tr06.node (.leaf 2) (.leaf 8)).run l (p + 6))) := by
 have h2 := hl.2
 have h1' := h1
 unfold en at h1'
 refine take_round hl [48, 48, 48, 48, 48, 49] (.leaf 2) (.leaf 8) h0 (by simpa using h1) (by decide) (fun _ hlt => ?_) (fun _ hlt => ?_)
 ·refine EvP.bindv (a := ([48, 48, 48, 48, 48, 49, 48] : List Int)) rfl ?_
  unfold tl06
  have hlt' := hlt
  simp only [List.length_cons, List.length_nil] at hlt'
  unfold en at hlt'
  rw [show p + (([48, 48, 48, 48, 48, 49] : List Int).length : Int) + 1 = p + 7 by simp <;> omega]
  repeat (first | refine EvP.pos (by decide +kernel) ?_ | refine EvP.neg (by decide +kernel) ?_)
  refine stJ ?_
  refine EvP.step (fun k => by rw [incunableref06_take.l1]) ?_
  refine EvP.pos (by decide +kernel) ?_
  refine EvP.bindv (by unfold incunableref06_upright.f; rfl) ?_
  refine EvP.pos (by decide +kernel) ?_
  rw [w64 (x := p + (([48, 48, 48, 48, 48, 49, 48] : List Int).length : Int)) (by simp; omega) (by simp; omega)]
  exact EvP.ret rfl
 ·refine EvP.bindv (a := ([48, 48, 48, 48, 48, 49, 49] : List Int)) rfl ?_
  unfold tl06
  have hlt' := hlt
  simp only [List.length_cons, List.length_nil] at hlt'
  unfold en at hlt'
  rw [show p + (([48, 48, 48, 48, 48, 49] : List Int).length : Int) + 1 = p + 7 by simp <;> omega]
  repeat (first | refine EvP.pos (by decide +kernel) ?_ | refine EvP.neg (by decide +kernel) ?_)
  refine stJ ?_
  refine uA (by decide +kernel) ?_
  refine uB (by decide +kernel) ?_
  refine uC (by decide +kernel) ?_
  refine uD (by decide +kernel) ?_
  refine uE (by decide +kernel) ?_
  refine uF (by decide +kernel) ?_
  refine EvP.step (fun k => by rw [incunableref06_take.l1]) ?_
  refine EvP.pos (by decide +kernel) ?_
  refine EvP.bindv (by unfold incunableref06_upright.f; rfl) ?_
  refine EvP.pos (by decide +kernel) ?_
  rw [w64 (x := p + (([48, 48, 48, 48, 48, 49, 49] : List Int).length : Int)) (by simp; omega) (by simp; omega)]
  exact EvP.ret rfl
theorem tN_00000 {l : List Int} (hl : Byt06 l) {p : Int} (h0 : 0 ≤ p) (h1 : p + 5 ≤ en l) : EvP (fun k => incunableref06_take.l0 k l p [48, 48, 48, 48, 48]) (RT ((Tr06.node (.bad) (.node (.leaf 2) (.leaf 8))).run l (p + 5))) := by
 have h2 := hl.2
 have h1' := h1
 unfold en at h1'
 refine take_round hl [48, 48, 48, 48, 48] (.bad) (.node (.leaf 2) (.leaf 8)) h0 (by simpa using h1) (by decide) (fun _ hlt => ?_) (fun _ hlt => ?_)
 ·refine EvP.bindv (a := ([48, 48, 48, 48, 48, 48] : List Int)) rfl ?_
  unfold tl06
  rw [show p + (([48, 48, 48, 48, 48] : List Int).length : Int) + 1 = p + 6 by simp <;> omega]
  repeat (first | refine EvP.pos (by decide +kernel) ?_ | refine EvP.neg (by decide +kernel) ?_)
  refine stJ ?_
  refine uA (by decide +kernel) ?_
  refine uB (by decide +kernel) ?_
  refine uC (by decide +kernel) ?_
  refine uD (by decide +kernel) ?_
  refine uE (by decide +kernel) ?_
  refine uF (by decide +kernel) ?_
  refine uG (by decide +kernel) ?_
  refine upEnd ?_
  exact EvP.neg (by decide +kernel) (EvP.ret (RT.err (by simp [Tr06.run]) rfl))
 ·refine EvP.bindv (a := ([48, 48, 48, 48, 48, 49] : List Int)) rfl ?_
  unfold tl06
  rw [show p + (([48, 48, 48, 48, 48] : List Int).length : Int) + 1 = p + 6 by simp <;> omega]
  repeat (first | refine EvP.pos (by decide +kernel) ?_ | refine EvP.neg (by decide +kernel) ?_)
  refine stJ ?_
  refine uA (by decide +kernel) ?_
  refine uB (by decide +kernel) ?_
  refine uC (by decide +kernel) ?_
  refine uD (by decide +kernel) ?_
  refine uE (by decide +kernel) ?_
  refine uF (by decide +kernel) ?_
  refine uG (by decide +kernel) ?_
  refine upEnd ?_
  exact EvP.pos (by decide +kernel) (tN_000001 hl h0 (by simp at hlt; omega))
theorem tN_00001 {l : List Int} (hl : Byt06 l) {p : Int} (h0 : 0 ≤ p) (h1 : p + 5 ≤ en l) : EvP (fun k => incunableref06_take.l0 k l p [48, 48, 48, 48, 49]) (RT ((Tr06.node (.leaf 3) (.leaf 7)).run l (p + 5))) := by
 have h2 := hl.2
 have h1' := h1
 unfold en at h1'
 refine take_round hl [48, 48, 48, 48, 49] (.leaf 3) (.leaf 7) h0 (by simpa using h1) (by decide) (fun _ hlt => ?_) (fun _ hlt => ?_)
 ·refine EvP.bindv (a := ([48, 48, 48, 48, 49, 48] : List Int)) rfl ?_
  unfold tl06
  have hlt' := hlt
  simp only [List.length_cons, List.length_nil] at hlt'
  unfold en at hlt'
  rw [show p + (([48, 48, 48, 48, 49] : List Int).length : Int) + 1 = p + 6 by simp <;> omega]
  repeat (first | refine EvP.pos (by decide +kernel) ?_ | refine EvP.neg (by decide +kernel) ?_)
  refine stJ ?_
  refine uA (by decide +kernel) ?_
  refine EvP.step (fun k => by rw [incunableref06_take.l1]) ?_
  refine EvP.pos (by decide +kernel) ?_
  refine EvP.bindv (by unfold incunableref06_upright.f; rfl) ?_
  refine EvP.pos (by decide +kernel) ?_
  rw [w64 (x := p + (([48, 48, 48, 48, 49, 48] : List Int).length : Int)) (by simp; omega) (by simp; omega)]
  exact EvP.ret rfl
 ·refine EvP.bindv (a := ([48, 48, 48, 48, 49, 49] : List Int)) rfl ?_
  unfold tl06
  have hlt' := hlt
  simp only [List.length_cons, List.length_nil] at hlt'
  unfold en at hlt'
  rw [show p + (([48, 48, 48, 48, 49] : List Int).length : Int) + 1 = p + 6 by simp <;> omega]
  repeat (first | refine EvP.pos (by decide +kernel) ?_ | refine EvP.neg (by decide +kernel) ?_)
  refine stJ ?_
  refine uA (by decide +kernel) ?_
  refine uB (by decide +kernel) ?_
  refine uC (by decide +kernel) ?_
  refine uD (by decide +kernel) ?_
  refine uE (by decide +kernel) ?_
  refine EvP.step (fun k => by rw [incunableref06_take.l1]) ?_
  refine EvP.pos (by decide +kernel) ?_
  refine EvP.bindv (by unfold incunableref06_upright.f; rfl) ?_
  refine EvP.pos (by decide +kernel) ?_
  rw [w64 (x := p + (([48, 48, 48, 48, 49, 49] : List Int).length : Int)) (by simp; omega) (by simp; omega)]
  exact EvP.ret rfl
theorem tN_0000 {l : List Int} (hl : Byt06 l) {p : Int} (h0 : 0 ≤ p) (h1 : p + 4 ≤ en l) : EvP (fun k => incunableref06_take.l0 k l p [48, 48, 48, 48]) (RT ((Tr06.node (.node (.bad) (.node (.leaf 2) (.leaf 8))) (.node (.leaf 3) (.leaf 7))).run l (p + 4))) := by
 have h2 := hl.2
 have h1' := h1
 unfold en at h1'
 refine take_round hl [48, 48, 48, 48] (.node (.bad) (.node (.leaf 2) (.leaf 8))) (.node (.leaf 3) (.leaf 7)) h0 (by simpa using h1) (by decide) (fun _ hlt => ?_) (fun _ hlt => ?_)
 ·refine EvP.bindv (a := ([48, 48, 48, 48, 48] : List Int)) rfl ?_
  unfold tl06
  rw [show p + (([48, 48, 48, 48] : List Int).length : Int) + 1 = p + 5 by simp <;> omega]
  repeat (first | refine EvP.pos (by decide +kernel) ?_ | refine EvP.neg (by decide +kernel) ?_)
  refine stJ ?_
  refine uA (by decide +kernel) ?_
  refine uB (by decide +kernel) ?_
  refine uC (by decide +kernel) ?_
  refine uD (by decide +kernel) ?_
  refine uE (by decide +kernel) ?_
  refine uF (by decide +kernel) ?_
  refine uG (by decide +kernel) ?_
  refine upEnd ?_
  exact EvP.pos (by decide +kernel) (tN_00000 hl h0 (by simp at hlt; omega))
 ·refine EvP.bindv (a := ([48, 48, 48, 48, 49] : List Int)) rfl ?_
  unfold tl06
  rw [show p + (([48, 48, 48, 48] : List Int).length : Int) + 1 = p + 5 by simp <;> omega]
  repeat (first | refine EvP.pos (by decide +kernel) ?_ | refine EvP.neg (by decide +kernel) ?_)
  refine stJ ?_
  refine uA (by decide +kernel) ?_
  refine uB (by decide +kernel) ?_
  refine uC (by decide +kernel) ?_
  refine uD (by decide +kernel) ?_
  refine uE (by decide +kernel) ?_
  refine uF (by decide +kernel) ?_
  refine uG (by decide +kernel) ?_
  refine upEnd ?_
  exact EvP.pos (by decide +kernel) (tN_00001 hl h0 (by simp at hlt; omega))
theorem tN_000 {l : List Int} (hl : Byt06 l) {p : Int} (h0 : 0 ≤ p) (h1 : p + 3 ≤ en l) : EvP (fun k => incunableref06_take.l0 k l p [48, 48, 48]) (RT ((Tr06.node (.node (.node (.bad) (.node (.leaf 2) (.leaf 8))) (.node (.leaf 3) (.leaf 7))) (.leaf 0)).run l (p + 3))) := by
 have h2 := hl.2
 have h1' := h1
 unfold en at h1'
 refine take_round hl [48, 48, 48] (.node (.node (.bad) (.node (.leaf 2) (.leaf 8))) (.node (.leaf 3) (.leaf 7))) (.leaf 0) h0 (by simpa using h1) (by decide) (fun _ hlt => ?_) (fun _ hlt => ?_)
 ·refine EvP.bindv (a := ([48, 48, 48, 48] : List Int)) rfl ?_
  unfold tl06
  rw [show p + (([48, 48, 48] : List Int).length : Int) + 1 = p + 4 by simp <;> omega]
  repeat (first | refine EvP.pos (by decide +kernel) ?_ | refine EvP.neg (by decide +kernel) ?_)
  refine stJ ?_
  refine uA (by decide +kernel) ?_
  refine uB (by decide +kernel) ?_
  refine uC (by decide +kernel) ?_
  refine uD (by decide +kernel) ?_
  refine uE (by decide +kernel) ?_
  refine uF (by decide +kernel) ?_
  refine uG (by decide +kernel) ?_
  refine upEnd ?_
  exact EvP.pos (by decide +kernel) (tN_0000 hl h0 (by simp at hlt; omega))
 ·refine EvP.bindv (a := ([48, 48, 48, 49] : List Int)) rfl ?_
  unfold tl06
  have hlt' := hlt
  simp only [List.length_cons, List.length_nil] at hlt'
  unfold en at hlt'
  rw [show p + (([48, 48, 48] : List Int).length : Int) + 1 = p + 4 by simp <;> omega]
  rw [w64 (x := p + 4) (by omega) (by omega), w64 (x := p + 3) (by omega) (by omega)]
  repeat (first | refine EvP.pos (by decide +kernel) ?_ | refine EvP.neg (by decide +kernel) ?_)
  exact EvP.ret rfl
theorem tN_00 {l : List Int} (hl : Byt06 l) {p : Int} (h0 : 0 ≤ p) (h1 : p + 2 ≤ en l) : EvP (fun k => incunableref06_take.l0 k l p [48, 48]) (RT ((Tr06.node (.node (.node (.node (.bad) (.node (.leaf 2) (.leaf 8))) (.node (.leaf 3) (.leaf 7))) (.leaf 0)) (.leaf 1)).run l (p + 2))) := by
 have h2 := hl.2
 have h1' := h1
 unfold en at h1'
 refine take_round hl [48, 48] (.node (.node (.node (.bad) (.node (.leaf 2) (.leaf 8))) (.node (.leaf 3) (.leaf 7))) (.leaf 0)) (.leaf 1) h0 (by simpa using h1) (by decide) (fun _ hlt => ?_) (fun _ hlt => ?_)
 ·refine EvP.bindv (a := ([48, 48, 48] : List Int)) rfl ?_
  unfold tl06
  rw [show p + (([48, 48] : List Int).length : Int) + 1 = p + 3 by simp <;> omega]
  repeat (first | refine EvP.pos (by decide +kernel) ?_ | refine EvP.neg (by decide +kernel) ?_)
  refine stJ ?_
  refine uA (by decide +kernel) ?_
  refine uB (by decide +kernel) ?_
  refine uC (by decide +kernel) ?_
  refine uD (by decide +kernel) ?_
  refine uE (by decide +kernel) ?_
  refine uF (by decide +kernel) ?_
  refine uG (by decide +kernel) ?_
  refine upEnd ?_
  exact EvP.pos (by decide +kernel) (tN_000 hl h0 (by simp at hlt; omega))
 ·refine EvP.bindv (a := ([48, 48, 49] : List Int)) rfl ?_
  unfold tl06
  have hlt' := hlt
  simp only [List.length_cons, List.length_nil] at hlt'
  unfold en at hlt'
  rw [show p + (([48, 48] : List Int).length : Int) + 1 = p + 3 by simp <;> omega]
  rw [w64 (x := p + 4) (by omega) (by omega), w64 (x := p + 3) (by omega) (by omega)]
  repeat (first | refine EvP.pos (by decide +kernel) ?_ | refine EvP.neg (by decide +kernel) ?_)
  exact EvP.ret rfl
theorem tN_01 {l : List Int} (hl : Byt06 l) {p : Int} (h0 : 0 ≤ p) (h1 : p + 2 ≤ en l) : EvP (fun k => incunableref06_take.l0 k l p [48, 49]) (RT ((Tr06.node (.leaf 4) (.leaf 6)).run l (p + 2))) := by
 have h2 := hl.2
 have h1' := h1
 unfold en at h1'
 refine take_round hl [48, 49] (.leaf 4) (.leaf 6) h0 (by simpa using h1) (by decide) (fun _ hlt => ?_) (fun _ hlt => ?_)
 ·refine EvP.bindv (a := ([48, 49, 48] : List Int)) rfl ?_
  unfold tl06
  have hlt' := hlt
  simp only [List.length_cons, List.length_nil] at hlt'
  unfold en at hlt'
  rw [show p + (([48, 49] : List Int).length : Int) + 1 = p + 3 by simp <;> omega]
  repeat (first | refine EvP.pos (by decide +kernel) ?_ | refine EvP.neg (by decide +kernel) ?_)
  refine stJ ?_
  refine uA (by decide +kernel) ?_
  refine uB (by decide +kernel) ?_
  refine EvP.step (fun k => by rw [incunableref06_take.l1]) ?_
  refine EvP.pos (by decide +kernel) ?_
  refine EvP.bindv (by unfold incunableref06_upright.f; rfl) ?_
  refine EvP.pos (by decide +kernel) ?_
  rw [w64 (x := p + (([48, 49, 48] : List Int).length : Int)) (by simp; omega) (by simp; omega)]
  exact EvP.ret rfl
 ·refine EvP.bindv (a := ([48, 49, 49] : List Int)) rfl ?_
  unfold tl06
  have hlt' := hlt
  simp only [List.length_cons, List.length_nil] at hlt'
  unfold en at hlt'
  rw [show p + (([48, 49] : List Int).length : Int) + 1 = p + 3 by simp <;> omega]
  repeat (first | refine EvP.pos (by decide +kernel) ?_ | refine EvP.neg (by decide +kernel) ?_)
  refine stJ ?_
  refine uA (by decide +kernel) ?_
  refine uB (by decide +kernel) ?_
  refine uC (by decide +kernel) ?_
  refine uD (by decide +kernel) ?_
  refine EvP.step (fun k => by rw [incunableref06_take.l1]) ?_
  refine EvP.pos (by decide +kernel) ?_
  refine EvP.bindv (by unfold incunableref06_upright.f; rfl) ?_
  refine EvP.pos (by decide +kernel) ?_
  rw [w64 (x := p + (([48, 49, 49] : List Int).length : Int)) (by simp; omega) (by simp; omega)]
  exact EvP.ret rfl
theorem tN_0 {l : List Int} (hl : Byt06 l) {p : Int} (h0 : 0 ≤ p) (h1 : p + 1 ≤ en l) : EvP (fun k => incunableref06_take.l0 k l p [48]) (RT ((Tr06.node (.node (.node (.node (.node (.bad) (.node (.leaf 2) (.leaf 8))) (.node (.leaf 3) (.leaf 7))) (.leaf 0)) (.leaf 1)) (.node (.leaf 4) (.leaf 6))).run l (p + 1))) := by
 have h2 := hl.2
 have h1' := h1
 unfold en at h1'
 refine take_round hl [48] (.node (.node (.node (.node (.bad) (.node (.leaf 2) (.leaf 8))) (.node (.leaf 3) (.leaf 7))) (.leaf 0)) (.leaf 1)) (.node (.leaf 4) (.leaf 6)) h0 (by simpa using h1) (by decide) (fun _ hlt => ?_) (fun _ hlt => ?_)
 ·refine EvP.bindv (a := ([48, 48] : List Int)) rfl ?_
  unfold tl06
  rw [show p + (([48] : List Int).length : Int) + 1 = p + 2 by simp <;> omega]
  repeat (first | refine EvP.pos (by decide +kernel) ?_ | refine EvP.neg (by decide +kernel) ?_)
  refine stJ ?_
  refine uA (by decide +kernel) ?_
  refine uB (by decide +kernel) ?_
  refine uC (by decide +kernel) ?_
  refine uD (by decide +kernel) ?_
  refine uE (by decide +kernel) ?_
  refine uF (by decide +kernel) ?_
  refine uG (by decide +kernel) ?_
  refine upEnd ?_
  exact EvP.pos (by decide +kernel) (tN_00 hl h0 (by simp at hlt; omega))
 ·refine EvP.bindv (a := ([48, 49] : List Int)) rfl ?_
  unfold tl06
  rw [show p + (([48] : List Int).length : Int) + 1 = p + 2 by simp <;> omega]
  repeat (first | refine EvP.pos (by decide +kernel) ?_ | refine EvP.neg (by decide +kernel) ?_)
  refine stJ ?_
  refine uA (by decide +kernel) ?_
  refine uB (by decide +kernel) ?_
  refine uC (by decide +kernel) ?_
  refine uD (by decide +kernel) ?_
  refine uE (by decide +kernel) ?_
  refine uF (by decide +kernel) ?_
  refine uG (by decide +kernel) ?_
  refine upEnd ?_
  exact EvP.pos (by decide +kernel) (tN_01 hl h0 (by simp at hlt; omega))
theorem tN_e {l : List Int} (hl : Byt06 l) {p : Int} (h0 : 0 ≤ p) (h1 : p + 0 ≤ en l) : EvP (fun k => incunableref06_take.l0 k l p []) (RT ((Tr06.node (.node (.node (.node (.node (.node (.bad) (.node (.leaf 2) (.leaf 8))) (.node (.leaf 3) (.leaf 7))) (.leaf 0)) (.leaf 1)) (.node (.leaf 4) (.leaf 6))) (.leaf 5)).run l (p + 0))) := by
 have h2 := hl.2
 have h1' := h1
 unfold en at h1'
 refine take_round hl [] (.node (.node (.node (.node (.node (.bad) (.node (.leaf 2) (.leaf 8))) (.node (.leaf 3) (.leaf 7))) (.leaf 0)) (.leaf 1)) (.node (.leaf 4) (.leaf 6))) (.leaf 5) h0 (by simpa using h1) (by decide) (fun _ hlt => ?_) (fun _ hlt => ?_)
 ·refine EvP.bindv (a := ([48] : List Int)) rfl ?_
  unfold tl06
  rw [show p + (([] : List Int).length : Int) + 1 = p + 1 by simp <;> omega]
  repeat (first | refine EvP.pos (by decide +kernel) ?_ | refine EvP.neg (by decide +kernel) ?_)
  refine stJ ?_
  refine uA (by decide +kernel) ?_
  refine uB (by decide +kernel) ?_
  refine uC (by decide +kernel) ?_
  refine uD (by decide +kernel) ?_
  refine uE (by decide +kernel) ?_
  refine uF (by decide +kernel) ?_
  refine uG (by decide +kernel) ?_
  refine upEnd ?_
  exact EvP.pos (by decide +kernel) (tN_0 hl h0 (by simp at hlt; omega))
 ·refine EvP.bindv (a := ([49] : List Int)) rfl ?_
  unfold tl06
  have hlt' := hlt
  simp only [List.length_cons, List.length_nil] at hlt'
  unfold en at hlt'
  rw [show p + (([] : List Int).length : Int) + 1 = p + 1 by simp <;> omega]
  repeat (first | refine EvP.pos (by decide +kernel) ?_ | refine EvP.neg (by decide +kernel) ?_)
  refine stJ ?_
  refine uA (by decide +kernel) ?_
  refine uB (by decide +kernel) ?_
  refine uC (by decide +kernel) ?_
  refine EvP.step (fun k => by rw [incunableref06_take.l1]) ?_
  refine EvP.pos (by decide +kernel) ?_
  refine EvP.bindv (by unfold incunableref06_upright.f; rfl) ?_
  refine EvP.pos (by decide +kernel) ?_
  rw [w64 (x := p + (([49] : List Int).length : Int)) (by simp; omega) (by simp; omega)]
  exact EvP.ret rfl
theorem takeW_is {l : List Int} (hl : Byt06 l) {p : Int} (h0 : 0 ≤ p) (h1 : p ≤ en l) : EvP (fun k => incunableref06_take.f k l p) (RT (trW.run l p)) := by
 have := tN_e hl h0 (show p + 0 ≤ en l by omega)
 rw [Int.add_zero] at this
 exact this
def Px (l : List Int) : Prop := (l.length : Int) ≤ 200 ∧ ∀ y ∈ l, y = 0 ∨ y = 1
theorem Px.at {l : List Int} (h : Px l) {i : Int} (i0 : 0 ≤ i) (i1 : i < (l.length : Int)) : rd l i = 0 ∨ rd l i = 1 := h.2 _ (rd_mem i0 i1)
theorem at_is {l : List Int} (h : Px l) {i : Int} (i0 : 0 ≤ i) (i1 : i < (l.length : Int)) : incunableref06_at.f l i = some (rd l i) := by
 have := h.at i0 i1
 unfold incunableref06_at.f
 rw [if_neg (by omega), if_pos i0, if_pos i1, w64 (by omega) (by omega)]
theorem first_pair {l : List Int} (h : Px l) (c : Int) : ∀ (n : Nat) (x : Int), 0 ≤ x → (l.length : Int) + 1 - x = n → ∃ b : Int, (x ≤ b ∨ b = l.length) ∧ b ≤ l.length ∧ EvP (fun k => runs_change.l0 k l c x) (· = b) ∧ EvP (fun k => incunableref06_first.l0 k l c x) (· = b) := by
 have hl := h.1
 have fin : ∀ x : Int, 0 ≤ x → ¬ x < (l.length : Int) → ∃ b : Int, (x ≤ b ∨ b = l.length) ∧ b ≤ l.length ∧ EvP (fun k => runs_change.l0 k l c x) (· = b) ∧ EvP (fun k => incunableref06_first.l0 k l c x) (· = b) := fun x x0 hx => by
  refine ⟨l.length, .inr rfl, Int.le_refl _, ?_, ?_⟩
  ·refine EvP.step (fun k => by rw [runs_change.l0]) (EvP.neg hx (EvP.ret ?_))
   unfold mn
   split <;> omega
  ·exact EvP.step (fun k => by rw [incunableref06_first.l0]) (EvP.neg hx (EvP.ret rfl))
 intro n
 induction n with
 | zero => exact fun x x0 hn => fin x x0 (by omega)
 | succ n ih =>
  intro x x0 hn
  by_cases hx : x < (l.length : Int)
  ·by_cases e : rd l x = c
   ·refine ⟨x, .inl (Int.le_refl _), by omega, ?_, ?_⟩
    ·refine EvP.step (fun k => by rw [runs_change.l0]) (EvP.pos hx (EvP.pos x0 (EvP.pos e (EvP.ret ?_))))
     unfold mn
     split <;> omega
    ·refine EvP.step (fun k => by rw [incunableref06_first.l0]) (EvP.pos hx (EvP.bindv (at_is h x0 hx) ?_))
     exact EvP.pos e (EvP.ret rfl)
   ·obtain ⟨b, h1, h2, h3, h4⟩ := ih (x + 1) (by omega) (by omega)
    refine ⟨b, by omega, h2, ?_, ?_⟩
    ·refine EvP.step (fun k => by rw [runs_change.l0]) (EvP.pos hx (EvP.pos x0 (EvP.neg e ?_)))
     rw [w64 (x := x + 1) (by omega) (by omega)]
     exact h3
    ·refine EvP.step (fun k => by rw [incunableref06_first.l0]) (EvP.pos hx (EvP.bindv (at_is h x0 hx) (EvP.neg e ?_)))
     rw [w64 (x := x + 1) (by omega) (by omega)]
     exact h4
  ·exact fin x x0 hx
theorem first_behind {l : List Int} (h : Px l) (c a : Int) (a0 : -1 ≤ a) (a1 : a ≤ l.length) : ∃ b : Int, (a < b ∨ b = l.length) ∧ b ≤ l.length ∧ EvP (fun k => runs_change.f k l a c) (· = b) ∧ EvP (fun k => incunableref06_first.f k l a c) (· = b) := by
 have hl := h.1
 obtain ⟨b, h1, h2, h3, h4⟩ := first_pair h c (l.length + 1 - (a + 1)).toNat (a + 1) (by omega) (by omega)
 refine ⟨b, by omega, h2, ?_, ?_⟩
 ·unfold runs_change.f
  rw [w64 (x := a + 1) (by omega) (by omega)]
  exact h3
 ·unfold incunableref06_first.f
  rw [w64 (x := a + 1) (by omega) (by omega)]
  exact h4
theorem marks_pair {l : List Int} (h : Px l) (c : Int) : ∀ (n : Nat) (x : Int), 0 ≤ x → x ≤ l.length → (l.length : Int) - x = n → ∃ b b2 : Int, x ≤ b ∧ b ≤ l.length ∧ (b < b2 ∨ b2 = l.length) ∧ b2 ≤ l.length ∧
  EvP (fun k => runs_marks.l0 k l c x) (· = (b, b2)) ∧ EvP (fun k => incunableref06_change.l0 k l c x) (· = b) ∧ EvP (fun k => incunableref06_first.f k l b c) (· = b2) := by
 have hl := h.1
 have mnx : ∀ x : Int, x ≤ (l.length : Int) → mn x (l.length : Int) = x := fun x hx => by
  unfold mn
  split <;> omega
 intro n
 induction n with
 | zero =>
  intro x x0 x1 hn
  obtain ⟨b2, h1, h2, h3, h4⟩ := first_behind h c x (by omega) x1
  refine ⟨x, b2, Int.le_refl _, x1, h1, h2, ?_, ?_, h4⟩
  ·refine EvP.step (fun k => by rw [runs_marks.l0]) (EvP.neg (by omega) ?_)
   rw [mnx x x1]
   refine EvP.bind h3 ?_
   rintro _ rfl
   exact EvP.ret rfl
  ·refine EvP.step (fun k => by rw [incunableref06_change.l0]) (EvP.neg (by omega) (EvP.ret ?_))
   show (l.length : Int) = x
   omega
 | succ n ih =>
  intro x x0 x1 hn
  have hx : x < (l.length : Int) := by omega
  have stop : rd l x ≠ c → (if x > 0 then rd l (x - 1) else 0) = c → ∃ b b2 : Int, x ≤ b ∧ b ≤ l.length ∧ (b < b2 ∨ b2 = l.length) ∧ b2 ≤ l.length ∧
    EvP (fun k => runs_marks.l0 k l c x) (· = (b, b2)) ∧ EvP (fun k => incunableref06_change.l0 k l c x) (· = b) ∧ EvP (fun k => incunableref06_first.f k l b c) (· = b2) := fun e1 e2 => by
   obtain ⟨b2, h1, h2, h3, h4⟩ := first_behind h c x (by omega) x1
   refine ⟨x, b2, Int.le_refl _, x1, h1, h2, ?_, ?_, h4⟩
   ·refine EvP.step (fun k => by rw [runs_marks.l0]) (EvP.pos hx ?_)
    have last : EvP (fun k => (runs_change.f k l (mn x (l.length : Int)) c).bind fun t => some (mn x (l.length : Int), t)) (· = (x, b2)) := by
     rw [mnx x x1]
     refine EvP.bind h3 ?_
     rintro _ rfl
     exact EvP.ret rfl
    refine EvP.ite (fun xp => ?_) (fun xn => ?_)
    ·rw [if_pos xp] at e2
     rw [w64 (x := x - 1) (by omega) (by omega)]
     exact EvP.pos (by omega) (EvP.pos (by omega) (EvP.pos x0 (EvP.neg e1 (EvP.pos e2 last))))
    ·rw [if_neg xn] at e2
     exact EvP.pos x0 (EvP.neg e1 (EvP.pos e2 last))
   ·refine EvP.step (fun k => by rw [incunableref06_change.l0]) (EvP.pos hx (EvP.bindv (at_is h x0 hx) (EvP.neg e1 ?_)))
    rw [w64 (x := x - 1) (by omega) (by omega)]
    by_cases xp : x > 0
    ·rw [if_pos xp] at e2
     refine EvP.bindv (at_is h (by omega) (by omega)) ?_
     exact EvP.pos e2 (EvP.ret rfl)
    ·rw [if_neg xp] at e2
     refine EvP.bindv (a := 0) ?_ ?_
     ·unfold incunableref06_at.f
      rw [if_pos (by omega)]
     ·exact EvP.pos e2 (EvP.ret rfl)
  have on : (rd l x = c ∨ (if x > 0 then rd l (x - 1) else 0) ≠ c) → ∃ b b2 : Int, x ≤ b ∧ b ≤ l.length ∧ (b < b2 ∨ b2 = l.length) ∧ b2 ≤ l.length ∧
    EvP (fun k => runs_marks.l0 k l c x) (· = (b, b2)) ∧ EvP (fun k => incunableref06_change.l0 k l c x) (· = b) ∧ EvP (fun k => incunableref06_first.f k l b c) (· = b2) := fun e => by
   obtain ⟨b, b2, g1, g2, g3, g4, g5, g6, g7⟩ := ih (x + 1) (by omega) (by omega) (by omega)
   refine ⟨b, b2, by omega, g2, g3, g4, ?_, ?_, g7⟩
   ·refine EvP.step (fun k => by rw [runs_marks.l0]) (EvP.pos hx ?_)
    rw [w64 (x := x + 1) (by omega) (by omega)]
    refine EvP.ite (fun xp => ?_) (fun xn => ?_)
    ·rw [if_pos xp] at e
     rw [w64 (x := x - 1) (by omega) (by omega)]
     exact EvP.pos (by omega) (EvP.pos (by omega) (EvP.pos x0 (EvP.ite (fun _ => g5) (fun e1 => EvP.neg (e.resolve_left e1) g5))))
    ·rw [if_neg xn] at e
     exact EvP.pos x0 (EvP.ite (fun _ => g5) (fun e1 => EvP.neg (e.resolve_left e1) g5))
   ·refine EvP.step (fun k => by rw [incunableref06_change.l0]) (EvP.pos hx (EvP.bindv (at_is h x0 hx) ?_))
    rw [w64 (x := x + 1) (by omega) (by omega), w64 (x := x - 1) (by omega) (by omega)]
    refine EvP.ite (fun _ => g6) (fun e1 => ?_)
    have e2 := e.resolve_left e1
    by_cases xp : x > 0
    ·rw [if_pos xp] at e2
     exact EvP.bindv (at_is h (by omega) (by omega)) (EvP.neg e2 g6)
    ·rw [if_neg xp] at e2
     refine EvP.bindv (a := 0) ?_ (EvP.neg e2 g6)
     unfold incunableref06_at.f
     rw [if_pos (by omega)]
  by_cases e1 : rd l x = c
  ·exact on (.inl e1)
  ·by_cases e2 : (if x > 0 then rd l (x - 1) else 0) = c
   ·exact stop e1 e2
   ·exact on (.inr e2)
theorem marks_is {l : List Int} (h : Px l) (c a : Int) (a0 : -1 ≤ a) (a1 : a < l.length) : ∃ b b2 : Int, a < b ∧ b ≤ l.length ∧ (b < b2 ∨ b2 = l.length) ∧ b2 ≤ l.length ∧
  EvP (fun k => runs_marks.f k l a c) (· = (b, b2)) ∧ EvP (fun k => incunableref06_change.f k l a c) (· = b) ∧ EvP (fun k => incunableref06_first.f k l b c) (· = b2) := by
 have hl := h.1
 obtain ⟨b, b2, g1, g2, g3, g4, g5, g6, g7⟩ := marks_pair h c (l.length - (a + 1)).toNat (a + 1) (by omega) (by omega) (by omega)
 refine ⟨b, b2, by omega, g2, g3, g4, ?_, ?_, g7⟩
 ·unfold runs_marks.f
  rw [w64 (x := a + 1) (by omega) (by omega)]
  exact g5
 ·unfold incunableref06_change.f
  rw [w64 (x := a + 1) (by omega) (by omega)]
  exact g6
def grow06 (out : List Int) (x c : Int) : List Int := out ++ List.replicate (x - (out.length : Int)).toNat c
theorem grow06_len {out : List Int} {x c : Int} (h : (out.length : Int) ≤ x) : ((grow06 out x c).length : Int) = x := by
 unfold grow06
 simp
 omega
theorem grow06_01 {out : List Int} {x c : Int} (h : ∀ y ∈ out, y = 0 ∨ y = 1) (hc : c = 0 ∨ c = 1) : ∀ y ∈ grow06 out x c, y = 0 ∨ y = 1 := fun y hy => (List.mem_append.mp hy).elim (h y) (fun z => by rw [(List.mem_replicate.mp z).2]; exact hc)
theorem fill_is {out : List Int} {x c : Int} (h : (out.length : Int) ≤ x) (hx : x ≤ 200) (hc : c = 0 ∨ c = 1) : EvP (fun k => runs_fill.f k out x c) (· = grow06 out x c) := by
 unfold runs_fill.f
 rw [show c % 256 = c by omega, w64 (x := x - (out.length : Int)) (by omega) (by omega)]
 refine EvP.bind (rep_is (by omega) (by omega) hc) ?_
 rintro _ rfl
 exact EvP.pos (by simp; omega) (EvP.ret rfl)
theorem paintTo_is {out : List Int} {x c : Int} (h : (out.length : Int) ≤ x) (hx : x ≤ 200) (hc : c = 0 ∨ c = 1) : EvP (fun k => incunableref06_paint.f k out x c) (· = grow06 out x c) := by
 have := paint_is (row := out) (n := x - (out.length : Int)) (c := c) (by omega) (by omega) hc
 rw [show (out.length : Int) + (x - (out.length : Int)) = x by omega] at this
 exact this
def PM (s : Except Int (Int × Int × Int × List Int)) (r : Int × Int × Bool × Int × Int × List Int) : Prop := match s with
 | .error e => e ≠ 0 ∧ r.1 = e
 | .ok v => r = (0, v.1, true, v.2.1, v.2.2.1, v.2.2.2)
def Md06 (l : List Int) (w p a : Int) (v : Int × Int × Int × List Int) : Prop := p ≤ v.1 ∧ v.1 ≤ en l ∧ a < v.2.1 ∧ 0 ≤ v.2.1 ∧ v.2.1 ≤ w ∧ (v.2.2.1 = 0 ∨ v.2.2.1 = 1) ∧ (v.2.2.2.length : Int) = v.2.1 ∧ ∀ y ∈ v.2.2.2, y = 0 ∨ y = 1
abbrev flR (k : Nat) (l : List Int) (p : Int) (ab : List Int) (w : Int) (out : List Int) (a col m0 : Int) : Option (List Int × Int × Int) := (incunableref06_run.f k l p col).bind fun bt508 => (if bt508.2.2 = 0 then (if bt508.1 = 0 then (if a ≥ 0 then (incunableref06_twoRow.j2 k l ab w out col bt508.2.1 (wrap64 (m0 + bt508.1)) true) else (incunableref06_twoRow.j2 k l ab w out col bt508.2.1 (wrap64 (m0 + bt508.1)) (decide ((wrap64 (m0 + bt508.1)) > w)))) else (incunableref06_twoRow.j2 k l ab w out col bt508.2.1 (wrap64 (m0 + bt508.1)) (decide ((wrap64 (m0 + bt508.1)) > w)))) else (some (([] : List Int), 0, bt508.2.2)))
abbrev flP (k : Nat) (l : List Int) (p w a col : Int) (out : List Int) : Option (Int × Int × Bool × Int × Int × List Int) := (runs_flat.f k l p true w a col out).bind fun q => some (q.1, q.2.1, q.2.2.1, q.2.2.2.1, col, q.2.2.2.2)
theorem flat_pair {l : List Int} (hl : Byt06 l) {w : Int} (w0 : 0 < w) (w1 : w ≤ 200) (ab : List Int) {p a col : Int} {out : List Int} (p0 : 0 ≤ p) (p1 : p ≤ en l) (a0 : -1 ≤ a) (a1 : a < w) (hc : col = 0 ∨ col = 1) (ho : (out.length : Int) = max a 0) (hx : ∀ y ∈ out, y = 0 ∨ y = 1) :
  ∃ s : Except Int (Int × Int × Int × List Int), EvP (fun k => flP k l p w a col out) (PM s) ∧
   (∀ P : List Int × Int × Int → Prop, (match s with | .error e => P ([], 0, e) | .ok v => EvP (fun k => incunableref06_twoRow.l0 k l v.1 ab w v.2.2.2 v.2.1 v.2.2.1) P) →
    EvP (fun k => flR k l p ab w out a col (mx a 0)) P) ∧
   ∀ v, s = .ok v → Md06 l w p a v := by
 have hP := run_is hl hc p0 p1
 have hR := refRun_is hl hc p0 p1
 have hmx : mx a 0 = (out.length : Int) := by rw [ho]; unfold mx; split <;> omega
 rw [hmx]
 cases hs : run06 l p col with
 | error e =>
  rw [hs] at hP hR
  refine ⟨.error e, ?_, fun P hQ => ?_, fun v hv => by cases hv⟩
  ·unfold flP runs_flat.f
   refine EvP.bind (Q := fun (q : Int × Int × Bool × Int × List Int) => e ≠ 0 ∧ q.1 = e) (EvP.bind hP ?_) (fun q hq => EvP.ret hq)
   rintro r ⟨h1, h2⟩
   exact EvP.neg (by rw [h2]; exact h1) (EvP.ret ⟨h1, h2⟩)
  ·refine EvP.bind hR ?_
   rintro r ⟨h1, h2⟩
   exact EvP.neg (by rw [h2]; exact h1) (EvP.ret (by rw [h2]; exact hQ))
 | ok n =>
  obtain ⟨n0, n1, q0, q1⟩ := run06_ok hl p0 p1 hs
  rw [hs] at hP hR
  have wE : wrap64 ((out.length : Int) + n.1) = (out.length : Int) + n.1 := w64 (by omega) (by omega)
  have hc' : 1 - col = 0 ∨ 1 - col = 1 := by omega
  have wC : wrap64 (1 - col) = 1 - col := w64 (by omega) (by omega)
  have prog : ∀ {Q : Int × Int × Bool × Int × Int × List Int → Prop}, (EvP (fun k => (if n.1 = 0 ∧ a ≥ 0 then some (3, n.2, true, a, out) else (if (out.length : Int) + n.1 > w then some (3, n.2, true, a, out) else
   ((runs_reader_run.f k l n.2 true (1 - col)).bind fun m => (if m.2.1 = 0 then (if m.1 > wrap64 (w - ((out.length : Int) + n.1)) then some (3, m.2.2.1, m.2.2.2, a, out) else (if (m.1 = 0 ∧ (out.length : Int) + n.1 = w) ∨ (m.1 ≠ 0 ∧ (out.length : Int) + n.1 ≠ w) then
    ((runs_fill.f k out ((out.length : Int) + n.1) col).bind fun out1 => (runs_fill.f k out1 (wrap64 ((out.length : Int) + n.1 + m.1)) (1 - col)).bind fun out2 => some (0, m.2.2.1, m.2.2.2, wrap64 ((out.length : Int) + n.1 + m.1), out2))
    else some (3, m.2.2.1, m.2.2.2, a, out))) else some (m.2.1, m.2.2.1, m.2.2.2, a, out)))))) (fun q => Q (q.1, q.2.1, q.2.2.1, q.2.2.2.1, col, q.2.2.2.2))) → EvP (fun k => flP k l p w a col out) Q := by
   intro Q hQ
   unfold flP runs_flat.f
   refine EvP.bind (Q := fun q => Q (q.1, q.2.1, q.2.2.1, q.2.2.2.1, col, q.2.2.2.2)) (EvP.bind hP ?_) (fun q hq => EvP.ret hq)
   intro r hr
   have hr : r = (n.1, 0, n.2, true) := hr
   subst hr
   refine EvP.pos rfl ?_
   dsimp only
   rw [wE, wC]
   exact hQ
  have refr : ∀ {P : List Int × Int × Int → Prop}, (EvP (fun k => (if n.1 = 0 then (if a ≥ 0 then (incunableref06_twoRow.j2 k l ab w out col n.2 ((out.length : Int) + n.1) true) else (incunableref06_twoRow.j2 k l ab w out col n.2 ((out.length : Int) + n.1) (decide ((out.length : Int) + n.1 > w)))) else (incunableref06_twoRow.j2 k l ab w out col n.2 ((out.length : Int) + n.1) (decide ((out.length : Int) + n.1 > w))))) P) → EvP (fun k => flR k l p ab w out a col (out.length : Int)) P := by
   intro P hQ
   refine EvP.bind hR ?_
   intro r hr
   have hr : r = (n.1, n.2, 0) := hr
   subst hr
   refine EvP.pos rfl ?_
   dsimp only
   rw [wE]
   exact hQ
  by_cases bad : (n.1 = 0 ∧ a ≥ 0) ∨ (out.length : Int) + n.1 > w
  ·refine ⟨.error 3, prog ?_, fun P hQ => refr ?_, fun v hv => by cases hv⟩
   ·refine EvP.ite (fun z => EvP.ret ⟨by omega, rfl⟩) (fun z => EvP.pos (bad.resolve_left z) (EvP.ret ⟨by omega, rfl⟩))
   ·have j2t : EvP (fun k => incunableref06_twoRow.j2 k l ab w out col n.2 ((out.length : Int) + n.1) true) P := by
     refine EvP.step (fun k => by rw [incunableref06_twoRow.j2]) ?_
     exact EvP.pos rfl (EvP.ret hQ)
    have j2d : (out.length : Int) + n.1 > w → EvP (fun k => incunableref06_twoRow.j2 k l ab w out col n.2 ((out.length : Int) + n.1) (decide ((out.length : Int) + n.1 > w))) P := fun z => by
     rw [decide_eq_true z]; exact j2t
    exact EvP.ite (fun z => EvP.ite (fun y => j2t) (fun y => j2d (bad.resolve_left (fun u => y u.2)))) (fun z => j2d (bad.resolve_left (fun u => z u.1)))
  ·have b1 : ¬ (n.1 = 0 ∧ a ≥ 0) := fun z => bad (.inl z)
   have b2 : ¬ (out.length : Int) + n.1 > w := fun z => bad (.inr z)
   have wW : wrap64 (w - ((out.length : Int) + n.1)) = w - ((out.length : Int) + n.1) := w64 (by omega) (by omega)
   have hP2 := run_is hl hc' (show 0 ≤ n.2 by omega) q1
   have hR2 := refRun_is hl hc' (show 0 ≤ n.2 by omega) q1
   have refr2 : ∀ {P : List Int × Int × Int → Prop}, EvP (fun k => (incunableref06_run.f k l n.2 (1 - col)).bind fun bt511 => (if bt511.2.2 = 0 then (if ((bt511.1 == 0) != ((out.length : Int) + n.1 == w)) = true then (incunableref06_twoRow.j3 k l ab w out col bt511.2.1 ((out.length : Int) + n.1) bt511.1 true) else (incunableref06_twoRow.j3 k l ab w out col bt511.2.1 ((out.length : Int) + n.1) bt511.1 (decide ((wrap64 ((out.length : Int) + n.1 + bt511.1)) > w)))) else (some (([] : List Int), 0, bt511.2.2)))) P → EvP (fun k => (if n.1 = 0 then (if a ≥ 0 then (incunableref06_twoRow.j2 k l ab w out col n.2 ((out.length : Int) + n.1) true) else (incunableref06_twoRow.j2 k l ab w out col n.2 ((out.length : Int) + n.1) (decide ((out.length : Int) + n.1 > w)))) else (incunableref06_twoRow.j2 k l ab w out col n.2 ((out.length : Int) + n.1) (decide ((out.length : Int) + n.1 > w))))) P := by
    intro P hQ
    have g : EvP (fun k => incunableref06_twoRow.j2 k l ab w out col n.2 ((out.length : Int) + n.1) (decide ((out.length : Int) + n.1 > w))) P := by
     rw [decide_eq_false b2]
     refine EvP.step (fun k => by rw [incunableref06_twoRow.j2]) (EvP.neg (by simp) ?_)
     rw [wC]
     exact hQ
    exact EvP.ite (fun z => EvP.neg (fun y => b1 ⟨z, y⟩) g) (fun z => g)
   cases hs2 : run06 l n.2 (1 - col) with
   | error e =>
    rw [hs2] at hP2 hR2
    refine ⟨.error e, prog (EvP.neg b1 (EvP.neg b2 ?_)), fun P hQ => refr (refr2 ?_), fun v hv => by cases hv⟩
    ·refine EvP.bind hP2 ?_
     rintro r ⟨h1, h2⟩
     exact EvP.neg (by rw [h2]; exact h1) (EvP.ret ⟨h1, h2⟩)
    ·refine EvP.bind hR2 ?_
     rintro r ⟨h1, h2⟩
     exact EvP.neg (by rw [h2]; exact h1) (EvP.ret (by rw [h2]; exact hQ))
   | ok m =>
    obtain ⟨m0, m1, u0, u1⟩ := run06_ok hl (by omega) q1 hs2
    rw [hs2] at hP2 hR2
    have wM : wrap64 ((out.length : Int) + n.1 + m.1) = (out.length : Int) + n.1 + m.1 := w64 (by omega) (by omega)
    have key : ((m.1 == 0) != ((out.length : Int) + n.1 == w)) = true ↔ ¬ ((m.1 = 0 ∧ (out.length : Int) + n.1 = w) ∨ (m.1 ≠ 0 ∧ (out.length : Int) + n.1 ≠ w)) := by
     by_cases x1 : m.1 = 0
     ·by_cases x2 : (out.length : Int) + n.1 = w
      ·rw [beq_iff_eq.mpr x1, beq_iff_eq.mpr x2]
       exact ⟨fun h => absurd h (by decide), fun h => absurd (Or.inl ⟨x1, x2⟩) h⟩
      ·rw [beq_iff_eq.mpr x1, beq_eq_false_iff_ne.mpr x2]
       exact ⟨fun _ h => h.elim (fun y => x2 y.2) (fun y => y.1 x1), fun _ => rfl⟩
     ·by_cases x2 : (out.length : Int) + n.1 = w
      ·rw [beq_eq_false_iff_ne.mpr x1, beq_iff_eq.mpr x2]
       exact ⟨fun _ h => h.elim (fun y => x1 y.1) (fun y => y.2 x2), fun _ => rfl⟩
      ·rw [beq_eq_false_iff_ne.mpr x1, beq_eq_false_iff_ne.mpr x2]
       exact ⟨fun h => absurd h (by decide), fun h => absurd (Or.inr ⟨x1, x2⟩) h⟩
    by_cases bad2 : m.1 > w - ((out.length : Int) + n.1) ∨ ¬ ((m.1 = 0 ∧ (out.length : Int) + n.1 = w) ∨ (m.1 ≠ 0 ∧ (out.length : Int) + n.1 ≠ w))
    ·refine ⟨.error 3, prog (EvP.neg b1 (EvP.neg b2 ?_)), fun P hQ => refr (refr2 ?_), fun v hv => by cases hv⟩
     ·refine EvP.bind hP2 ?_
      intro r hr
      have hr : r = (m.1, 0, m.2, true) := hr
      subst hr
      refine EvP.pos rfl ?_
      dsimp only
      rw [wW]
      exact EvP.ite (fun z => EvP.ret ⟨by omega, rfl⟩) (fun z => EvP.neg (bad2.resolve_left z) (EvP.ret ⟨by omega, rfl⟩))
     ·refine EvP.bind hR2 ?_
      intro r hr
      have hr : r = (m.1, m.2, 0) := hr
      subst hr
      refine EvP.pos rfl ?_
      dsimp only
      rw [wM]
      have j3t : EvP (fun k => incunableref06_twoRow.j3 k l ab w out col m.2 ((out.length : Int) + n.1) m.1 true) P := by
       refine EvP.step (fun k => by rw [incunableref06_twoRow.j3]) ?_
       exact EvP.pos rfl (EvP.ret hQ)
      refine EvP.ite (fun z => j3t) (fun z => ?_)
      have z' : m.1 > w - ((out.length : Int) + n.1) := bad2.resolve_right (fun y => z (key.mpr y))
      rw [decide_eq_true (show (out.length : Int) + n.1 + m.1 > w by omega)]
      exact j3t
    ·have d1 : ¬ m.1 > w - ((out.length : Int) + n.1) := fun z => bad2 (.inl z)
     have d2 : (m.1 = 0 ∧ (out.length : Int) + n.1 = w) ∨ (m.1 ≠ 0 ∧ (out.length : Int) + n.1 ≠ w) := Classical.not_not.mp (fun z => bad2 (.inr z))
     have g1 : ((grow06 out ((out.length : Int) + n.1) col).length : Int) = (out.length : Int) + n.1 := grow06_len (by omega)
     have g2 : ((grow06 (grow06 out ((out.length : Int) + n.1) col) ((out.length : Int) + n.1 + m.1) (1 - col)).length : Int) = (out.length : Int) + n.1 + m.1 := grow06_len (by omega)
     refine ⟨.ok (m.2, (out.length : Int) + n.1 + m.1, col, grow06 (grow06 out ((out.length : Int) + n.1) col) ((out.length : Int) + n.1 + m.1) (1 - col)), prog (EvP.neg b1 (EvP.neg b2 ?_)), fun P hQ => refr (refr2 ?_), fun v hv => ?_⟩
     ·refine EvP.bind hP2 ?_
      intro r hr
      have hr : r = (m.1, 0, m.2, true) := hr
      subst hr
      refine EvP.pos rfl ?_
      dsimp only
      rw [wW, wM]
      refine EvP.neg d1 (EvP.pos d2 ?_)
      refine EvP.bind (fill_is (by omega) (by omega) hc) ?_
      rintro _ rfl
      refine EvP.bind (fill_is (by omega) (by omega) hc') ?_
      rintro _ rfl
      exact EvP.ret rfl
     ·refine EvP.bind hR2 ?_
      intro r hr
      have hr : r = (m.1, m.2, 0) := hr
      subst hr
      refine EvP.pos rfl ?_
      dsimp only
      rw [wM]
      refine EvP.neg (fun z => key.mp z d2) ?_
      rw [decide_eq_false (show ¬ (out.length : Int) + n.1 + m.1 > w by omega)]
      refine EvP.step (fun k => by rw [incunableref06_twoRow.j3]) (EvP.neg (by simp) ?_)
      rw [wM, wC]
      refine EvP.bind (paintTo_is (by omega) (by omega) hc) ?_
      rintro _ rfl
      refine EvP.bind (paintTo_is (by omega) (by omega) hc') ?_
      rintro _ rfl
      exact hQ
     ·cases hv
      refine ⟨by show p ≤ m.2; omega, u1, ?_, ?_, ?_, hc, g2, grow06_01 (grow06_01 hx hc) hc'⟩
      ·show a < (out.length : Int) + n.1 + m.1; omega
      ·show 0 ≤ (out.length : Int) + n.1 + m.1; omega
      ·show (out.length : Int) + n.1 + m.1 ≤ w; omega
theorem trW_lt : trW.lt 9 = true := by decide +kernel
theorem mode_pair {l : List Int} (hl : Byt06 l) {w : Int} (w0 : 0 < w) (w1 : w ≤ 200) {ab : List Int} (ha : Px ab) (hab : (ab.length : Int) = w) {p a col : Int} {out : List Int} (p0 : 0 ≤ p) (p1 : p ≤ en l) (a0 : -1 ≤ a) (a1 : a < w) (hc : col = 0 ∨ col = 1) (ho : (out.length : Int) = max a 0) (hx : ∀ y ∈ out, y = 0 ∨ y = 1) :
  ∃ s : Except Int (Int × Int × Int × List Int), EvP (fun k => runs_mode.f k l p true w a col ab out) (PM s) ∧
   (∀ P : List Int × Int × Int → Prop, (match s with | .error e => P ([], 0, e) | .ok v => EvP (fun k => incunableref06_twoRow.l0 k l v.1 ab w v.2.2.2 v.2.1 v.2.2.1) P) → EvP (fun k => incunableref06_twoRow.j1 k l p ab w out a col true) P) ∧
   ∀ v, s = .ok v → Md06 l w p a v := by
 have hW : EvP (fun k => runs_reader_word.f k l p true tW) (· = ((trW.run l p).1, (trW.run l p).2.1, (trW.run l p).2.2, true)) := word_run hl tW trW ⟨#[]⟩ p wokW p0 p1
 have hT := takeW_is hl p0 p1
 obtain ⟨q0, q1⟩ := Tr06.run_place l trW p p0 p1
 generalize hr : trW.run l p = r at hW hT q0 q1
 by_cases e : r.2.1 = 0
 ·obtain ⟨i0, i1⟩ := Tr06.run_lt l 9 trW p trW_lt (by rw [hr]; exact e)
  rw [hr] at i0 i1
  have hT : EvP (fun k => incunableref06_take.f k l p) (· = (kindW r.1, if r.1 < 2 then 0 else r.1 - 5, r.2.2, 0)) := hT.mono (fun q hq => by unfold RT at hq; rwa [if_pos e] at hq)
  obtain ⟨b, b2, g1, g2, g3, g4, g5, g6, g7⟩ := marks_is ha col a a0 (by omega)
  have prog : ∀ {Q : Int × Int × Bool × Int × Int × List Int → Prop}, EvP (fun k => (if r.1 = 1 then (flP k l r.2.2 w a col out) else (if r.1 = 0 then (if b2 = w then some (3, r.2.2, true, a, col, out) else ((runs_fill.f k out b2 col).bind fun out1 => some (0, r.2.2, true, b2, col, out1)))
   else (if wrap64 (wrap64 (b + r.1) - 5) ≤ a then some (3, r.2.2, true, a, col, out) else (if wrap64 (wrap64 (b + r.1) - 5) > w then some (3, r.2.2, true, a, col, out) else ((runs_fill.f k out (wrap64 (wrap64 (b + r.1) - 5)) col).bind fun out1 => some (0, r.2.2, true, wrap64 (wrap64 (b + r.1) - 5), wrap64 (1 - col), out1))))))) Q → EvP (fun k => runs_mode.f k l p true w a col ab out) Q := by
   intro Q hQ
   unfold runs_mode.f
   refine EvP.bind hW ?_
   rintro _ rfl
   refine EvP.pos e ?_
   rw [show col % 256 = col by omega]
   refine EvP.bind g5 ?_
   rintro _ rfl
   exact hQ
  have refr : ∀ {P : List Int × Int × Int → Prop}, EvP (fun k => (if (kindW r.1).toList = ([112, 97, 115, 115] : List UInt8) then (if b2 ≥ w then (some (([] : List Int), 0, 3)) else ((incunableref06_paint.f k out b2 col).bind fun t502 => (incunableref06_twoRow.l0 k l r.2.2 ab w t502 b2 col))) else (if (kindW r.1).toList = ([117, 112] : List UInt8) then (if (wrap64 (b + (if r.1 < 2 then 0 else r.1 - 5))) ≤ a then (some (([] : List Int), 0, 3)) else (if (wrap64 (b + (if r.1 < 2 then 0 else r.1 - 5))) > w then (some (([] : List Int), 0, 3)) else ((incunableref06_paint.f k out (wrap64 (b + (if r.1 < 2 then 0 else r.1 - 5))) col).bind fun t505 => (incunableref06_twoRow.l0 k l r.2.2 ab w t505 (wrap64 (b + (if r.1 < 2 then 0 else r.1 - 5))) (wrap64 (1 - col)))))) else
   (flR k l r.2.2 ab w out a col (mx a 0))))) P → EvP (fun k => incunableref06_twoRow.j1 k l p ab w out a col true) P := by
   intro P hQ
   refine EvP.step (fun k => by rw [incunableref06_twoRow.j1]) (EvP.pos rfl ?_)
   refine EvP.bind hT ?_
   rintro _ rfl
   refine EvP.pos rfl ?_
   refine EvP.bind g6 ?_
   rintro _ rfl
   refine EvP.bind g7 ?_
   rintro _ rfl
   exact hQ
  by_cases i1' : r.1 = 1
  ·obtain ⟨s, s1, s2, s3⟩ := flat_pair hl w0 w1 ab (p := r.2.2) (by omega) q1 a0 a1 hc ho hx
   refine ⟨s, prog (EvP.pos i1' s1), fun P hQ => refr ?_, fun v hv => ?_⟩
   ·rw [i1']
    exact EvP.neg (by decide +kernel) (EvP.neg (by decide +kernel) (s2 P hQ))
   ·obtain ⟨x1, x2⟩ := s3 v hv
    exact ⟨by omega, x2⟩
  ·by_cases i0' : r.1 = 0
   ·by_cases c : b2 = w
    ·refine ⟨.error 3, prog (EvP.neg i1' (EvP.pos i0' (EvP.pos c (EvP.ret ⟨by omega, rfl⟩)))), fun P hQ => refr ?_, fun v hv => by cases hv⟩
     rw [i0']
     exact EvP.pos (by decide +kernel) (EvP.pos (by omega) (EvP.ret hQ))
    ·refine ⟨.ok (r.2.2, b2, col, grow06 out b2 col), prog (EvP.neg i1' (EvP.pos i0' (EvP.neg c ?_))), fun P hQ => refr ?_, fun v hv => ?_⟩
     ·refine EvP.bind (fill_is (by omega) (by omega) hc) ?_
      rintro _ rfl
      exact EvP.ret rfl
     ·rw [i0']
      refine EvP.pos (by decide +kernel) (EvP.neg (by omega) ?_)
      refine EvP.bind (paintTo_is (by omega) (by omega) hc) ?_
      rintro _ rfl
      exact hQ
     ·cases hv
      exact ⟨q0, q1, by show a < b2; omega, by show 0 ≤ b2; omega, by show b2 ≤ w; omega, hc, grow06_len (by omega), grow06_01 hx hc⟩
   ·have hk : kindW r.1 = ⟨#[117, 112]⟩ := by unfold kindW; rw [if_neg i0', if_neg i1']
    have w5 : wrap64 (wrap64 (b + r.1) - 5) = b + (r.1 - 5) := by rw [w64 (x := b + r.1) (by omega) (by omega), w64 (by omega) (by omega)]; omega
    have w6 : wrap64 (b + (if r.1 < 2 then 0 else r.1 - 5)) = b + (r.1 - 5) := by rw [if_neg (by omega), w64 (by omega) (by omega)]
    have wC : wrap64 (1 - col) = 1 - col := w64 (by omega) (by omega)
    rw [w5, wC] at prog
    rw [hk, w6, wC] at refr
    have k1 : ¬ ((⟨#[117, 112]⟩ : ByteArray).toList = ([112, 97, 115, 115] : List UInt8)) := by decide +kernel
    have k2 : (⟨#[117, 112]⟩ : ByteArray).toList = ([117, 112] : List UInt8) := by decide +kernel
    by_cases c : b + (r.1 - 5) ≤ a
    ·exact ⟨.error 3, prog (EvP.neg i1' (EvP.neg i0' (EvP.pos c (EvP.ret ⟨by omega, rfl⟩)))), fun P hQ => refr (EvP.neg k1 (EvP.pos k2 (EvP.pos c (EvP.ret hQ)))), fun v hv => by cases hv⟩
    ·by_cases d : b + (r.1 - 5) > w
     ·exact ⟨.error 3, prog (EvP.neg i1' (EvP.neg i0' (EvP.neg c (EvP.pos d (EvP.ret ⟨by omega, rfl⟩))))), fun P hQ => refr (EvP.neg k1 (EvP.pos k2 (EvP.neg c (EvP.pos d (EvP.ret hQ))))), fun v hv => by cases hv⟩
     ·refine ⟨.ok (r.2.2, b + (r.1 - 5), 1 - col, grow06 out (b + (r.1 - 5)) col), prog (EvP.neg i1' (EvP.neg i0' (EvP.neg c (EvP.neg d ?_)))), fun P hQ => refr (EvP.neg k1 (EvP.pos k2 (EvP.neg c (EvP.neg d ?_)))), fun v hv => ?_⟩
      ·refine EvP.bind (fill_is (by omega) (by omega) hc) ?_
       rintro _ rfl
       exact EvP.ret rfl
      ·refine EvP.bind (paintTo_is (by omega) (by omega) hc) ?_
       rintro _ rfl
       exact hQ
      ·cases hv
       exact ⟨q0, q1, by show a < b + (r.1 - 5); omega, by show 0 ≤ b + (r.1 - 5); omega, by show b + (r.1 - 5) ≤ w; omega, by show 1 - col = 0 ∨ 1 - col = 1; omega, grow06_len (by omega), grow06_01 hx hc⟩
 ·have hT : EvP (fun k => incunableref06_take.f k l p) (· = (⟨#[]⟩, 0, 0, r.2.1)) := hT.mono (fun q hq => by unfold RT at hq; rwa [if_neg e] at hq)
  refine ⟨.error r.2.1, ?_, fun P hQ => ?_, fun v hv => by cases hv⟩
  ·unfold runs_mode.f
   refine EvP.bind hW ?_
   rintro _ rfl
   exact EvP.neg e (EvP.ret ⟨e, rfl⟩)
  ·refine EvP.step (fun k => by rw [incunableref06_twoRow.j1]) (EvP.pos rfl ?_)
   refine EvP.bind hT ?_
   rintro _ rfl
   exact EvP.neg e (EvP.ret hQ)
theorem two_pair {l : List Int} (hl : Byt06 l) {w : Int} (w0 : 0 ≤ w) (w1 : w ≤ 200) {ab : List Int} (ha : Px ab) (hab : (ab.length : Int) = w) : ∀ (d : Nat) (p a col : Int) (out : List Int), w - a ≤ d → 0 ≤ p → p ≤ en l → -1 ≤ a → a ≤ w → (col = 0 ∨ col = 1) → (out.length : Int) = max a 0 → (∀ y ∈ out, y = 0 ∨ y = 1) →
  ∃ s : Except Int (List Int × Int), EvP (fun k => runs_reader_two.l0 k l w ab p true a col out) (PO s) ∧ EvP (fun k => incunableref06_twoRow.l0 k l p ab w out a col) (RO s) ∧ ∀ v, s = .ok v → Row06 l w p v := by
 intro d
 induction d with
 | zero =>
  intro p a col out hd p0 p1 a0 a1 hc ho hx
  refine ⟨.ok (out, p), ?_, ?_, fun v hv => ?_⟩
  ·exact EvP.step (fun k => by rw [runs_reader_two.l0]) (EvP.neg (by omega) (EvP.ret rfl))
  ·refine EvP.step (fun k => by rw [incunableref06_twoRow.l0]) (EvP.neg (by omega) ?_)
   refine EvP.step (fun k => by rw [incunableref06_twoRow.j1]) (EvP.neg (by simp) (EvP.ret rfl))
  ·cases hv; exact ⟨by show (out.length : Int) = w; omega, hx, Int.le_refl _, p1⟩
 | succ d ih =>
  intro p a col out hd p0 p1 a0 a1 hc ho hx
  by_cases c : a < w
  ·by_cases z : w > 0
   ·obtain ⟨s, s1, s2, s3⟩ := mode_pair hl z w1 ha hab p0 p1 a0 c hc ho hx
    have refr : ∀ {P : List Int × Int × Int → Prop}, EvP (fun k => incunableref06_twoRow.j1 k l p ab w out a col true) P → EvP (fun k => incunableref06_twoRow.l0 k l p ab w out a col) P := by
     intro P hQ
     refine EvP.step (fun k => by rw [incunableref06_twoRow.l0]) (EvP.pos c ?_)
     rw [decide_eq_true z]
     exact hQ
    cases hs : s with
    | error e =>
     rw [hs] at s1 s2
     have he : e ≠ 0 := by
      obtain ⟨r, _, h1, _⟩ := s1
      exact h1
     refine ⟨.error e, ?_, refr (s2 _ ⟨he, rfl⟩), fun v hv => by cases hv⟩
     refine EvP.step (fun k => by rw [runs_reader_two.l0]) (EvP.pos c (EvP.pos z ?_))
     refine EvP.bind s1 ?_
     rintro r ⟨h1, h2⟩
     exact EvP.neg (by rw [h2]; exact h1) (EvP.ret ⟨h1, h2⟩)
    | ok v =>
     rw [hs] at s1 s2
     obtain ⟨m1, m2, m3, m4, m5, m6, m7, m8⟩ := s3 v hs
     obtain ⟨t, t1, t2, t3⟩ := ih v.1 v.2.1 v.2.2.1 v.2.2.2 (by omega) (by omega) m2 (by omega) m5 m6 (by omega) m8
     refine ⟨t, ?_, refr (s2 _ t2), fun u hu => ?_⟩
     ·refine EvP.step (fun k => by rw [runs_reader_two.l0]) (EvP.pos c (EvP.pos z ?_))
      refine EvP.bind s1 ?_
      intro r hr
      have hr : r = (0, v.1, true, v.2.1, v.2.2.1, v.2.2.2) := hr
      subst hr
      exact EvP.pos rfl t1
     ·obtain ⟨x1, x2, x3, x4⟩ := t3 u hu
      exact ⟨x1, x2, by omega, x4⟩
   ·refine ⟨.ok (out, p), ?_, ?_, fun v hv => ?_⟩
    ·exact EvP.step (fun k => by rw [runs_reader_two.l0]) (EvP.pos c (EvP.neg z (EvP.ret rfl)))
    ·refine EvP.step (fun k => by rw [incunableref06_twoRow.l0]) (EvP.pos c ?_)
     rw [decide_eq_false z]
     refine EvP.step (fun k => by rw [incunableref06_twoRow.j1]) (EvP.neg (by simp) (EvP.ret rfl))
    ·cases hv; exact ⟨by show (out.length : Int) = w; omega, hx, Int.le_refl _, p1⟩
  ·refine ⟨.ok (out, p), ?_, ?_, fun v hv => ?_⟩
   ·exact EvP.step (fun k => by rw [runs_reader_two.l0]) (EvP.neg c (EvP.ret rfl))
   ·refine EvP.step (fun k => by rw [incunableref06_twoRow.l0]) (EvP.neg c ?_)
    refine EvP.step (fun k => by rw [incunableref06_twoRow.j1]) (EvP.neg (by simp) (EvP.ret rfl))
   ·cases hv; exact ⟨by show (out.length : Int) = w; omega, hx, Int.le_refl _, p1⟩
instance (w h : Int) (p : List Int) : Decidable (Val w h p) := by unfold Val; exact inferInstance
theorem sid_mul {w h : Int} (hw : 0 ≤ w) (hh : 0 ≤ h) (hw' : w ≤ 200) (hh' : h ≤ 200) : 0 ≤ w * h ∧ w * h ≤ 40000 := by
 have h1 : 0 ≤ w * h := Int.mul_nonneg hw hh
 have h2 : w * h ≤ 200 * h := Int.mul_le_mul_of_nonneg_right hw' hh
 omega
theorem fits_is (w h : Int) : bitmap_fits.f w h = some (decide (Sid w h)) := by
 unfold bitmap_fits.f
 by_cases h1 : 0 ≤ w ∧ 0 ≤ h ∧ w ≤ 200 ∧ h ≤ 200
 ·obtain ⟨a, b, c, d⟩ := h1
  have := sid_mul a b c d
  rw [if_pos (by omega), if_pos (by omega), if_pos c, if_pos d, w64 (by omega) (by omega)]
  simp [Sid, a, b, c, d]
 ·have h2 : ¬ Sid w h := fun s => h1 ⟨s.1, s.2.1, s.2.2.1, s.2.2.2.1⟩
  simp only [h2, decide_false]
  split
  ·split
   ·split
    ·split
     ·omega
     ·rfl
    ·rfl
   ·rfl
  ·rfl
theorem isSize06_is (w h : Int) : incunableref06_IsSize.f w h = some (decide (Sid w h)) := by
 unfold incunableref06_IsSize.f
 by_cases h1 : 0 ≤ w ∧ 0 ≤ h ∧ w ≤ 200 ∧ h ≤ 200
 ·obtain ⟨a, b, c, d⟩ := h1
  have := sid_mul a b c d
  rw [if_pos (by omega), if_pos (by omega), if_pos (by omega), if_pos d, w64 (by omega) (by omega)]
  simp [Sid, a, b, c, d]
 ·have h2 : ¬ Sid w h := fun s => h1 ⟨s.1, s.2.1, s.2.2.1, s.2.2.2.1⟩
  simp only [h2, decide_false]
  split
  ·split
   ·split
    ·split
     ·omega
     ·rfl
    ·rfl
   ·rfl
  ·rfl
theorem SameBitmap06_is (w h : Int) (l : List Int) (hl : (l.length : Int) ≤ 9223372036854775806) : EvP (fun k => incunableref06_SameBitmap.f k w h l w h l) (· = true) := by
 unfold incunableref06_SameBitmap.f
 refine EvP.pos rfl (EvP.pos rfl ?_)
 refine EvP.step (fun k => by rw [incunableref06_SameBitmap.j0]) (EvP.neg (by simp) ?_)
 refine EvP.up (L := fun k i (_ : Unit) => incunableref06_SameBitmap.l0 k (l.length : Int) i w h l w h l) (fun i _ => 0 ≤ i) l.length ?_ 0 () (by omega) (by omega)
 intro i _ i0 hn ih
 refine EvP.step (fun k => by rw [incunableref06_SameBitmap.l0]) ?_
 refine EvP.ite (fun i1 => EvP.pos i0 (EvP.pos i1 (EvP.pos i1 (EvP.pos rfl ?_)))) (fun _ => EvP.ret rfl)
 rw [w64 (x := i + 1) (by omega) (by omega)]
 exact ih () i1 (by omega)
def PG (w h : Int) (s : Except Int (List Int × Int)) (r : Int × Int × List Int × Int × Int) : Prop := match s with
 | .error e => e ≠ 0 ∧ r = (0, 0, [], 0, e)
 | .ok v => r = (w, h, v.1, v.2, 0)
theorem blank_is (w h : Int) : bitmap_blank.f w h = some (if Sid w h then (w, h, tab w h (fun _ _ => 0), 0) else (0, 0, [], 4)) := by
 unfold bitmap_blank.f
 rw [fits_is, Option.bind_some]
 by_cases s : Sid w h
 ·have hm := sid_mul s.1 s.2.1 s.2.2.1 s.2.2.2.1
  rw [if_pos (decide_eq_true s), if_pos s, w64 (by omega) (by omega), if_pos (by omega), if_pos (by omega), replicate_tab s.1 s.2.1]
 ·rw [if_neg (by simpa using s), if_neg s]
def newR (w h c : Int) : Int × Int × List Int × Int := if w < 0 ∨ h < 0 ∨ (c ≠ 0 ∧ c ≠ 1) then (0, 0, [], 2) else if Sid w h then (w, h, tab w h (fun _ _ => c), 0) else (0, 0, [], 4)
theorem New_j0 (w h c : Int) (b : Bool) (hb : b = true ↔ (w < 0 ∨ h < 0 ∨ (c ≠ 0 ∧ c ≠ 1))) : EvP (fun k => bitmap_New.j0 k w h c b) (· = newR w h c) := by
 refine EvP.step (fun k => by rw [bitmap_New.j0]) ?_
 refine EvP.ite (fun h1 => EvP.ret ?_) (fun h1 => ?_)
 ·unfold newR
  rw [if_pos (hb.mp h1)]
 ·have hn : ¬ (w < 0 ∨ h < 0 ∨ (c ≠ 0 ∧ c ≠ 1)) := fun q => h1 (hb.mpr q)
  unfold newR
  rw [if_neg hn]
  refine EvP.bindv (blank_is w h) ?_
  by_cases s : Sid w h
  ·simp only [if_pos s]
   have hm := sid_mul s.1 s.2.1 s.2.2.1 s.2.2.2.1
   have hlen : ((tab w h fun _ _ => (0 : Int)).length : Int) = w * h := by rw [tab_length]; omega
   refine EvP.fill (L := fun k i l => bitmap_New.l0 k c 0 ((tab w h fun _ _ => 0).length : Int) i w h l) (tab w h fun _ _ => 0) (fun _ => c) ?_ ?_
   ·intro i l h0 h2 hl hr hk
    refine EvP.step (fun k => by rw [bitmap_New.l0]) ?_
    refine EvP.pos h2 (EvP.pos h0 (EvP.pos (by omega) ?_))
    rw [w64 (by omega) (by omega), show c % 256 = c by omega]
    exact hk
   ·refine EvP.step (fun k => by rw [bitmap_New.l0]) ?_
    refine EvP.neg (by omega) (EvP.ret ?_)
    rw [lmap_tab (w := w) (h := h) (g := fun _ _ => c) s.1 s.2.1 (by omega) (fun _ _ _ _ _ _ => rfl)]
  ·simp only [if_neg s]
   refine EvP.step (fun k => by rw [bitmap_New.l0]) ?_
   exact EvP.neg (by simp) (EvP.ret rfl)
theorem New_is (w h c : Int) : EvP (fun k => bitmap_New.f k w h c) (· = newR w h c) := by
 unfold bitmap_New.f
 refine EvP.ite (fun h1 => New_j0 w h c true (by simp [h1])) (fun h1 => ?_)
 refine EvP.ite (fun h2 => New_j0 w h c true (by simp [h2])) (fun h2 => ?_)
 refine EvP.ite (fun h3 => New_j0 w h c _ (by simp; omega)) (fun h3 => New_j0 w h c _ (by simp; omega))
theorem getTwo_pair {l : List Int} (hl : Byt06 l) {w h : Int} (hs : Sid w h) : ∀ (d : Nat) (y p : Int) (pix ab : List Int), h - y = d → 0 ≤ y → (pix.length : Int) = y * w → (∀ x ∈ pix, x = 0 ∨ x = 1) → 0 ≤ p → p ≤ en l → Px ab → (ab.length : Int) = w →
  ∃ s : Except Int (List Int × Int), EvP (fun k => runs_read56.l0 k l w h p true ab y pix) (PG w h s) ∧ EvP (fun k => incunableref06_Get.l0 k l w h true ab p y w h pix) (PG w h s) ∧ ∀ v, s = .ok v → (v.1.length : Int) = w * h ∧ (∀ x ∈ v.1, x = 0 ∨ x = 1) ∧ p ≤ v.2 ∧ v.2 ≤ en l := by
 obtain ⟨w0, h0, w1, h1, wh⟩ := hs
 intro d
 induction d with
 | zero =>
  intro y p pix ab hd y0 hp hx p0 p1 hab hal
  refine ⟨.ok (pix, p), ?_, ?_, fun v hv => ?_⟩
  ·refine EvP.step (fun k => by rw [runs_read56.l0]) (EvP.neg (by omega) ?_)
   exact EvP.bindv (a := (p, p, true)) (by simp [bits_Reader_At.f, bits_Reader_none.f]) (EvP.ret rfl)
  ·exact EvP.step (fun k => by rw [incunableref06_Get.l0]) (EvP.neg (by omega) (EvP.ret rfl))
  ·cases hv
   exact ⟨by show (pix.length : Int) = w * h; rw [hp, show y = h by omega, Int.mul_comm], hx, Int.le_refl _, p1⟩
 | succ d ih =>
  intro y p pix ab hd y0 hp hx p0 p1 hab hal
  obtain ⟨s, s1, s2, s3⟩ := two_pair hl w0 w1 hab hal (w + 1).toNat p (-1) 0 [] (by omega) p0 p1 (by omega) (by omega) (by omega) (by show (0 : Int) = max (-1) 0; decide) (by simp)
  have s2 : EvP (fun k => incunableref06_twoRow.f k l p ab) (RO s) := by
   unfold incunableref06_twoRow.f
   rw [hal]
   exact s2
  have hm : y * w ≤ 40000 := by
   have := sid_mul (w := y) (h := w) y0 w0 (by omega) w1
   omega
  cases hs' : s with
  | error e =>
   rw [hs'] at s1 s2
   refine ⟨.error e, ?_, ?_, fun v hv => by cases hv⟩
   ·refine EvP.step (fun k => by rw [runs_read56.l0]) (EvP.pos (by omega) ?_)
    refine EvP.bind (Q := PO (.error e)) s1 ?_
    rintro r ⟨e1, e2⟩
    refine EvP.neg (by rw [e2]; exact e1) (EvP.ret ⟨e1, by rw [e2]⟩)
   ·refine EvP.step (fun k => by rw [incunableref06_Get.l0]) (EvP.pos (by omega) (EvP.pos rfl ?_))
    refine EvP.bind (Q := RO (.error e)) s2 ?_
    rintro r ⟨e1, e2⟩
    refine EvP.neg (by rw [e2]; exact e1) (EvP.ret ⟨e1, by rw [e2]⟩)
  | ok v =>
   rw [hs'] at s1 s2
   obtain ⟨v1, v2, v3, v4⟩ := s3 v hs'
   obtain ⟨u, u1, u2, u3⟩ := ih (y + 1) v.2 (pix ++ v.1) v.1 (by omega) (by omega) (by rw [List.length_append, Int.natCast_add, hp, v1, Int.add_mul, Int.one_mul]) (fun x hx' => (List.mem_append.mp hx').elim (hx x) (v2 x)) (by omega) v4 ⟨by omega, v2⟩ v1
   refine ⟨u, ?_, ?_, fun z hz => ?_⟩
   ·refine EvP.step (fun k => by rw [runs_read56.l0]) (EvP.pos (by omega) ?_)
    refine EvP.bind (Q := PO (.ok v)) s1 ?_
    intro r hr
    have hr : r = (v.1, 0, v.2, true) := hr
    subst hr
    refine EvP.pos rfl (EvP.pos (by simp only; omega) ?_)
    rw [w64 (x := y + 1) (by omega) (by omega)]
    exact u1
   ·refine EvP.step (fun k => by rw [incunableref06_Get.l0]) (EvP.pos (by omega) (EvP.pos rfl ?_))
    refine EvP.bind (Q := RO (.ok v)) s2 ?_
    intro r hr
    have hr : r = (v.1, v.2, 0) := hr
    subst hr
    refine EvP.pos rfl (EvP.pos (by simp only; omega) ?_)
    rw [w64 (x := y + 1) (by omega) (by omega)]
    exact u2
   ·obtain ⟨z1, z2, z3, z4⟩ := u3 z hz
    exact ⟨z1, z2, by omega, z4⟩
theorem GetTwo_pair {l : List Int} (hl : Byt06 l) (w h : Int) : ∃ s : Except Int (List Int × Int), EvP (fun k => runs_GetTwo.f k l w h) (PG w h s) ∧ EvP (fun k => incunableref06_GetTwo.f k l w h) (PG w h s) ∧ ∀ v, s = .ok v → Sid w h ∧ (v.1.length : Int) = w * h ∧ (∀ x ∈ v.1, x = 0 ∨ x = 1) ∧ 0 ≤ v.2 ∧ v.2 ≤ en l := by
 have h2 := hl.2
 by_cases hs : Sid w h
 ·obtain ⟨w0, h0, w1, h1, wh⟩ := id hs
  obtain ⟨s, s1, s2, s3⟩ := getTwo_pair hl hs h.toNat 0 0 [] (List.replicate w.toNat 0) (by omega) (by omega) (by simp) (by simp) (by omega) (by unfold en; omega) ⟨by simp; omega, fun y hy => .inl (List.mem_replicate.mp hy).2⟩ (by simp; omega)
  refine ⟨s, ?_, ?_, fun v hv => ⟨hs, s3 v hv⟩⟩
  ·unfold runs_GetTwo.f runs_read56.f
   refine EvP.bind (New_is w h 0) ?_
   rintro _ rfl
   unfold newR
   rw [if_neg (by omega), if_pos hs]
   exact EvP.pos rfl (EvP.pos w0 (EvP.pos (by omega) (EvP.pos (by omega) s1)))
  ·unfold incunableref06_GetTwo.f incunableref06_Get.f
   have main : EvP (fun k => (incunableref06_IsSize.f w h).bind fun t533 => (if t533 = true then (if 0 ≤ w then (if (w : Int).toNat ≤ 281474976710656 then (incunableref06_Get.l0 k l w h true (List.replicate (w : Int).toNat 0) 0 0 w h ([] : List Int)) else (none)) else (none)) else (some (0, 0, ([] : List Int), 0, 2)))) (PG w h s) := by
    refine EvP.bindv (isSize06_is w h) ?_
    rw [decide_eq_true hs]
    exact EvP.pos rfl (EvP.pos w0 (EvP.pos (by omega) s2))
   exact EvP.bind main (fun r hr => EvP.ret hr)
 ·refine ⟨.error 2, ?_, ?_, fun v hv => by cases hv⟩
  ·unfold runs_GetTwo.f runs_read56.f
   refine EvP.bind (New_is w h 0) ?_
   rintro _ rfl
   refine EvP.neg ?_ (EvP.ret ⟨by omega, rfl⟩)
   unfold newR
   split
   ·decide
   ·first | decide | (rw [if_neg hs]; decide)
  ·unfold incunableref06_GetTwo.f incunableref06_Get.f
   have main : EvP (fun k => (incunableref06_IsSize.f w h).bind fun t533 => (if t533 = true then (if 0 ≤ w then (if (w : Int).toNat ≤ 281474976710656 then (incunableref06_Get.l0 k l w h true (List.replicate (w : Int).toNat 0) 0 0 w h ([] : List Int)) else (none)) else (none)) else (some (0, 0, ([] : List Int), 0, 2)))) (PG w h (.error 2)) := by
    refine EvP.bindv (isSize06_is w h) ?_
    rw [decide_eq_false hs]
    exact EvP.neg (by simp) (EvP.ret ⟨by omega, rfl⟩)
   exact EvP.bind main (fun r hr => EvP.ret hr)
def Byt (p : List Int) : Prop := ∀ x ∈ p, 0 ≤ x ∧ x ≤ 255
theorem wf_byt {p : List Int} (h : ∀ y ∈ p, (Lit.int .u8 y).wf = true) : Byt p := fun x hx => by
 have h1 : (decide (IntKind.u8.min ≤ x) && decide (x ≤ IntKind.u8.max)) = true := h x hx
 obtain ⟨a, b⟩ := Bool.and_eq_true_iff.mp h1
 exact ⟨of_decide_eq_true a, of_decide_eq_true b⟩
theorem byt06 {l : List Int} (g : l.length ≤ 9223372036854775807 ∧ l.length * 1 ≤ 140737488351232 ∧ ∀ y0_ ∈ l, (Lit.int .u8 y0_).wf = true) : Byt06 l := ⟨fun y hy => wf_byt g.2.2 y hy, by omega⟩
theorem RunsGetTwo : incunablelaw06_RunsGetTwo.Pure := by
 intro l w h g0 g1 g2
 have hl := byt06 g0
 have awake : EvP (fun k => (incunablelaw06_Awake.f k).bind fun t => some t) (· = true) := EvP.bind Awake06_is (by rintro _ rfl; exact EvP.ret rfl)
 refine EvP.rounds (g := fun k => incunablelaw06_RunsGetTwo.f k l w h) ?_
 unfold incunablelaw06_RunsGetTwo.f
 refine EvP.ite (fun c => awake) (fun c => ?_)
 obtain ⟨s, s1, s2, s3⟩ := GetTwo_pair hl w h
 refine EvP.bind s1 (fun r hr => EvP.bind s2 (fun q hq => ?_))
 have e : r = q := by
  cases s with
  | error e => rw [hr.2, hq.2]
  | ok v => exact (show r = _ from hr).trans (show q = _ from hq).symm
 have hlen : (q.2.2.1.length : Int) ≤ 9223372036854775806 := by
  cases s with
  | error e => rw [hq.2]; simp
  | ok v =>
   obtain ⟨sid, z, _⟩ := s3 v rfl
   rw [show q = _ from hq]
   have := sid.2.2.2.2
   show (v.1.length : Int) ≤ _
   omega
 subst e
 refine EvP.pos rfl (EvP.pos rfl ?_)
 refine EvP.bind (SameBitmap06_is _ _ _ hlen) ?_
 rintro _ rfl
 exact EvP.pos rfl awake
end Go.Proofs.YtknclbodinfbeaaDoor.Pure
