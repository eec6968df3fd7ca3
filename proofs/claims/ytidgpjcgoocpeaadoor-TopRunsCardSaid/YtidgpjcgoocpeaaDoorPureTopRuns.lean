/- TopRuns: a bitmap in one dimension is the runs of its rows, and its first rows are coded first; pure text. No conditions. -/
import Derived.Test.YtidgpjcgoocpeaaDoorPTopRunsx17
import Derived.Test.YtidgpjcgoocpeaaDoorQBase
namespace Go.Proofs.YtidgpjcgoocpeaaDoor.Pure
open Go.RowKit Go.Proofs.YtidgpjcgoocpeaaDoor.PTopRuns Go.Proofs.YtidgpjcgoocpeaaDoorW.PrintWords Go.Proofs.YtidgpjcgoocpeaaDoorW.PrintLast Go.Proofs.YtidgpjcgoocpeaaDoorW.PrintMore Go.Proofs.YtidgpjcgoocpeaaDoorW.Pu
set_option linter.unusedVariables false
set_option linter.unusedSimpArgs false
theorem EvP.of {α : Type} {g : Nat → Option α} {r : α} (m : ∀ k, LeO (g k) (g (k + 1))) {k : Nat} (h : g k = some r) : EvP g (· = r) := ⟨r, Ev.of m h, rfl⟩
theorem drop_rd {l : List Int} {i : Int} (h0 : 0 ≤ i) (h1 : i < (l.length : Int)) : l.drop i.toNat = rd l i :: l.drop (i + 1).toNat := by
 have h : i.toNat < l.length := by omega
 rw [show (i + 1).toNat = i.toNat + 1 by omega, List.drop_eq_getElem_cons h]
 congr 1
 have := rd_get l i.toNat h
 rw [show ((i.toNat : Nat) : Int) = i by omega] at this
 exact this.symm
theorem drop_end {l : List Int} {i : Int} (h1 : (l.length : Int) ≤ i) : l.drop i.toNat = [] := List.drop_eq_nil_of_le (by omega)
theorem awake06 : incunablelaw06_Awake.f 200 = some true := by decide +kernel
theorem Awake06_is : EvP (fun k => incunablelaw06_Awake.f k) (· = true) := EvP.of incunablelaw06_Awake.mono awake06
def bitI (l : List Int) (i : Int) : Int := Int.tmod (shr .u8 (rd l (i / 8)) (7 - i % 8)) 2
def Byt06 (l : List Int) : Prop := (∀ y ∈ l, 0 ≤ y ∧ y ≤ 255) ∧ (l.length : Int) ≤ 140737488351232
def en (l : List Int) : Int := 8 * (l.length : Int)
theorem bit_good : (List.range 256).all (fun v => (List.range 8).all fun j => decide (0 ≤ shr .u8 (v : Int) (7 - (j : Int))) && decide (shr .u8 (v : Int) (7 - (j : Int)) ≤ 255) && decide (Go.bits .and .u8 (shr .u8 (v : Int) (7 - (j : Int))) 1 = Int.tmod (shr .u8 (v : Int) (7 - (j : Int))) 2) && (decide (Int.tmod (shr .u8 (v : Int) (7 - (j : Int))) 2 = 0) || decide (Int.tmod (shr .u8 (v : Int) (7 - (j : Int))) 2 = 1))) = true := by decide +kernel
theorem bit_at {l : List Int} (hl : Byt06 l) {i : Int} (i0 : 0 ≤ i) (i1 : i < en l) :
  0 ≤ shr .u8 (rd l (i / 8)) (7 - i % 8) ∧ shr .u8 (rd l (i / 8)) (7 - i % 8) ≤ 255 ∧ Go.bits .and .u8 (shr .u8 (rd l (i / 8)) (7 - i % 8)) 1 = bitI l i ∧ (bitI l i = 0 ∨ bitI l i = 1) := by
 unfold en at i1
 obtain ⟨v0, v1⟩ := hl.1 _ (rd_mem (l := l) (i := i / 8) (by omega) (by omega))
 have g := List.all_eq_true.mp (List.all_eq_true.mp bit_good (rd l (i / 8)).toNat (List.mem_range.mpr (by omega))) (i % 8).toNat (List.mem_range.mpr (by omega))
 rw [show (((rd l (i / 8)).toNat : Nat) : Int) = rd l (i / 8) by omega, show (((i % 8).toNat : Nat) : Int) = i % 8 by omega] at g
 simp only [Bool.and_eq_true, Bool.or_eq_true, decide_eq_true_iff] at g
 exact ⟨g.1.1.1, g.1.1.2, g.1.2, g.2⟩
def valN (l : List Int) (p : Int) : Nat → Int → Int
 | 0, a => a
 | n + 1, a => valN l (p + 1) n (2 * a + bitI l p)
theorem BitsL_is {l : List Int} (hl : Byt06 l) (n : Nat) : ∀ (m : Nat) (j a p : Int), j + m = n → 0 ≤ j → n ≤ 32 → 0 ≤ p → p + m ≤ en l → 0 ≤ a → a < 2 ^ j.toNat →
  EvP (fun k => bits_Reader_Bits.l0 k a (n : Int) j l p true) (· = (valN l p m a, 0, p + m, true)) := by
 intro m
 induction m with
 | zero =>
  intro j a p hj j0 hn p0 hp a0 a1
  refine EvP.step (fun k => by rw [bits_Reader_Bits.l0]) (EvP.neg (by omega) (EvP.ret ?_))
  simp [valN]
 | succ m ih =>
  intro j a p hj j0 hn p0 hp a0 a1
  have h2 := hl.2
  have p1 : p < en l := by omega
  obtain ⟨s0, s1, s2, s3⟩ := bit_at hl p0 p1
  unfold en at hp p1
  have jl : (2 : Int) ^ j.toNat ≤ 2 ^ 32 := by
   have := Nat.pow_le_pow_right (n := 2) (by omega) (show j.toNat ≤ 32 by omega)
   exact_mod_cast this
  have jl' : (2 : Int) ^ 32 = 4294967296 := by decide
  refine EvP.step (fun k => by rw [bits_Reader_Bits.l0]) (EvP.pos (by omega) ?_)
  rw [tdiv_pos p0, tmod_pos p0, w64 (x := p / 8) (by omega) (by omega), w64 (x := 7 - p % 8) (by omega) (by omega), s2, w64 (x := 2 * a) (by omega) (by omega), w64 (x := bitI l p) (by omega) (by omega), w64 (x := j + 1) (by omega) (by omega), w64 (x := p + 1) (by omega) (by omega), w64 (x := 2 * a + bitI l p) (by omega) (by omega)]
  refine EvP.pos (by omega) (EvP.pos (by omega) (EvP.pos (by omega) ?_))
  have e : (2 : Int) ^ (j + 1).toNat = 2 * 2 ^ j.toNat := by rw [show (j + 1).toNat = j.toNat + 1 by omega, Int.pow_succ]; omega
  refine (ih (j + 1) (2 * a + bitI l p) (p + 1) (by omega) (by omega) hn (by omega) (by unfold en; omega) (by omega) (by rw [e]; omega)).mono ?_
  rintro r rfl
  rw [valN]
  congr 3
  omega
theorem Bits_is {l : List Int} (hl : Byt06 l) {n p : Int} (n0 : 0 ≤ n) (n1 : n ≤ 32) (p0 : 0 ≤ p) (p1 : p ≤ en l) :
  EvP (fun k => bits_Reader_Bits.f k l p true n) (· = if en l - p < n then (0, 6, p, true) else (valN l p n.toNat 0, 0, p + n, true)) := by
 have h2 := hl.2
 unfold bits_Reader_Bits.f
 refine EvP.bindv (a := (false, p, true)) rfl (EvP.neg (by simp) (EvP.neg (by omega) ?_))
 rw [show decide (n > 32) = false by simpa using n1]
 refine EvP.step (fun k => by rw [bits_Reader_Bits.j0]) (EvP.neg (by simp) ?_)
 refine EvP.bindv (a := (en l - p, p, true)) ?_ ?_
 ·unfold bits_Reader_Left.f bits_Reader_none.f en
  unfold en at p1
  simp only [Option.bind_some, Bool.not_true, Bool.false_eq_true, if_false]
  rw [w64 (x := 8 * (l.length : Int)) (by omega) (by omega), w64 (by omega) (by omega)]
 ·by_cases c : en l - p < n
  ·rw [if_pos c]
   exact EvP.pos (by show n > en l - p; omega) (EvP.ret rfl)
  ·rw [if_neg c]
   refine EvP.neg (by show ¬ n > en l - p; omega) ?_
   have := BitsL_is hl n.toNat n.toNat 0 0 p (by omega) (by omega) (by omega) p0 (by omega) (by omega) (by decide)
   rw [show ((n.toNat : Nat) : Int) = n by omega] at this
   exact this
theorem valN_bound {l : List Int} (hl : Byt06 l) : ∀ (m : Nat) (p a : Int), 0 ≤ p → p + m ≤ en l → 0 ≤ a → 0 ≤ valN l p m a ∧ valN l p m a < (a + 1) * 2 ^ m := by
 intro m
 induction m with
 | zero => intro p a p0 hp a0; simp [valN]; omega
 | succ m ih =>
  intro p a p0 hp a0
  obtain ⟨s0, s1, s2, s3⟩ := bit_at hl (i := p) p0 (by omega)
  obtain ⟨q0, q1⟩ := ih (p + 1) (2 * a + bitI l p) (by omega) (by omega) (by omega)
  rw [valN]
  refine ⟨q0, Int.lt_of_lt_of_le q1 ?_⟩
  rw [Int.pow_succ, show (a + 1) * (2 ^ m * 2) = (2 * (a + 1)) * 2 ^ m by rw [Int.mul_comm ((2 : Int) ^ m) 2, ← Int.mul_assoc, Int.mul_comm (a + 1) 2]]
  exact Int.mul_le_mul_of_nonneg_right (by omega) (Int.pow_nonneg (by omega))
inductive Tr06 where
 | leaf (i : Nat)
 | bad
 | node (a b : Tr06)
def Tr06.run (l : List Int) : Tr06 → Int → Int × Int × Int
 | .leaf i, p => ((i : Int), 0, p)
 | .bad, p => (0, 3, p)
 | .node a b, p => if en l ≤ p then (0, 6, p) else if bitI l p = 0 then a.run l (p + 1) else b.run l (p + 1)
theorem Tr06.run_place (l : List Int) : ∀ (t : Tr06) (p : Int), 0 ≤ p → p ≤ en l → p ≤ (t.run l p).2.2 ∧ (t.run l p).2.2 ≤ en l := by
 intro t
 induction t with
 | leaf i => intro p h0 h1; exact ⟨Int.le_refl _, h1⟩
 | bad => intro p h0 h1; exact ⟨Int.le_refl _, h1⟩
 | node a b iha ihb =>
  intro p h0 h1
  simp only [Tr06.run]
  split
  ·exact ⟨Int.le_refl _, h1⟩
  ·split
   ·obtain ⟨x, y⟩ := iha (p + 1) (by omega) (by omega); exact ⟨by omega, y⟩
   ·obtain ⟨x, y⟩ := ihb (p + 1) (by omega) (by omega); exact ⟨by omega, y⟩
def dig0 : ByteArray := Utf8.encode (wrap32 (48 + wrap32 0))
def dig1 : ByteArray := Utf8.encode (wrap32 (48 + wrap32 1))
def wok (L : List ByteArray) : ByteArray → Tr06 → Bool
 | s, .leaf i => decide (slices_Index_string_string.f 20 L s = some (i : Int)) && (s.toList != [])
 | s, .bad => decide (slices_Index_string_string.f 20 L s = some (-1)) && decide (slices_ContainsFunc_string_string_75.f 20 L s = some false)
 | s, .node a b => decide (slices_Index_string_string.f 20 L s = some (-1)) && decide (slices_ContainsFunc_string_string_75.f 20 L s = some true) && decide (s.size + dig0.size ≤ 1000) && decide (s.size + dig1.size ≤ 1000) && wok L (s ++ dig0) a && wok L (s ++ dig1) b
theorem word_run {l : List Int} (hl : Byt06 l) (L : List ByteArray) : ∀ (t : Tr06) (s : ByteArray) (p : Int), wok L s t = true → 0 ≤ p → p ≤ en l →
  EvP (fun k => runs_reader_word.l0 k L l p true s) (· = ((t.run l p).1, (t.run l p).2.1, (t.run l p).2.2, true)) := by
 intro t
 induction t with
 | leaf i =>
  intro s p hw h0 h1
  simp only [wok, Bool.and_eq_true, decide_eq_true_iff] at hw
  refine EvP.step (fun k => by rw [runs_reader_word.l0]) ?_
  refine EvP.bind (EvP.of (fun k => slices_Index_string_string.mono L s k) hw.1) ?_
  rintro _ rfl
  refine EvP.pos (by omega) ?_
  rw [hw.2]
  refine EvP.step (fun k => by rw [runs_reader_word.j1]) ?_
  exact EvP.pos rfl (EvP.ret rfl)
 | bad =>
  intro s p hw h0 h1
  simp only [wok, Bool.and_eq_true, decide_eq_true_iff] at hw
  refine EvP.step (fun k => by rw [runs_reader_word.l0]) ?_
  refine EvP.bind (EvP.of (fun k => slices_Index_string_string.mono L s k) hw.1) ?_
  rintro _ rfl
  refine EvP.neg (by omega) ?_
  refine EvP.step (fun k => by rw [runs_reader_word.j1]) (EvP.neg (by simp) ?_)
  refine EvP.bind (EvP.of (fun k => slices_ContainsFunc_string_string_75.mono L s k) hw.2) ?_
  rintro _ rfl
  exact EvP.neg (by simp) (EvP.ret rfl)
 | node a b iha ihb =>
  intro s p hw h0 h1
  simp only [wok, Bool.and_eq_true, decide_eq_true_iff] at hw
  obtain ⟨⟨⟨⟨⟨w1, w2⟩, w3⟩, w4⟩, w5⟩, w6⟩ := hw
  refine EvP.step (fun k => by rw [runs_reader_word.l0]) ?_
  refine EvP.bind (EvP.of (fun k => slices_Index_string_string.mono L s k) w1) ?_
  rintro _ rfl
  refine EvP.neg (by omega) ?_
  refine EvP.step (fun k => by rw [runs_reader_word.j1]) (EvP.neg (by simp) ?_)
  refine EvP.bind (EvP.of (fun k => slices_ContainsFunc_string_string_75.mono L s k) w2) ?_
  rintro _ rfl
  refine EvP.pos rfl ?_
  refine EvP.bind (Bits_is hl (n := 1) (by omega) (by omega) h0 h1) ?_
  rintro _ rfl
  by_cases c : en l ≤ p
  ·rw [if_pos (show en l - p < 1 by omega), Tr06.run, if_pos c]
   exact EvP.neg (by simp) (EvP.ret rfl)
  ·rw [if_neg (show ¬ en l - p < 1 by omega), Tr06.run, if_neg c]
   have hv : valN l p (Int.toNat 1) 0 = bitI l p := by simp [valN]
   rw [hv]
   obtain ⟨s0, s1, s2, s3⟩ := bit_at hl h0 (show p < en l by omega)
   refine EvP.pos rfl ?_
   rcases s3 with s3 | s3
   ·rw [s3, if_pos rfl]
    exact EvP.pos (show s.size + dig0.size ≤ 9223372036854775807 by omega) (iha (s ++ dig0) (p + 1) w5 (by omega) (by omega))
   ·rw [s3, if_neg (by omega)]
    exact EvP.pos (show s.size + dig1.size ≤ 9223372036854775807 by omega) (ihb (s ++ dig1) (p + 1) w6 (by omega) (by omega))
def trU : Tr06 := .node (.leaf 0) (.node (.leaf 1) (.node (.leaf 2) (.node (.leaf 3) (.node (.leaf 4) (.leaf 5)))))
def trC0 : Tr06 := .node (.node (.leaf 0) (.leaf 1)) (.node (.leaf 2) (.leaf 3))
def trC1 : Tr06 := .node (.leaf 0) (.node (.leaf 1) (.node (.leaf 2) (.leaf 3)))
theorem wokU : wok tU.2 ⟨#[]⟩ trU = true := by decide +kernel
theorem wokC0 : wok tC0.2 ⟨#[]⟩ trC0 = true := by decide +kernel
theorem wokC1 : wok tC1.2 ⟨#[]⟩ trC1 = true := by decide +kernel
def trW : Tr06 := .node (.node (.node (.node (.node (.node (.bad) (.node (.leaf 2) (.leaf 8))) (.node (.leaf 3) (.leaf 7))) (.leaf 0)) (.leaf 1)) (.node (.leaf 4) (.leaf 6))) (.leaf 5)
theorem wokW : wok tW ⟨#[]⟩ trW = true := by decide +kernel
def good06 (ls : List S103) (cs : List (List Int)) : Bool := decide (ls.length = cs.length) && ls.all (fun x => decide (x.f0 > 0) && decide (x.f3 = 0) && decide (0 ≤ x.f1) && decide (x.f1 ≤ 20) && decide (0 ≤ x.f2) && decide (x.f2 ≤ 1000)) && cs.all (fun c => c.all (fun b => decide (b = 0) || decide (b = 1)))
theorem good_line {ls : List S103} {cs : List (List Int)} (h : good06 ls cs = true) {i : Int} (i0 : 0 ≤ i) (i1 : i < (ls.length : Int)) :
  (rd_T103 ls i).f0 > 0 ∧ (rd_T103 ls i).f3 = 0 ∧ 0 ≤ (rd_T103 ls i).f1 ∧ (rd_T103 ls i).f1 ≤ 20 ∧ 0 ≤ (rd_T103 ls i).f2 ∧ (rd_T103 ls i).f2 ≤ 1000 := by
 simp only [good06, Bool.and_eq_true, List.all_eq_true, decide_eq_true_iff] at h
 have hm : rd_T103 ls i ∈ ls := by
  unfold rd_T103
  rw [List.getD_eq_getElem?_getD, List.getElem?_eq_getElem (show i.toNat < ls.length by omega)]
  exact List.getElem_mem _
 obtain ⟨⟨⟨⟨⟨a, b⟩, c⟩, d⟩, e⟩, f⟩ := h.1.2 _ hm
 exact ⟨a, b, c, d, e, f⟩
def csU : List (List Int) := [[0], [1, 0], [1, 1, 0], [1, 1, 1, 0], [1, 1, 1, 1, 0], [1, 1, 1, 1, 1]]
def csC0 : List (List Int) := [[0, 0], [0, 1], [1, 0], [1, 1]]
def csC1 : List (List Int) := [[0], [1, 0], [1, 1, 0], [1, 1, 1]]
theorem goodU : good06 tU.1 csU = true := by decide +kernel
theorem goodC0 : good06 tC0.1 csC0 = true := by decide +kernel
theorem goodC1 : good06 tC1.1 csC1 = true := by decide +kernel
def rbP (n c : Int) : List Int := (runs_runBits.f 201 n c).getD []
def digs : Nat → Int → List Int
 | 0, _ => []
 | m + 1, e => (e / (2 ^ m : Nat) % 2) :: digs m e
theorem digs_len (m : Nat) (e : Int) : (digs m e).length = m := by
 induction m with
 | zero => rfl
 | succ m ih => simp [digs, ih]
theorem digs_add : ∀ (m k : Nat) (b x : Int), m ≤ k → digs m (b * (2 ^ k : Nat) + x) = digs m x := by
 intro m
 induction m with
 | zero => intro k b x h; rfl
 | succ m ih =>
  intro k b x h
  simp only [digs]
  rw [ih k b x (by omega)]
  congr 1
  obtain ⟨j, rfl⟩ : ∃ j, k = m + (1 + j) := ⟨k - m - 1, by omega⟩
  have e1 : ((2 ^ (m + (1 + j)) : Nat) : Int) = ((2 ^ m : Nat) : Int) * (2 * ((2 ^ j : Nat) : Int)) := by
   rw [Nat.pow_add, Nat.pow_add]; push_cast; rfl
  have hp : ((2 ^ m : Nat) : Int) ≠ 0 := by have := Nat.two_pow_pos m; omega
  rw [e1, show b * (((2 ^ m : Nat) : Int) * (2 * ((2 ^ j : Nat) : Int))) + x = x + ((2 ^ m : Nat) : Int) * (b * (2 * ((2 ^ j : Nat) : Int))) by rw [Int.add_comm]; congr 1; rw [Int.mul_left_comm], Int.add_mul_ediv_left _ _ hp]
  rw [show b * (2 * ((2 ^ j : Nat) : Int)) = 2 * (b * ((2 ^ j : Nat) : Int)) by rw [Int.mul_left_comm]]
  omega
def Are (l : List Int) (p q : Int) (bs : List Int) : Prop := q = p + bs.length ∧ ∀ j : Int, 0 ≤ j → j < (bs.length : Int) → bitI l (p + j) = rd bs j
theorem Are.nil (l : List Int) (p : Int) : Are l p p [] := ⟨by simp, fun j a b => by simp at b; omega⟩
theorem rd_app (a b : List Int) (j : Int) (j0 : 0 ≤ j) : rd (a ++ b) j = if j < (a.length : Int) then rd a j else rd b (j - a.length) := by
 unfold rd
 simp only [List.getD_eq_getElem?_getD]
 split
 ·rw [List.getElem?_append_left (by omega)]
 ·rw [List.getElem?_append_right (by omega), show j.toNat - a.length = (j - (a.length : Int)).toNat by omega]
theorem Are.app {l : List Int} {p q r : Int} {a b : List Int} (h : Are l p q a) (k : Are l q r b) : Are l p r (a ++ b) := by
 obtain ⟨h1, h2⟩ := h
 obtain ⟨k1, k2⟩ := k
 refine ⟨by rw [List.length_append]; omega, fun j j0 j1 => ?_⟩
 rw [List.length_append] at j1
 rw [rd_app a b j j0]
 split
 ·rename_i c; exact h2 j j0 c
 ·rename_i c
  have := k2 (j - a.length) (by omega) (by omega)
  rw [← this, h1]
  congr 1
  omega
theorem Are.cons {l : List Int} {p q b : Int} {bs : List Int} (h : bitI l p = b) (k : Are l (p + 1) q bs) : Are l p q (b :: bs) := by
 have h1 : Are l p (p + 1) [b] := ⟨by simp, fun j a c => by
  simp at c
  have : j = 0 := by omega
  subst this
  rw [Int.add_zero, h]
  rfl⟩
 exact h1.app k
theorem valN_add {l : List Int} : ∀ (m : Nat) (p a : Int), valN l p m a = a * (2 ^ m : Nat) + valN l p m 0 := by
 intro m
 induction m with
 | zero => intro p a; simp [valN]
 | succ m ih =>
  intro p a
  rw [valN, valN, ih (p + 1) (2 * a + bitI l p), ih (p + 1) (2 * 0 + bitI l p), Nat.pow_succ]
  push_cast
  rw [Int.add_mul, Int.add_mul]
  have : 2 * a * (2 ^ m : Int) = a * ((2 ^ m : Int) * 2) := by rw [Int.mul_comm 2 a, Int.mul_assoc, Int.mul_comm 2]
  omega
def num06 (ls : List S103) (t : Tr06) (l : List Int) (p : Int) : Except Int (Int × Int) :=
 if (t.run l p).2.1 = 0 then
  (if en l - (t.run l p).2.2 < (rd_T103 ls (t.run l p).1).f1 then .error 6
   else .ok ((rd_T103 ls (t.run l p).1).f2 + valN l (t.run l p).2.2 (rd_T103 ls (t.run l p).1).f1.toNat 0, (t.run l p).2.2 + (rd_T103 ls (t.run l p).1).f1))
 else .error (t.run l p).2.1
def PP (s : Except Int (Int × Int)) (r : Int × Int × Int × Bool) : Prop := match s with
 | .error e => e ≠ 0 ∧ r.2.1 = e
 | .ok v => r = (v.1, 0, v.2, true)
def Tr06.lt (n : Nat) : Tr06 → Bool
 | .leaf i => decide (i < n)
 | .bad => true
 | .node a b => a.lt n && b.lt n
theorem Tr06.run_lt (l : List Int) (n : Nat) : ∀ (t : Tr06) (p : Int), t.lt n = true → (t.run l p).2.1 = 0 → 0 ≤ (t.run l p).1 ∧ (t.run l p).1 < (n : Int) := by
 intro t
 induction t with
 | leaf i => intro p h _; simp only [Tr06.lt, decide_eq_true_iff] at h; simp only [Tr06.run]; omega
 | bad => intro p h e; simp [Tr06.run] at e
 | node a b iha ihb =>
  intro p h e
  simp only [Tr06.lt, Bool.and_eq_true] at h
  simp only [Tr06.run] at e ⊢
  split
  ·rename_i c; rw [if_pos c] at e; simp at e
  ·rename_i c
   rw [if_neg c] at e
   split
   ·rename_i d; rw [if_pos d] at e; exact iha _ h.1 e
   ·rename_i d; rw [if_neg d] at e; exact ihb _ h.2 e
theorem num06_ok {ls : List S103} {cs : List (List Int)} (hg : good06 ls cs = true) {t : Tr06} (ht : t.lt ls.length = true) {l : List Int} (hl : Byt06 l) {p : Int} (h0 : 0 ≤ p) (h1 : p ≤ en l) {v : Int × Int} (h : num06 ls t l p = .ok v) :
  0 ≤ v.1 ∧ v.1 < 1000 + 2000000 ∧ p ≤ v.2 ∧ v.2 ≤ en l := by
 unfold num06 at h
 split at h
 ·rename_i e
  obtain ⟨i0, i1⟩ := Tr06.run_lt l ls.length t p ht e
  obtain ⟨p0, p1⟩ := Tr06.run_place l t p h0 h1
  obtain ⟨g0, g1, g2, g3, g4, g5⟩ := good_line hg i0 i1
  split at h
  ·cases h
  ·rename_i c
   injection h with h
   subst h
   obtain ⟨b0, b1⟩ := valN_bound hl (rd_T103 ls (t.run l p).1).f1.toNat (t.run l p).2.2 0 (by omega) (by omega) (by omega)
   have jl : (2 : Int) ^ (rd_T103 ls (t.run l p).1).f1.toNat ≤ 2 ^ 20 := by
    have := Nat.pow_le_pow_right (n := 2) (by omega) (show (rd_T103 ls (t.run l p).1).f1.toNat ≤ 20 by omega)
    exact_mod_cast this
   have jl' : (2 : Int) ^ 20 = 1048576 := by decide
   refine ⟨?_, ?_, ?_, ?_⟩ <;> simp only <;> omega
 ·cases h
theorem number_is {l : List Int} (hl : Byt06 l) {ls : List S103} {cs : List (List Int)} (hg : good06 ls cs = true) {t : Tr06} (ht : t.lt ls.length = true) {L : List ByteArray} (hw : wok L ⟨#[]⟩ t = true) {p : Int} (h0 : 0 ≤ p) (h1 : p ≤ en l) :
  EvP (fun k => runs_reader_number.f k l p true ls L) (PP (num06 ls t l p)) := by
 unfold runs_reader_number.f
 refine EvP.bind (Q := (· = ((t.run l p).1, (t.run l p).2.1, (t.run l p).2.2, true))) (word_run hl L t ⟨#[]⟩ p hw h0 h1) ?_
 rintro _ rfl
 unfold num06
 by_cases e : (t.run l p).2.1 = 0
 ·obtain ⟨i0, i1⟩ := Tr06.run_lt l ls.length t p ht e
  obtain ⟨p0, p1⟩ := Tr06.run_place l t p h0 h1
  obtain ⟨g0, g1, g2, g3, g4, g5⟩ := good_line hg i0 i1
  have nb := fun v => num06_ok hg ht hl h0 h1 (v := v)
  unfold num06 at nb
  rw [if_pos e] at nb ⊢
  refine EvP.pos e (EvP.pos i0 (EvP.pos i1 ?_))
  refine EvP.bind (Bits_is hl (n := (rd_T103 ls (t.run l p).1).f1) (p := (t.run l p).2.2) g2 (by omega) (by omega) p1) ?_
  rintro _ rfl
  by_cases c : en l - (t.run l p).2.2 < (rd_T103 ls (t.run l p).1).f1
  ·rw [if_pos c, if_pos c]
   exact EvP.ret ⟨by omega, rfl⟩
  ·rw [if_neg c] at nb
   obtain ⟨b0, b1, _, _⟩ := nb _ rfl
   rw [if_neg c, if_neg c]
   refine EvP.ret ?_
   show _ = _
   simp only at b0 b1 ⊢
   rw [w64 (by omega) (by omega), Int.add_comm]
 ·rw [if_neg e]
  exact EvP.neg e (EvP.ret ⟨e, rfl⟩)
def run06 (l : List Int) (p c : Int) : Except Int (Int × Int) := match num06 tU.1 trU l p with
 | .error e => .error e
 | .ok n => match num06 (if c = 0 then tC0.1 else tC1.1) (if c = 0 then trC0 else trC1) l n.2 with
  | .error e => .error e
  | .ok m => if m.1 ≥ 64 then .error 3 else .ok (n.1 * 64 + m.1, m.2)
theorem numC_ok {l : List Int} (hl : Byt06 l) {c p : Int} (h0 : 0 ≤ p) (h1 : p ≤ en l) {v : Int × Int} (h : num06 (if c = 0 then tC0.1 else tC1.1) (if c = 0 then trC0 else trC1) l p = .ok v) : 0 ≤ v.1 ∧ v.1 < 1000 + 2000000 ∧ p ≤ v.2 ∧ v.2 ≤ en l := by
 by_cases c0 : c = 0
 ·simp only [if_pos c0] at h
  exact num06_ok goodC0 (by decide) hl h0 h1 h
 ·simp only [if_neg c0] at h
  exact num06_ok goodC1 (by decide) hl h0 h1 h
theorem run06_ok {l : List Int} (hl : Byt06 l) {c p : Int} (h0 : 0 ≤ p) (h1 : p ≤ en l) {v : Int × Int} (h : run06 l p c = .ok v) : 0 ≤ v.1 ∧ v.1 < 200000000 ∧ p ≤ v.2 ∧ v.2 ≤ en l := by
 unfold run06 at h
 cases e1 : num06 tU.1 trU l p with
 | error e => rw [e1] at h; cases h
 | ok n =>
  rw [e1] at h
  obtain ⟨a, b, c', d⟩ := num06_ok goodU (by decide) hl h0 h1 e1
  simp only at h
  cases e2 : num06 (if c = 0 then tC0.1 else tC1.1) (if c = 0 then trC0 else trC1) l n.2 with
  | error e => rw [e2] at h; cases h
  | ok m =>
   rw [e2] at h
   obtain ⟨a', b', c'', d'⟩ := numC_ok hl (by omega) d e2
   simp only at h
   split at h
   ·cases h
   ·injection h with h
    subst h
    refine ⟨?_, ?_, ?_, ?_⟩ <;> simp only <;> omega
theorem run_is {l : List Int} (hl : Byt06 l) {c p : Int} (hc : c = 0 ∨ c = 1) (h0 : 0 ≤ p) (h1 : p ≤ en l) : EvP (fun k => runs_reader_run.f k l p true c) (PP (run06 l p c)) := by
 unfold runs_reader_run.f runs_reader_runG.f run06
 refine EvP.pos hc ?_
 refine EvP.bind (number_is hl goodU (t := trU) (by decide) wokU h0 h1) ?_
 intro r hr
 cases e1 : num06 tU.1 trU l p with
 | error e =>
  rw [e1] at hr
  obtain ⟨hr1, hr2⟩ := hr
  exact EvP.neg (by rw [hr2]; exact hr1) (EvP.ret ⟨hr1, hr2⟩)
 | ok n =>
  rw [e1] at hr
  have hr : r = (n.1, 0, n.2, true) := hr
  subst hr
  obtain ⟨a, b, c', d⟩ := num06_ok goodU (by decide) hl h0 h1 e1
  refine EvP.pos rfl ?_
  have hm : EvP (fun k => runs_reader_number.f k l n.2 true (if c = 0 then tC0.1 else tC1.1) (if c = 0 then tC0.2 else tC1.2)) (PP (num06 (if c = 0 then tC0.1 else tC1.1) (if c = 0 then trC0 else trC1) l n.2)) := by
   by_cases c0 : c = 0
   ·simp only [if_pos c0]
    exact number_is hl goodC0 (t := trC0) (by decide) wokC0 (by omega) d
   ·simp only [if_neg c0]
    exact number_is hl goodC1 (t := trC1) (by decide) wokC1 (by omega) d
  refine EvP.bind hm ?_
  intro r hr
  simp only
  cases e2 : num06 (if c = 0 then tC0.1 else tC1.1) (if c = 0 then trC0 else trC1) l n.2 with
  | error e =>
   rw [e2] at hr
   obtain ⟨hr1, hr2⟩ := hr
   exact EvP.neg (by rw [hr2]; exact hr1) (EvP.ret ⟨hr1, hr2⟩)
  | ok m =>
   rw [e2] at hr
   have hr : r = (m.1, 0, m.2, true) := hr
   subst hr
   obtain ⟨a', b', c'', d'⟩ := numC_ok hl (by omega) d e2
   refine EvP.pos rfl ?_
   simp only
   refine EvP.ite (fun q => EvP.ret ?_) (fun q => EvP.ret ?_)
   ·rw [if_pos q]
    exact ⟨by omega, rfl⟩
   ·rw [if_neg q]
    show _ = _
    rw [w64 (x := n.1 * 64) (by omega) (by omega), w64 (by omega) (by omega)]
def encT (ls : List S103) (cs : List (List Int)) (a : Int) : List Int := match (List.range ls.length).find? (fun (i : Nat) => decide ((rd_T103 ls i).f2 ≤ a) && decide (a < (rd_T103 ls i).f2 + 2 ^ (rd_T103 ls i).f1.toNat)) with
 | some i => cs.getD i [] ++ digs (rd_T103 ls i).f1.toNat (a - (rd_T103 ls i).f2)
 | none => []
theorem rbP_good : (List.range 201).all (fun n => decide (runs_runBits.f 201 (n : Int) 0 = some (rbP n 0)) && decide (rbP n 0 = encT tU.1 csU ((n / 64 : Nat) : Int) ++ encT tC0.1 csC0 ((n % 64 : Nat) : Int)) && decide (runs_runBits.f 201 (n : Int) 1 = some (rbP n 1)) && decide (rbP n 1 = encT tU.1 csU ((n / 64 : Nat) : Int) ++ encT tC1.1 csC1 ((n % 64 : Nat) : Int)) && decide ((rbP n 0).length ≤ 64) && decide ((rbP n 1).length ≤ 64) && (rbP n 0).all (fun b => b == 0 || b == 1) && (rbP n 1).all (fun b => b == 0 || b == 1)) = true := by decide +kernel
theorem rbP_is {n c : Int} (n0 : 0 ≤ n) (n1 : n ≤ 200) (hc : c = 0 ∨ c = 1) : EvP (fun k => runs_runBits.f k n c) (· = rbP n c) ∧ rbP n c = encT tU.1 csU (n / 64) ++ (if c = 0 then encT tC0.1 csC0 (n % 64) else encT tC1.1 csC1 (n % 64)) ∧ (rbP n c).length ≤ 64 ∧ ∀ b ∈ rbP n c, b = 0 ∨ b = 1 := by
 have g := List.all_eq_true.mp rbP_good n.toNat (List.mem_range.mpr (by omega))
 simp only [Bool.and_eq_true, decide_eq_true_iff, List.all_eq_true, Bool.or_eq_true, beq_iff_eq] at g
 obtain ⟨⟨⟨⟨⟨⟨⟨a1, a2⟩, a3⟩, a4⟩, a5⟩, a6⟩, a7⟩, a8⟩ := g
 have e : ((n.toNat : Nat) : Int) = n := by omega
 have e1 : ((n.toNat / 64 : Nat) : Int) = n / 64 := by omega
 have e2 : ((n.toNat % 64 : Nat) : Int) = n % 64 := by omega
 rw [e] at a1 a2 a3 a4 a5 a6 a7 a8
 rw [e1, e2] at a2 a4
 rcases hc with rfl | rfl
 ·exact ⟨EvP.of (runs_runBits.mono n 0) a1, by rw [if_pos rfl]; exact a2, a5, a7⟩
 ·exact ⟨EvP.of (runs_runBits.mono n 1) a3, by rw [if_neg (by omega)]; exact a4, a6, a8⟩
def Tr06.go : Tr06 → List Int → Option (Nat × List Int)
 | .leaf i, bs => some (i, bs)
 | .bad, _ => none
 | .node _ _, [] => none
 | .node a b, x :: bs => if x = 0 then a.go bs else b.go bs
theorem Tr06.go_app : ∀ (t : Tr06) (a : List Int) (x : List Int) (i : Nat) (r : List Int), t.go a = some (i, r) → t.go (a ++ x) = some (i, r ++ x) := by
 intro t
 induction t with
 | leaf j => intro a x i r h; simp only [Tr06.go, Option.some.injEq, Prod.mk.injEq] at h ⊢; exact ⟨h.1, by rw [h.2]⟩
 | bad => intro a x i r h; simp [Tr06.go] at h
 | node s t ihs iht =>
  intro a x i r h
  cases a with
  | nil => simp [Tr06.go] at h
  | cons y ys =>
   simp only [List.cons_append, Tr06.go] at h ⊢
   split
   ·rename_i c; rw [if_pos c] at h; exact ihs ys x i r h
   ·rename_i c; rw [if_neg c] at h; exact iht ys x i r h
theorem Are.head {l : List Int} {p q b : Int} {bs : List Int} (h : Are l p q (b :: bs)) : bitI l p = b ∧ Are l (p + 1) q bs := by
 obtain ⟨h1, h2⟩ := h
 have h0 := h2 0 (by omega) (by simp <;> omega)
 rw [Int.add_zero] at h0
 refine ⟨h0, by simp at h1; omega, fun j a c => ?_⟩
 have := h2 (j + 1) (by omega) (by simp; omega)
 rw [show p + 1 + j = p + (j + 1) by omega, this]
 unfold rd
 rw [show (j + 1).toNat = j.toNat + 1 by omega, List.getD_cons_succ]
theorem Are.len {l : List Int} {p q : Int} {bs : List Int} (h : Are l p q bs) : q = p + bs.length := h.1
theorem run_go {l : List Int} : ∀ (t : Tr06) (bs : List Int) (p q : Int) (i : Nat) (r : List Int), Are l p q bs → q ≤ en l → t.go bs = some (i, r) → t.run l p = ((i : Int), 0, q - r.length) := by
 intro t
 induction t with
 | leaf j =>
  intro bs p q i r h hq hg
  simp only [Tr06.go, Option.some.injEq, Prod.mk.injEq] at hg
  obtain ⟨rfl, rfl⟩ := hg
  have := h.len
  simp only [Tr06.run]
  congr 2
  omega
 | bad => intro bs p q i r h hq hg; simp [Tr06.go] at hg
 | node s t ihs iht =>
  intro bs p q i r h hq hg
  cases bs with
  | nil => simp [Tr06.go] at hg
  | cons y ys =>
   obtain ⟨h1, h2⟩ := h.head
   have hlen := h.len
   simp only [Tr06.go] at hg
   simp only [Tr06.run]
   rw [if_neg (by simp at hlen; omega), h1]
   by_cases c : y = 0
   ·rw [if_pos c] at hg ⊢
    exact ihs ys (p + 1) q i r h2 hq hg
   ·rw [if_neg c] at hg ⊢
    exact iht ys (p + 1) q i r h2 hq hg
theorem Are.parts {l : List Int} {p r : Int} {a b : List Int} (h : Are l p r (a ++ b)) : Are l p (p + a.length) a ∧ Are l (p + a.length) r b := by
 obtain ⟨h1, h2⟩ := h
 rw [List.length_append] at h1
 refine ⟨⟨rfl, fun j j0 j1 => ?_⟩, ⟨by omega, fun j j0 j1 => ?_⟩⟩
 ·have := h2 j j0 (by rw [List.length_append]; omega)
  rw [this, rd_app a b j j0, if_pos j1]
 ·have := h2 (a.length + j) (by omega) (by rw [List.length_append]; omega)
  rw [show p + (a.length : Int) + j = p + ((a.length : Int) + j) by omega, this, rd_app a b _ (by omega), if_neg (by omega)]
  congr 1
  omega
theorem digs_val {l : List Int} : ∀ (m : Nat) (p q e : Int), 0 ≤ e → e < (2 ^ m : Nat) → Are l p q (digs m e) → valN l p m 0 = e := by
 intro m
 induction m with
 | zero => intro p q e e0 e1 h; simp [valN]; omega
 | succ m ih =>
  intro p q e e0 e1 h
  simp only [digs] at h
  obtain ⟨h1, h2⟩ := h.head
  have hp : (0 : Int) < ((2 ^ m : Nat) : Int) := by have := Nat.two_pow_pos m; omega
  have e1' : e < 2 * ((2 ^ m : Nat) : Int) := by rw [Nat.pow_succ] at e1; push_cast at e1 ⊢; omega
  have hd := Int.mul_ediv_add_emod e ((2 ^ m : Nat) : Int)
  have hm0 := Int.emod_nonneg e (show ((2 ^ m : Nat) : Int) ≠ 0 by omega)
  have hm1 := Int.emod_lt_of_pos e hp
  have hb : e / ((2 ^ m : Nat) : Int) = 0 ∨ e / ((2 ^ m : Nat) : Int) = 1 := by
   have a1 : 0 ≤ e / ((2 ^ m : Nat) : Int) := Int.ediv_nonneg e0 (by omega)
   have a2 : e / ((2 ^ m : Nat) : Int) < 2 := Int.ediv_lt_of_lt_mul hp e1'
   omega
  have hdig : digs m e = digs m (e % ((2 ^ m : Nat) : Int)) := by
   have := digs_add m m (e / ((2 ^ m : Nat) : Int)) (e % ((2 ^ m : Nat) : Int)) (Nat.le_refl _)
   rw [Int.mul_comm, hd] at this
   exact this
  rw [hdig] at h2
  have hv := ih (p + 1) q (e % ((2 ^ m : Nat) : Int)) hm0 hm1 h2
  rw [valN, valN_add m (p + 1) (2 * 0 + bitI l p), hv, h1]
  rcases hb with hb | hb
  ·rw [hb] at hd ⊢
   omega
  ·rw [hb] at hd ⊢
   omega
theorem num_fwd {ls : List S103} {cs : List (List Int)} {t : Tr06} (hi : (List.range ls.length).all (fun (i : Nat) => match t.go (cs.getD i []) with | some (j, []) => j == i | _ => false) = true) (hg : good06 ls cs = true) {l : List Int} {p q e : Int} {i : Nat} (i1 : i < ls.length) (e0 : 0 ≤ e) (e1 : e < 2 ^ (rd_T103 ls i).f1.toNat) (h : Are l p q (cs.getD i [] ++ digs (rd_T103 ls i).f1.toNat e)) (hq : q ≤ en l) :
  num06 ls t l p = .ok ((rd_T103 ls i).f2 + e, q) := by
 have hgo : t.go (cs.getD i []) = some (i, []) := by
  have g := List.all_eq_true.mp hi i (List.mem_range.mpr i1)
  cases hc : t.go (cs.getD i []) with
  | none => rw [hc] at g; simp at g
  | some x =>
   obtain ⟨j, r⟩ := x
   rw [hc] at g
   cases r with
   | nil => simp only [beq_iff_eq] at g; rw [g]
   | cons a b => simp at g
 obtain ⟨g0, g1, g2, g3, g4, g5⟩ := good_line hg (i := (i : Int)) (by omega) (by omega)
 have hr := run_go t _ p q i _ h hq (Tr06.go_app t _ (digs (rd_T103 ls i).f1.toNat e) i [] hgo)
 obtain ⟨h1, h2⟩ := h.parts
 have hl2 := h2.len
 rw [digs_len] at hl2
 rw [List.nil_append, digs_len] at hr
 have hpl : q - ((rd_T103 ls i).f1.toNat : Int) = p + ((cs.getD i []).length : Int) := by omega
 rw [hpl] at hr
 unfold num06
 rw [hr]
 simp only [if_true]
 rw [if_neg (by omega), digs_val _ _ q e e0 (by push_cast; exact e1) h2]
 congr 2
 omega
theorem goU : (List.range tU.1.length).all (fun (i : Nat) => match trU.go (csU.getD i []) with | some (j, []) => j == i | _ => false) = true := by decide +kernel
theorem goC0 : (List.range tC0.1.length).all (fun (i : Nat) => match trC0.go (csC0.getD i []) with | some (j, []) => j == i | _ => false) = true := by decide +kernel
theorem goC1 : (List.range tC1.1.length).all (fun (i : Nat) => match trC1.go (csC1.getD i []) with | some (j, []) => j == i | _ => false) = true := by decide +kernel
theorem enc_fwd {ls : List S103} {cs : List (List Int)} {t : Tr06} (hi : (List.range ls.length).all (fun (i : Nat) => match t.go (cs.getD i []) with | some (j, []) => j == i | _ => false) = true) (hg : good06 ls cs = true) {l : List Int} {p q a : Int} (hs : ((List.range ls.length).find? (fun (i : Nat) => decide ((rd_T103 ls i).f2 ≤ a) && decide (a < (rd_T103 ls i).f2 + 2 ^ (rd_T103 ls i).f1.toNat))).isSome = true) (h : Are l p q (encT ls cs a)) (hq : q ≤ en l) : num06 ls t l p = .ok (a, q) := by
 unfold encT at h
 cases hf : (List.range ls.length).find? (fun (i : Nat) => decide ((rd_T103 ls i).f2 ≤ a) && decide (a < (rd_T103 ls i).f2 + 2 ^ (rd_T103 ls i).f1.toNat)) with
 | none => rw [hf] at hs; simp at hs
 | some i =>
  rw [hf] at h
  have h1 := List.find?_some hf
  have h2 := List.mem_range.mp (List.mem_of_find?_eq_some hf)
  simp only [Bool.and_eq_true, decide_eq_true_iff] at h1
  have := num_fwd hi hg h2 (show 0 ≤ a - (rd_T103 ls i).f2 by omega) (by omega) h hq
  rw [this]
  congr 2
  omega
theorem someU : (List.range 4).all (fun a => ((List.range tU.1.length).find? (fun (i : Nat) => decide ((rd_T103 tU.1 i).f2 ≤ (a : Int)) && decide ((a : Int) < (rd_T103 tU.1 i).f2 + 2 ^ (rd_T103 tU.1 i).f1.toNat))).isSome) = true := by decide +kernel
theorem someC0 : (List.range 64).all (fun a => ((List.range tC0.1.length).find? (fun (i : Nat) => decide ((rd_T103 tC0.1 i).f2 ≤ (a : Int)) && decide ((a : Int) < (rd_T103 tC0.1 i).f2 + 2 ^ (rd_T103 tC0.1 i).f1.toNat))).isSome) = true := by decide +kernel
theorem someC1 : (List.range 64).all (fun a => ((List.range tC1.1.length).find? (fun (i : Nat) => decide ((rd_T103 tC1.1 i).f2 ≤ (a : Int)) && decide ((a : Int) < (rd_T103 tC1.1 i).f2 + 2 ^ (rd_T103 tC1.1 i).f1.toNat))).isSome) = true := by decide +kernel
theorem run_fwd {l : List Int} {p q n c : Int} (n0 : 0 ≤ n) (n1 : n ≤ 200) (hc : c = 0 ∨ c = 1) (h : Are l p q (rbP n c)) (hq : q ≤ en l) : run06 l p c = .ok (n, q) := by
 obtain ⟨_, r2, _, _⟩ := rbP_is n0 n1 hc
 rw [r2] at h
 obtain ⟨h1, h2⟩ := h.parts
 have hl2 := h2.len
 have sU := List.all_eq_true.mp someU (n / 64).toNat (List.mem_range.mpr (by omega))
 rw [show (((n / 64).toNat : Nat) : Int) = n / 64 by omega] at sU
 have eU := enc_fwd goU goodU sU h1 (by omega)
 unfold run06
 rw [eU]
 simp only
 by_cases c0 : c = 0
 ·simp only [if_pos c0] at h2 ⊢
  have sC := List.all_eq_true.mp someC0 (n % 64).toNat (List.mem_range.mpr (by omega))
  rw [show (((n % 64).toNat : Nat) : Int) = n % 64 by omega] at sC
  rw [enc_fwd goC0 goodC0 sC h2 hq]
  simp only
  rw [if_neg (by omega)]
  congr 2
  omega
 ·simp only [if_neg c0] at h2 ⊢
  have sC := List.all_eq_true.mp someC1 (n % 64).toNat (List.mem_range.mpr (by omega))
  rw [show (((n % 64).toNat : Nat) : Int) = n % 64 by omega] at sC
  rw [enc_fwd goC1 goodC1 sC h2 hq]
  simp only
  rw [if_neg (by omega)]
  congr 2
  omega
theorem rep06 : (List.range 201).all (fun n => decide (slices_Repeat_byte_byte.f 20 [0] (n : Int) = some (List.replicate n 0)) && decide (slices_Repeat_byte_byte.f 20 [1] (n : Int) = some (List.replicate n 1))) = true := by decide +kernel
theorem rep_is {v n : Int} (h0 : 0 ≤ n) (h1 : n ≤ 200) (hv : v = 0 ∨ v = 1) : EvP (fun k => slices_Repeat_byte_byte.f k [v] n) (· = List.replicate n.toNat v) := by
 have g := List.all_eq_true.mp rep06 n.toNat (List.mem_range.mpr (by omega))
 rw [Bool.and_eq_true, decide_eq_true_iff, decide_eq_true_iff, show ((n.toNat : Nat) : Int) = n by omega] at g
 rcases hv with rfl | rfl
 ·exact EvP.of (slices_Repeat_byte_byte.mono _ _) g.1
 ·exact EvP.of (slices_Repeat_byte_byte.mono _ _) g.2
def grow06 (out : List Int) (x c : Int) : List Int := out ++ List.replicate (x - (out.length : Int)).toNat c
theorem grow06_len {out : List Int} {x c : Int} (h : (out.length : Int) ≤ x) : ((grow06 out x c).length : Int) = x := by
 unfold grow06
 simp
 omega
theorem fill_is {out : List Int} {x c : Int} (h : (out.length : Int) ≤ x) (hx : x ≤ 200) (hc : c = 0 ∨ c = 1) : EvP (fun k => runs_fill.f k out x c) (· = grow06 out x c) := by
 unfold runs_fill.f
 rw [show c % 256 = c by omega, w64 (x := x - (out.length : Int)) (by omega) (by omega)]
 refine EvP.bind (rep_is (by omega) (by omega) hc) ?_
 rintro _ rfl
 exact EvP.pos (by simp; omega) (EvP.ret rfl)
def wcs : List (List Int) := [[0, 0, 0, 1], [0, 0, 1], [0, 0, 0, 0, 0, 1, 0], [0, 0, 0, 0, 1, 0], [0, 1, 0], [1], [0, 1, 1], [0, 0, 0, 0, 1, 1], [0, 0, 0, 0, 0, 1, 1]]
theorem goW : (List.range 9).all (fun (i : Nat) => match trW.go (wcs.getD i []) with | some (j, []) => j == i | _ => false) = true := by decide +kernel
theorem word_fwd {l : List Int} {i : Nat} (hi : i < 9) {p q : Int} (h : Are l p q (wcs.getD i [])) (hq : q ≤ en l) : trW.run l p = ((i : Int), 0, q) := by
 have g := List.all_eq_true.mp goW i (List.mem_range.mpr hi)
 cases hc : trW.go (wcs.getD i []) with
 | none => rw [hc] at g; simp at g
 | some x =>
  obtain ⟨j, r⟩ := x
  rw [hc] at g
  cases r with
  | nil =>
   simp only [beq_iff_eq] at g
   have := run_go trW _ p q j [] h hq hc
   rw [this, g]
   simp
  | cons a b => simp at g
theorem modeW {l : List Int} (hl : Byt06 l) {p : Int} (p0 : 0 ≤ p) (p1 : p ≤ en l) {i q : Int} (h : trW.run l p = (i, 0, q)) : EvP (fun k => runs_reader_word.f k l p true tW) (· = (i, 0, q, true)) := by
 have := word_run hl tW trW ⟨#[]⟩ p wokW p0 p1
 rw [h] at this
 exact this
section
variable {l : List Int} (hl : Byt06 l) {w : Int} (w1 : w ≤ 200) {ab : List Int} {p q a col b b2 : Int} {out : List Int} (p0 : 0 ≤ p) (p1 : p ≤ en l) (hc : col = 0 ∨ col = 1) (hm : EvP (fun k => runs_marks.f k ab a col) (· = (b, b2)))
include hl w1 p0 p1 hc hm
theorem modePass (h : trW.run l p = (0, 0, q)) (ho : (out.length : Int) ≤ b2) (hb : b2 < w) : EvP (fun k => runs_mode.f k l p true w a col ab out) (· = (0, q, true, b2, col, grow06 out b2 col)) := by
 unfold runs_mode.f
 refine EvP.bind (modeW hl p0 p1 h) ?_
 rintro _ rfl
 refine EvP.pos rfl ?_
 rw [show col % 256 = col by omega]
 refine EvP.bind hm ?_
 rintro _ rfl
 refine EvP.neg (by omega) (EvP.pos rfl (EvP.neg (by show ¬ b2 = w; omega) ?_))
 refine EvP.bind (fill_is ho (by omega) hc) ?_
 rintro _ rfl
 exact EvP.ret rfl
theorem modeUp {d : Int} (d0 : -3 ≤ d) (d1 : d ≤ 3) (h : trW.run l p = (d + 5, 0, q)) (ho : (out.length : Int) ≤ b + d) (h0 : -300 ≤ b) (h1 : b ≤ 300) (ha : a < b + d) (hb : b + d ≤ w) : EvP (fun k => runs_mode.f k l p true w a col ab out) (· = (0, q, true, b + d, 1 - col, grow06 out (b + d) col)) := by
 unfold runs_mode.f
 refine EvP.bind (modeW hl p0 p1 h) ?_
 rintro _ rfl
 refine EvP.pos rfl ?_
 rw [show col % 256 = col by omega]
 refine EvP.bind hm ?_
 rintro _ rfl
 dsimp only
 rw [w64 (x := b + (d + 5)) (by omega) (by omega), w64 (x := b + (d + 5) - 5) (by omega) (by omega), w64 (x := 1 - col) (by omega) (by omega), show b + (d + 5) - 5 = b + d by omega]
 refine EvP.neg (by omega) (EvP.neg (by omega) (EvP.neg (by omega) (EvP.neg (by omega) ?_)))
 refine EvP.bind (fill_is ho (by omega) hc) ?_
 rintro _ rfl
 exact EvP.ret rfl
theorem modeFlat {q1 q2 n m : Int} (h : trW.run l p = (1, 0, q1)) (hq1 : 0 ≤ q1) (hq1' : q1 ≤ en l) (hr1 : run06 l q1 col = .ok (n, q2)) (hr2 : run06 l q2 (1 - col) = .ok (m, q)) (b1 : ¬ (n = 0 ∧ a ≥ 0)) (b2' : (out.length : Int) + n + m ≤ w) (d2 : (m = 0 ∧ (out.length : Int) + n = w) ∨ (m ≠ 0 ∧ (out.length : Int) + n ≠ w)) : EvP (fun k => runs_mode.f k l p true w a col ab out) (· = (0, q, true, (out.length : Int) + n + m, col, grow06 (grow06 out ((out.length : Int) + n) col) ((out.length : Int) + n + m) (1 - col))) := by
 obtain ⟨n0, n1, x0, x1⟩ := run06_ok hl hq1 hq1' hr1
 obtain ⟨m0, m1, y0, y1⟩ := run06_ok hl (show 0 ≤ q2 by simp only at x0; omega) x1 hr2
 simp only at n0 n1 x0 x1 m0 m1 y0 y1
 have hP1 := run_is hl hc hq1 hq1'
 rw [hr1] at hP1
 have hP2 := run_is hl (show 1 - col = 0 ∨ 1 - col = 1 by omega) (show 0 ≤ q2 by omega) x1
 rw [hr2] at hP2
 have g1 : ((grow06 out ((out.length : Int) + n) col).length : Int) = (out.length : Int) + n := grow06_len (by omega)
 unfold runs_mode.f
 refine EvP.bind (modeW hl p0 p1 h) ?_
 rintro _ rfl
 refine EvP.pos rfl ?_
 rw [show col % 256 = col by omega]
 refine EvP.bind hm ?_
 rintro _ rfl
 refine EvP.pos rfl ?_
 refine EvP.bind (Q := (· = (0, q, true, (out.length : Int) + n + m, grow06 (grow06 out ((out.length : Int) + n) col) ((out.length : Int) + n + m) (1 - col)))) ?_ (by rintro _ rfl; exact EvP.ret rfl)
 unfold runs_flat.f
 refine EvP.bind hP1 ?_
 intro r hr
 have hr : r = (n, 0, q2, true) := hr
 subst hr
 refine EvP.pos rfl ?_
 dsimp only
 rw [w64 (x := (out.length : Int) + n) (by omega) (by omega), w64 (x := 1 - col) (by omega) (by omega)]
 refine EvP.neg b1 (EvP.neg (by omega) ?_)
 refine EvP.bind hP2 ?_
 intro r hr
 have hr : r = (m, 0, q, true) := hr
 subst hr
 refine EvP.pos rfl ?_
 dsimp only
 rw [w64 (x := w - ((out.length : Int) + n)) (by omega) (by omega), w64 (x := (out.length : Int) + n + m) (by omega) (by omega)]
 refine EvP.neg (by omega) (EvP.pos d2 ?_)
 refine EvP.bind (fill_is (by omega) (by omega) hc) ?_
 rintro _ rfl
 refine EvP.bind (fill_is (by omega) (by omega) (show 1 - col = 0 ∨ 1 - col = 1 by omega)) ?_
 rintro _ rfl
 exact EvP.ret rfl
end
def Px (l : List Int) : Prop := (l.length : Int) ≤ 200 ∧ ∀ y ∈ l, y = 0 ∨ y = 1
theorem Px.at {l : List Int} (h : Px l) {i : Int} (i0 : 0 ≤ i) (i1 : i < (l.length : Int)) : rd l i = 0 ∨ rd l i = 1 := h.2 _ (rd_mem i0 i1)
theorem EvP.det {α : Type} {g : Nat → Option α} {a b : α} (h : EvP g (· = a)) (k : EvP g (· = b)) : a = b := by
 obtain ⟨r, ⟨K, h⟩, rfl⟩ := h
 obtain ⟨s, ⟨L, k⟩, rfl⟩ := k
 exact Option.some.inj ((h (max K L) (by omega)).symm.trans (k (max K L) (by omega)))
theorem chg_l0 {l : List Int} (h : Px l) (c : Int) : ∀ (n : Nat) (x : Int), 0 ≤ x → x ≤ l.length → (l.length : Int) - x = n → ∃ b : Int, x ≤ b ∧ b ≤ l.length ∧ (∀ j, x ≤ j → j < b → rd l j ≠ c) ∧ (b < l.length → rd l b = c) ∧ EvP (fun k => runs_change.l0 k l c x) (· = b) := by
 have hl := h.1
 have mnx : ∀ x : Int, x ≤ (l.length : Int) → mn x (l.length : Int) = x := fun x hx => by
  unfold mn
  split <;> omega
 intro n
 induction n with
 | zero =>
  intro x x0 x1 hn
  refine ⟨x, by omega, x1, fun j _ _ => by omega, fun _ => by omega, ?_⟩
  exact EvP.step (fun k => by rw [runs_change.l0]) (EvP.neg (by omega) (EvP.ret (mnx x x1)))
 | succ n ih =>
  intro x x0 x1 hn
  have hx : x < (l.length : Int) := by omega
  by_cases e : rd l x = c
  ·refine ⟨x, by omega, x1, fun j _ _ => by omega, fun _ => e, ?_⟩
   exact EvP.step (fun k => by rw [runs_change.l0]) (EvP.pos hx (EvP.pos x0 (EvP.pos e (EvP.ret (mnx x x1)))))
  ·obtain ⟨b, h1, h2, h3, h4, h5⟩ := ih (x + 1) (by omega) (by omega) (by omega)
   refine ⟨b, by omega, h2, fun j j0 j1 => ?_, h4, ?_⟩
   ·by_cases z : j = x
    ·subst z; exact e
    ·exact h3 j (by omega) j1
   ·refine EvP.step (fun k => by rw [runs_change.l0]) (EvP.pos hx (EvP.pos x0 (EvP.neg e ?_)))
    rw [w64 (x := x + 1) (by omega) (by omega)]
    exact h5
theorem chg_is {l : List Int} (h : Px l) (c a : Int) (a0 : -1 ≤ a) (a1 : a ≤ l.length) : ∃ b : Int, (a < b ∨ b = l.length) ∧ b ≤ l.length ∧ (∀ j, a < j → j < b → rd l j ≠ c) ∧ (b < l.length → rd l b = c) ∧ EvP (fun k => runs_change.f k l a c) (· = b) := by
 have hl := h.1
 unfold runs_change.f
 rw [w64 (x := a + 1) (by omega) (by omega)]
 by_cases z : a = l.length
 ·refine ⟨l.length, .inr rfl, Int.le_refl _, fun j _ _ => by omega, fun _ => by omega, ?_⟩
  refine EvP.step (fun k => by rw [runs_change.l0]) (EvP.neg (by omega) (EvP.ret ?_))
  unfold mn
  split <;> omega
 ·obtain ⟨b, h1, h2, h3, h4, h5⟩ := chg_l0 h c (l.length - (a + 1)).toNat (a + 1) (by omega) (by omega) (by omega)
  exact ⟨b, .inl (by omega), h2, fun j j0 j1 => h3 j (by omega) j1, h4, h5⟩
def At06 (row : List Int) (a c : Int) : Prop := -1 ≤ a ∧ a ≤ row.length ∧ (c = 0 ∨ c = 1) ∧ (0 ≤ a → a < row.length → rd row a = c)
theorem rd_take (l : List Int) (n : Nat) (i : Int) (i0 : 0 ≤ i) (i1 : i < n) : rd (l.take n) i = rd l i := by
 have : i.toNat < n := by omega
 simp [rd, List.getD, List.getElem?_take, this]
theorem grow_take {row : List Int} {a c x : Int} (m0 : 0 ≤ a) (hx : a ≤ x) (x1 : x ≤ row.length) (h : ∀ j, a ≤ j → j < x → rd row j = c) : grow06 (row.take a.toNat) x c = row.take x.toNat := by
 unfold grow06
 have hl : (row.take a.toNat).length = a.toNat := by rw [List.length_take]; omega
 apply rd_ext
 ·rw [List.length_append, List.length_replicate, hl, List.length_take]; omega
 ·intro i i0 i1
  rw [List.length_append, List.length_replicate, hl] at i1
  rw [rd_app _ _ i i0, hl, rd_take row x.toNat i i0 (by omega)]
  split
  ·exact rd_take row _ i i0 (by omega)
  ·rw [rd_replicate _ _ _ (by omega) (by omega), h i (by omega) (by omega)]
theorem take_len {row : List Int} {a : Int} (a0 : 0 ≤ a) (a1 : a ≤ row.length) : ((row.take a.toNat).length : Int) = a := by rw [List.length_take]; omega
theorem marksT {l : List Int} (h : Px l) (c : Int) : ∀ (n : Nat) (x : Int), 0 ≤ x → x ≤ l.length → (l.length : Int) - x = n → ∃ b b2 : Int, x ≤ b ∧ b ≤ l.length ∧ (b < b2 ∨ b2 = l.length) ∧ b2 ≤ l.length ∧ EvP (fun k => runs_marks.l0 k l c x) (· = (b, b2)) := by
 have hl := h.1
 have mnx : ∀ x : Int, x ≤ (l.length : Int) → mn x (l.length : Int) = x := fun x hx => by
  unfold mn
  split <;> omega
 have last : ∀ x : Int, 0 ≤ x → x ≤ (l.length : Int) → ∃ b2 : Int, (x < b2 ∨ b2 = l.length) ∧ b2 ≤ l.length ∧ EvP (fun k => (runs_change.f k l (mn x (l.length : Int)) c).bind fun t => some (mn x (l.length : Int), t)) (· = (x, b2)) := fun x x0 x1 => by
  obtain ⟨b2, h1, h2, _, _, h5⟩ := chg_is h c x (by omega) x1
  refine ⟨b2, h1, h2, ?_⟩
  rw [mnx x x1]
  refine EvP.bind h5 ?_
  rintro _ rfl
  exact EvP.ret rfl
 intro n
 induction n with
 | zero =>
  intro x x0 x1 hn
  obtain ⟨b2, h1, h2, h3⟩ := last x x0 x1
  exact ⟨x, b2, Int.le_refl _, x1, h1, h2, EvP.step (fun k => by rw [runs_marks.l0]) (EvP.neg (by omega) h3)⟩
 | succ n ih =>
  intro x x0 x1 hn
  have hx : x < (l.length : Int) := by omega
  obtain ⟨b2, h1, h2, h3⟩ := last x x0 x1
  obtain ⟨b, c2, g1, g2, g3, g4, g5⟩ := ih (x + 1) (by omega) (by omega) (by omega)
  by_cases e : rd l x ≠ c ∧ (if x > 0 then rd l (x - 1) else 0) = c
  ·obtain ⟨e1, e2⟩ := e
   refine ⟨x, b2, Int.le_refl _, x1, h1, h2, EvP.step (fun k => by rw [runs_marks.l0]) (EvP.pos hx (EvP.ite (fun xp => ?_) (fun xn => ?_)))⟩
   ·rw [if_pos xp] at e2
    rw [w64 (x := x - 1) (by omega) (by omega)]
    exact EvP.pos (by omega) (EvP.pos (by omega) (EvP.pos x0 (EvP.neg e1 (EvP.pos e2 h3))))
   ·rw [if_neg xn] at e2
    exact EvP.pos x0 (EvP.neg e1 (EvP.pos e2 h3))
  ·refine ⟨b, c2, by omega, g2, g3, g4, EvP.step (fun k => by rw [runs_marks.l0]) (EvP.pos hx ?_)⟩
   rw [w64 (x := x + 1) (by omega) (by omega)]
   refine EvP.ite (fun xp => ?_) (fun xn => ?_)
   ·rw [if_pos xp] at e
    rw [w64 (x := x - 1) (by omega) (by omega)]
    exact EvP.pos (by omega) (EvP.pos (by omega) (EvP.pos x0 (EvP.ite (fun _ => g5) (fun e1 => EvP.neg (fun y => e ⟨e1, y⟩) g5))))
   ·rw [if_neg xn] at e
    exact EvP.pos x0 (EvP.ite (fun _ => g5) (fun e1 => EvP.neg (fun y => e ⟨e1, y⟩) g5))
theorem marks_is {l : List Int} (h : Px l) (c a : Int) (a0 : -1 ≤ a) (a1 : a < l.length) : ∃ b b2 : Int, a < b ∧ b ≤ l.length ∧ (b < b2 ∨ b2 = l.length) ∧ b2 ≤ l.length ∧ EvP (fun k => runs_marks.f k l a c) (· = (b, b2)) ∧ True ∧ True := by
 have hl := h.1
 obtain ⟨b, b2, g1, g2, g3, g4, g5⟩ := marksT h c (l.length - (a + 1)).toNat (a + 1) (by omega) (by omega) (by omega)
 refine ⟨b, b2, by omega, g2, g3, g4, ?_, trivial, trivial⟩
 unfold runs_marks.f
 rw [w64 (x := a + 1) (by omega) (by omega)]
 exact g5
inductive Rel2 {α β : Type} (R : α → β → Prop) : List α → List β → Prop
 | nil : Rel2 R [] []
 | cons {a : α} {b : β} {l : List α} {m : List β} (h : R a b) (t : Rel2 R l m) : Rel2 R (a :: l) (b :: m)
def upB (d : Int) : List Int := wcs.getD (d + 5).toNat []
def rbT (n c : Int) : List Int := rbP n c
theorem progRB_is {n c : Int} (n0 : 0 ≤ n) (n1 : n ≤ 200) (hc : c = 0 ∨ c = 1) : EvP (fun k => runs_runBits.f k n c) (· = rbT n c) := (rbP_is n0 n1 hc).1
theorem rbT_is {n c : Int} (n0 : 0 ≤ n) (n1 : n ≤ 200) (hc : c = 0 ∨ c = 1) : True ∧ (rbT n c).length ≤ 64 := ⟨trivial, (rbP_is n0 n1 hc).2.2.1⟩
theorem rbT_01 {n c : Int} (n0 : 0 ≤ n) (n1 : n ≤ 200) (hc : c = 0 ∨ c = 1) : ∀ b ∈ rbT n c, b = 0 ∨ b = 1 := (rbP_is n0 n1 hc).2.2.2
theorem upB_good : (List.range 7).all (fun n => decide ((upB ((n : Int) - 3)).length ≤ 64)) = true := by decide +kernel
theorem upB_is {d : Int} (d0 : -3 ≤ d) (d1 : d ≤ 3) : True ∧ (upB d).length ≤ 64 := by
 have g := List.all_eq_true.mp upB_good (d + 3).toNat (List.mem_range.mpr (by omega))
 rw [decide_eq_true_iff, show (((d + 3).toNat : Nat) : Int) - 3 = d by omega] at g
 exact ⟨trivial, g⟩
theorem list_flat : runs_list.f 20 (⟨#[48, 48, 49]⟩ : ByteArray) = some [0, 0, 1] := by decide +kernel
theorem mbits_pass : runs_mode_bits.f 20 (⟨#[112, 97, 115, 115]⟩ : ByteArray) 0 0 0 0 = some [0, 0, 0, 1] := by decide +kernel
theorem mbits_up_good : (List.range 7).all (fun n => decide (runs_mode_bits.f 20 (⟨#[117, 112]⟩ : ByteArray) ((n : Int) - 3) 0 0 0 = some (upB ((n : Int) - 3))) && (upB ((n : Int) - 3)).all (fun b => b == 0 || b == 1)) = true := by decide +kernel
theorem mbits_up {d : Int} (d0 : -3 ≤ d) (d1 : d ≤ 3) : runs_mode_bits.f 20 (⟨#[117, 112]⟩ : ByteArray) d 0 0 0 = some (upB d) ∧ ∀ b ∈ upB d, b = 0 ∨ b = 1 := by
 have g := List.all_eq_true.mp mbits_up_good (d + 3).toNat (List.mem_range.mpr (by omega))
 rw [Bool.and_eq_true, decide_eq_true_iff, show (((d + 3).toNat : Nat) : Int) - 3 = d by omega] at g
 exact ⟨g.1, fun b hb => by simpa using List.all_eq_true.mp g.2 b hb⟩
theorem mbits_flat {n m c : Int} (n0 : 0 ≤ n) (n1 : n ≤ 200) (m0 : 0 ≤ m) (m1 : m ≤ 200) (hc : c = 0 ∨ c = 1) :
  EvP (fun k => runs_mode_bits.f k (⟨#[102, 108, 97, 116]⟩ : ByteArray) 0 n m c) (· = ([0, 0, 1] ++ rbT n c) ++ rbT m (1 - c)) := by
 unfold runs_mode_bits.f
 refine EvP.neg (by decide +kernel) (EvP.neg (by decide +kernel) ?_)
 refine EvP.bind (EvP.of (fun k => runs_list.mono _ k) list_flat) ?_
 rintro _ rfl
 refine EvP.bind (progRB_is n0 n1 hc) ?_
 rintro _ rfl
 have g1 := (rbT_is n0 n1 hc).2
 have g2 := (rbT_is (c := 1 - c) m0 m1 (by omega)).2
 refine EvP.pos (by simp; omega) (EvP.bindv rfl ?_)
 rw [w64 (x := 1 - c) (by omega) (by omega)]
 refine EvP.bind (progRB_is m0 m1 (by omega)) ?_
 rintro _ rfl
 refine EvP.pos (by simp; omega) (EvP.ret rfl)
theorem upW : (List.range 7).all (fun n => decide (upB ((n : Int) - 3) = wcs.getD (n + 2) [])) = true := by decide +kernel
theorem upW_is {d : Int} (d0 : -3 ≤ d) (d1 : d ≤ 3) : upB d = wcs.getD (d + 5).toNat [] := by
 have g := List.all_eq_true.mp upW (d + 3).toNat (List.mem_range.mpr (by omega))
 rw [decide_eq_true_iff, show (((d + 3).toNat : Nat) : Int) - 3 = d by omega, show (d + 3).toNat + 2 = (d + 5).toNat by omega] at g
 exact g
theorem rbP_rbT {n c : Int} (n0 : 0 ≤ n) (n1 : n ≤ 200) (hc : c = 0 ∨ c = 1) : rbP n c = rbT n c := EvP.det (rbP_is n0 n1 hc).1 (progRB_is n0 n1 hc)
def MBR (m : S56) (bs : List Int) : Prop := EvP (fun k => runs_mode_bits.f k m.f0 m.f1 m.f2.f0 m.f2.f1 m.f3) (· = bs) ∧ bs.length ≤ 200 ∧ ∀ b ∈ bs, b = 0 ∨ b = 1
def Rd06 (above row : List Int) (a c : Int) (bs : List Int) (a' c' : Int) : Prop := ∀ (l : List Int) (p q : Int), Byt06 l → 0 ≤ p → q ≤ en l → p ≤ q → Are l p q bs → EvP (fun k => runs_mode.f k l p true row.length a c above (row.take (max a 0).toNat)) (· = (0, q, true, a', c', row.take (max a' 0).toNat))
section
variable {above row : List Int} (hr : Px row) {a c b b2 : Int} (a0 : -1 ≤ a) (a1 : a < row.length) (hc : c = 0 ∨ c = 1) (g5 : EvP (fun k => runs_marks.f k above a c) (· = (b, b2)))
include hr a0 a1 hc g5
theorem rdPass (h : a < b2) (hb : b2 < row.length) (same : ∀ j, max a 0 ≤ j → j < b2 → rd row j = c) : Rd06 above row a c [0, 0, 0, 1] b2 c := by
 intro l p q hb' p0 hq hpq hB
 have hl := hr.1
 have hout : ((row.take (max a 0).toNat).length : Int) = max a 0 := take_len (by omega) (by omega)
 have w := word_fwd (i := 0) (by decide) hB hq
 have := modePass hb' (w := row.length) hl p0 (by omega) hc g5 w (out := row.take (max a 0).toNat) (by omega) hb
 rw [grow_take (by omega) (by omega) (by omega) same] at this
 rw [show max b2 0 = b2 by omega]
 exact this
theorem rdUp {x : Int} (d0 : x - b ≥ -3) (d1 : x - b ≤ 3) (h : a < x) (x2 : x ≤ row.length) (same : ∀ j, max a 0 ≤ j → j < x → rd row j = c) : Rd06 above row a c (upB (x - b)) x (1 - c) := by
 intro l p q hb' p0 hq hpq hB
 have hl := hr.1
 have hout : ((row.take (max a 0).toNat).length : Int) = max a 0 := take_len (by omega) (by omega)
 rw [upW_is d0 d1] at hB
 have w := word_fwd (i := (x - b + 5).toNat) (by omega) hB hq
 rw [show (((x - b + 5).toNat : Nat) : Int) = x - b + 5 by omega] at w
 have := modeUp hb' (w := row.length) hl p0 (by omega) hc g5 d0 d1 w (out := row.take (max a 0).toNat) (by omega) (by omega) (by omega) (by omega) (by omega)
 rw [show b + (x - b) = x by omega, grow_take (by omega) (by omega) x2 same] at this
 rw [show max x 0 = x by omega]
 exact this
theorem rdFlat {x y : Int} (h : a < x) (x2 : x ≤ row.length) (hy : x < y ∨ y = row.length) (y2 : y ≤ row.length) (same : ∀ j, max a 0 ≤ j → j < x → rd row j = c) (same2 : ∀ j, x ≤ j → j < y → rd row j = 1 - c) : Rd06 above row a c (([0, 0, 1] ++ rbT (x - max a 0) c) ++ rbT (y - x) (1 - c)) y c := by
 intro l p q hb' p0 hq hpq hB
 have hl := hr.1
 have hout : ((row.take (max a 0).toNat).length : Int) = max a 0 := take_len (by omega) (by omega)
 rw [← rbP_rbT (by omega) (by omega) hc, ← rbP_rbT (n := y - x) (by omega) (by omega) (by omega)] at hB
 generalize hR1 : rbP (x - max a 0) c = R1 at hB
 generalize hR2 : rbP (y - x) (1 - c) = R2 at hB
 obtain ⟨B12, B3⟩ := hB.parts
 obtain ⟨B1, B2⟩ := B12.parts
 have e3 := B3.len
 have e2 := B2.len
 have e1 := B1.len
 have w := word_fwd (i := 1) (by decide) B1 (by omega)
 have r1 := run_fwd (n := x - max a 0) (by omega) (by omega) hc (by rw [hR1]; exact B2) (by omega)
 have r2 := run_fwd (n := y - x) (c := 1 - c) (by omega) (by omega) (by omega) (by rw [hR2]; exact B3) hq
 have := modeFlat hb' (w := row.length) hl p0 (by omega) hc g5 w (by omega) (by omega) r1 r2 (out := row.take (max a 0).toNat) (by omega) (by omega) (by omega)
 rw [hout, show max a 0 + (x - max a 0) = x by omega, show x + (y - x) = y by omega, grow_take (by omega) (by omega) x2 same, grow_take (by omega) (by omega) y2 same2] at this
 rw [show max y 0 = y by omega]
 exact this
end
theorem modesF {above row : List Int} (ha : Px above) (hr : Px row) (he : above.length = row.length) : ∀ (n : Nat) (a c : Int) (o1 : List S56), At06 row a c → (row.length : Int) - a ≤ n → o1.length + n ≤ 500 →
  ∃ (d1 : List S56) (bss : List (List Int)), d1.length ≤ n ∧ EvP (fun k => runs_modes.l0 k above row o1 a c row.length) (· = o1 ++ d1) ∧ Rel2 MBR d1 bss ∧ ∀ (l : List Int) (p q : Int), Byt06 l → 0 ≤ p → q ≤ en l → Are l p q bss.flatten → EvP (fun k => runs_reader_two.l0 k l row.length above p true a c (row.take (max a 0).toNat)) (· = (row, 0, q, true)) := by
 have hl := hr.1
 intro n
 have fin : ∀ (n : Nat) (a c : Int) (o1 : List S56), At06 row a c → (¬ a < (row.length : Int) ∨ ¬ (row.length : Int) > 0) → ∃ (d1 : List S56) (bss : List (List Int)), d1.length ≤ n ∧ EvP (fun k => runs_modes.l0 k above row o1 a c row.length) (· = o1 ++ d1) ∧ Rel2 MBR d1 bss ∧ ∀ (l : List Int) (p q : Int), Byt06 l → 0 ≤ p → q ≤ en l → Are l p q bss.flatten → EvP (fun k => runs_reader_two.l0 k l row.length above p true a c (row.take (max a 0).toNat)) (· = (row, 0, q, true)) := by
  intro n a c o1 hA h
  have full : row.take (max a 0).toNat = row := List.take_of_length_le (by omega)
  refine ⟨[], [], Nat.zero_le _, ?_, .nil, fun l p q hb p0 hq hA' => ?_⟩
  ·rw [List.append_nil]
   have no : EvP (fun k => runs_modes.j1 k above row o1 a c row.length false) (· = o1) := EvP.step (fun k => by rw [runs_modes.j1]) (EvP.neg (by decide) (EvP.ret rfl))
   refine EvP.step (fun k => by rw [runs_modes.l0]) (EvP.ite (fun z => ?_) (fun _ => no))
   rw [decide_eq_false (h.resolve_left (fun y => y z))]
   exact no
  ·have hq' := hA'.len
   simp only [List.flatten_nil, List.length_nil] at hq'
   have e : p = q := by omega
   subst e
   rw [full]
   exact EvP.step (fun k => by rw [runs_reader_two.l0]) (EvP.ite (fun z => EvP.neg (h.resolve_left (fun y => y z)) (EvP.ret rfl)) (fun _ => EvP.ret rfl))
 induction n with
 | zero => exact fun a c o1 hA hn _ => fin _ a c o1 hA (by omega)
 | succ n ih =>
  intro a c o1 hA hn n1
  by_cases h : a < (row.length : Int) ∧ (row.length : Int) > 0
  ·obtain ⟨a0, a1, hc, hrow⟩ := id hA
   obtain ⟨b, b2, g1, g2, g3, g4, g5, g6, g7⟩ := marks_is ha c a a0 (by omega)
   rw [he] at g2 g3 g4
   obtain ⟨x, x1, x2, x3, x4, x5⟩ := chg_is hr (1 - c) a a0 (by omega)
   have ex : a < x := by omega
   have e256 : (1 - c) % 256 = 1 - c := by omega
   have cc : wrap64 c = c := w64 (by omega) (by omega)
   have d64 : wrap64 (x - b) = x - b := w64 (by omega) (by omega)
   have same : ∀ j, max a 0 ≤ j → j < x → rd row j = c := fun j j0 j1 => by
    by_cases z : j = a
    ·subst z; exact hrow (by omega) h.1
    ·have q1 := x3 j (by omega) j1
     have q2 := hr.at (i := j) (by omega) (by omega)
     omega
   have round : ∀ (m1 : S56) (bs : List Int) (a' c' : Int), a < a' → At06 row a' c' → MBR m1 bs →
     Rd06 above row a c bs a' c' →
     (∀ P : List S56 → Prop, EvP (fun k => if o1.length < 2932031007402 then runs_modes.l0 k above row (o1 ++ [m1]) a' c' row.length else none) P → EvP (fun k => runs_modes.l0 k above row o1 a c row.length) P) →
     ∃ (d1 : List S56) (bss : List (List Int)), d1.length ≤ n + 1 ∧ EvP (fun k => runs_modes.l0 k above row o1 a c row.length) (· = o1 ++ d1) ∧ Rel2 MBR d1 bss ∧ ∀ (l : List Int) (p q : Int), Byt06 l → 0 ≤ p → q ≤ en l → Are l p q bss.flatten → EvP (fun k => runs_reader_two.l0 k l row.length above p true a c (row.take (max a 0).toNat)) (· = (row, 0, q, true)) := by
    intro m1 bs a' c' h1 h2 h3 h4 p1
    obtain ⟨d1, bss, q1, q2, q3, q4⟩ := ih a' c' (o1 ++ [m1]) h2 (by omega) (by rw [List.length_append]; show o1.length + 1 + n ≤ 500; omega)
    refine ⟨m1 :: d1, bs :: bss, Nat.succ_le_succ q1, p1 _ (EvP.pos (by omega) ?_), .cons h3 q3, fun l p q hb p0 hq hB => ?_⟩
    ·rw [show o1 ++ m1 :: d1 = o1 ++ [m1] ++ d1 by simp]
     exact q2
    ·rw [List.flatten_cons] at hB
     obtain ⟨B1, B2⟩ := hB.parts
     have l2 := B2.len
     refine EvP.step (fun k => by rw [runs_reader_two.l0]) (EvP.pos h.1 (EvP.pos h.2 ?_))
     refine EvP.bind (h4 l p _ hb p0 (by omega) (by omega) B1) ?_
     rintro _ rfl
     exact EvP.pos rfl (q4 l _ q hb (show 0 ≤ p + (bs.length : Int) by omega) hq B2)
   have prog : ∀ (P : List S56 → Prop), EvP (fun k => if b2 < x then (if o1.length < 2932031007402 then (runs_modes.l0 k above row (o1 ++ [(⟨(⟨#[112, 97, 115, 115]⟩ : ByteArray), 0, (⟨0, 0⟩ : S54), 0⟩ : S56)]) b2 c row.length) else (none)) else (if x - b ≥ (-3) then (if x - b ≤ 3 then (if o1.length < 2932031007402 then (runs_modes.l0 k above row (o1 ++ [(⟨(⟨#[117, 112]⟩ : ByteArray), x - b, (⟨0, 0⟩ : S54), 0⟩ : S56)]) x (1 - c) row.length) else (none)) else ((runs_change.f k row x c).bind fun t229 => (if o1.length < 2932031007402 then (runs_modes.l0 k above row (o1 ++ [(⟨(⟨#[102, 108, 97, 116]⟩ : ByteArray), 0, (⟨wrap64 (x - (mx a 0)), wrap64 (t229 - x)⟩ : S54), wrap64 (c)⟩ : S56)]) t229 c row.length) else (none)))) else ((runs_change.f k row x c).bind fun t233 => (if o1.length < 2932031007402 then (runs_modes.l0 k above row (o1 ++ [(⟨(⟨#[102, 108, 97, 116]⟩ : ByteArray), 0, (⟨wrap64 (x - (mx a 0)), wrap64 (t233 - x)⟩ : S54), wrap64 (c)⟩ : S56)]) t233 c row.length) else (none))))) P → EvP (fun k => runs_modes.l0 k above row o1 a c row.length) P := by
    intro P hp
    refine EvP.step (fun k => by rw [runs_modes.l0]) (EvP.pos h.1 ?_)
    refine EvP.step (fun k => by rw [runs_modes.j1]) (EvP.pos (decide_eq_true h.2) ?_)
    refine EvP.bind g5 ?_
    rintro _ rfl
    rw [e256]
    refine EvP.bind x5 ?_
    rintro _ rfl
    rw [d64]
    exact hp
   have at_x : At06 row x (1 - c) := ⟨by omega, x2, by omega, fun _ z => x4 z⟩
   by_cases k1 : b2 < x
   ·refine round (⟨(⟨#[112, 97, 115, 115]⟩ : ByteArray), 0, (⟨0, 0⟩ : S54), 0⟩ : S56) [0, 0, 0, 1] b2 c (by omega) ⟨by omega, g4, hc, fun q0 _ => same b2 (by omega) k1⟩ ⟨EvP.of (fun k => runs_mode_bits.mono _ _ _ _ _ k) mbits_pass, show ([0, 0, 0, 1] : List Int).length ≤ 200 from by decide, show ∀ b ∈ ([0, 0, 0, 1] : List Int), b = 0 ∨ b = 1 from by decide⟩ (rdPass hr a0 h.1 hc g5 (by omega) (by omega) (fun j j0 j1 => same j j0 (by omega))) (fun P hp => prog P (EvP.pos k1 hp))
   ·by_cases k2 : x - b ≥ -3 ∧ x - b ≤ 3
    ·obtain ⟨u1, u2⟩ := mbits_up k2.1 k2.2
     refine round (⟨(⟨#[117, 112]⟩ : ByteArray), x - b, (⟨0, 0⟩ : S54), 0⟩ : S56) (upB (x - b)) x (1 - c) ex at_x ⟨EvP.of (fun k => runs_mode_bits.mono _ _ _ _ _ k) u1, by have := (upB_is k2.1 k2.2).2; omega, u2⟩ (rdUp hr a0 h.1 hc g5 k2.1 k2.2 ex x2 same) (fun P hp => prog P (EvP.neg k1 (EvP.pos k2.1 (EvP.pos k2.2 hp))))
    ·obtain ⟨y, y1, y2, y3, y4, y5⟩ := chg_is hr c x (by omega) x2
     have same2 : ∀ j, x ≤ j → j < y → rd row j = 1 - c := fun j j0 j1 => by
      by_cases z : j = x
      ·subst z; exact x4 (by omega)
      ·have q1 := y3 j (by omega) j1
       have q2 := hr.at (i := j) (by omega) (by omega)
       omega
     have hm : mx a 0 = max a 0 := by unfold mx; omega
     have w1 : wrap64 (x - max a 0) = x - max a 0 := w64 (by omega) (by omega)
     have w2 : wrap64 (y - x) = y - x := w64 (by omega) (by omega)
     have l1 := (rbT_is (n := x - max a 0) (c := c) (by omega) (by omega) hc).2
     have l2 := (rbT_is (n := y - x) (c := 1 - c) (by omega) (by omega) (by omega)).2
     refine round (⟨(⟨#[102, 108, 97, 116]⟩ : ByteArray), 0, (⟨x - max a 0, y - x⟩ : S54), c⟩ : S56) (([0, 0, 1] ++ rbT (x - max a 0) c) ++ rbT (y - x) (1 - c)) y c (by omega) ⟨by omega, y2, hc, fun _ z => y4 z⟩ ⟨mbits_flat (n := x - max a 0) (m := y - x) (c := c) (by omega) (by omega) (by omega) (by omega) hc, ?_, ?_⟩ (rdFlat hr a0 h.1 hc g5 ex x2 y1 y2 same same2) (fun P hp => prog P (EvP.neg k1 ?_))
     ·rw [List.length_append, List.length_append]
      show 3 + _ + _ ≤ 200
      omega
     ·intro z hz
      rcases List.mem_append.mp hz with hz | hz
      ·rcases List.mem_append.mp hz with hz | hz
       ·exact (show ∀ z ∈ ([0, 0, 1] : List Int), z = 0 ∨ z = 1 by decide) z hz
       ·exact rbT_01 (by omega) (by omega) hc z hz
      ·exact rbT_01 (by omega) (by omega) (by omega) z hz
     ·have go : EvP (fun k => (runs_change.f k row x c).bind fun t229 => (if o1.length < 2932031007402 then (runs_modes.l0 k above row (o1 ++ [(⟨(⟨#[102, 108, 97, 116]⟩ : ByteArray), 0, (⟨wrap64 (x - (mx a 0)), wrap64 (t229 - x)⟩ : S54), wrap64 (c)⟩ : S56)]) t229 c row.length) else (none))) P := by
       refine EvP.bind y5 ?_
       rintro _ rfl
       rw [hm, w1, w2, cc]
       exact hp
      exact EvP.ite (fun z => EvP.neg (fun w => k2 ⟨z, w⟩) go) (fun _ => go)
  ·exact fin _ a c o1 hA (by omega)
def Byt (p : List Int) : Prop := ∀ x ∈ p, 0 ≤ x ∧ x ≤ 255
theorem wf_byt {p : List Int} (h : ∀ y ∈ p, (Lit.int .u8 y).wf = true) : Byt p := fun x hx => by
 have h1 : (decide (IntKind.u8.min ≤ x) && decide (x ≤ IntKind.u8.max)) = true := h x hx
 obtain ⟨a, b⟩ := Bool.and_eq_true_iff.mp h1
 exact ⟨of_decide_eq_true a, of_decide_eq_true b⟩
def rl (c : Int) : List Int → Nat
 | [] => 0
 | x :: xs => if x = c then rl c xs + 1 else 0
def rle : Nat → Int → List Int → List Int
 | 0, _, _ => []
 | _ + 1, _, [] => []
 | n + 1, c, x :: xs => (rl c (x :: xs) : Int) :: rle n ((1 - c) % 256) ((x :: xs).drop (rl c (x :: xs)))
theorem rl_le (c : Int) : ∀ l : List Int, rl c l ≤ l.length
 | [] => Nat.le_refl _
 | x :: xs => by
  have ih := rl_le c xs
  unfold rl
  split
  ·rw [List.length_cons]; omega
  ·exact Nat.zero_le _
theorem rl_take (c : Int) : ∀ l : List Int, l.take (rl c l) = List.replicate (rl c l) c
 | [] => rfl
 | x :: xs => by
  unfold rl
  split
  ·next h => rw [List.take_succ_cons, List.replicate_succ, rl_take c xs, h]
  ·rfl
theorem rl_at (c : Int) : ∀ l : List Int, ∀ x t, l.drop (rl c l) = x :: t → x ≠ c
 | [], x, t, h => by cases h
 | y :: ys, x, t, h => by
  unfold rl at h
  split at h
  ·exact rl_at c ys x t h
  ·next g => rw [← (List.cons.inj h).1]; exact g
theorem rl_end {p : List Int} {c i : Int} (h : (p.length : Int) ≤ i) : rl c (p.drop i.toNat) = 0 := by rw [drop_end h]; rfl
theorem rl_hit {p : List Int} {c i : Int} (i0 : 0 ≤ i) (i1 : i < (p.length : Int)) (h : rd p i = c) : rl c (p.drop i.toNat) = rl c (p.drop (i + 1).toNat) + 1 := by
 rw [drop_rd i0 i1]
 show (if _ then _ else _) = _
 rw [if_pos h]
theorem rl_miss {p : List Int} {c i : Int} (i0 : 0 ≤ i) (i1 : i < (p.length : Int)) (h : ¬ rd p i = c) : rl c (p.drop i.toNat) = 0 := by
 rw [drop_rd i0 i1]
 show (if _ then _ else _) = _
 rw [if_neg h]
theorem drop2 {p : List Int} {i : Int} {n : Nat} (i0 : 0 ≤ i) : (p.drop i.toNat).drop n = p.drop (i + n).toNat := by
 rw [List.drop_drop]
 congr 1
 omega
theorem rle_nil (n : Nat) (c : Int) : rle n c [] = [] := by cases n <;> rfl
def left (c : Int) : List Int → Nat
 | [] => 0
 | x :: xs => xs.length + 1 + if x = c then 0 else 1
theorem left_nil {c : Int} {l : List Int} (h : left c l ≤ 0) : l = [] := by
 cases l with
 | nil => rfl
 | cons x xs =>
  exfalso
  have h : xs.length + 1 + (if x = c then 0 else 1) ≤ 0 := h
  omega
theorem left_le (c : Int) (l : List Int) : left c l ≤ l.length + 1 := by
 cases l with
 | nil => exact Nat.zero_le _
 | cons x xs =>
  show xs.length + 1 + (if x = c then 0 else 1) ≤ (x :: xs).length + 1
  rw [List.length_cons]
  split <;> omega
theorem left_step {c : Int} {x : Int} {xs : List Int} (hc : c = 0 ∨ c = 1) (h01 : ∀ y ∈ x :: xs, y = 0 ∨ y = 1) : left ((1 - c) % 256) ((x :: xs).drop (rl c (x :: xs))) + 1 ≤ left c (x :: xs) := by
 have hle := rl_le c (x :: xs)
 cases e : (x :: xs).drop (rl c (x :: xs)) with
 | nil =>
  show 0 + 1 ≤ xs.length + 1 + _
  omega
 | cons y ys =>
  have hy := rl_at c _ y ys e
  have hm : y ∈ x :: xs := List.mem_of_mem_drop (show y ∈ (x :: xs).drop (rl c (x :: xs)) by rw [e]; exact List.mem_cons_self ..)
  have hy01 := h01 y hm
  have hyc : y = (1 - c) % 256 := by omega
  have hl : ys.length + 1 = (x :: xs).length - rl c (x :: xs) := by rw [← List.length_drop, e]; rfl
  rw [List.length_cons] at hl hle
  show ys.length + 1 + (if y = (1 - c) % 256 then 0 else 1) + 1 ≤ xs.length + 1 + (if x = c then 0 else 1)
  rw [if_pos hyc]
  by_cases z : x = c
  ·rw [if_pos z]
   have : rl c (x :: xs) = rl c xs + 1 := by
    show (if x = c then _ else _) = _
    rw [if_pos z]
   omega
  ·rw [if_neg z]
   omega
theorem flip01 {c : Int} (hc : c = 0 ∨ c = 1) : (1 - c) % 256 = 0 ∨ (1 - c) % 256 = 1 := by omega
instance (w h : Int) (p : List Int) : Decidable (Val w h p) := by unfold Val; exact inferInstance
theorem sid_mul {w h : Int} (hw : 0 ≤ w) (hh : 0 ≤ h) (hw' : w ≤ 200) (hh' : h ≤ 200) : 0 ≤ w * h ∧ w * h ≤ 40000 := by
 have h1 : 0 ≤ w * h := Int.mul_nonneg hw hh
 have h2 : w * h ≤ 200 * h := Int.mul_le_mul_of_nonneg_right hw' hh
 omega
theorem fits_is (w h : Int) : bitmap_fits.f w h = some (decide (Sid w h)) := by
 unfold bitmap_fits.f
 by_cases h1 : 0 ≤ w ∧ 0 ≤ h ∧ w ≤ 200 ∧ h ≤ 200
 ·obtain ⟨a, b, c, d⟩ := h1
  have := sid_mul a b c d
  rw [if_pos (by omega), if_pos (by omega), if_pos c, if_pos d, w64 (by omega) (by omega)]
  simp [Sid, a, b, c, d]
 ·have h2 : ¬ Sid w h := fun s => h1 ⟨s.1, s.2.1, s.2.2.1, s.2.2.2.1⟩
  simp only [h2, decide_false]
  split
  ·split
   ·split
    ·split
     ·omega
     ·rfl
    ·rfl
   ·rfl
  ·rfl
theorem Valid_l0 (p : List Int) (hl : (p.length : Int) ≤ 9223372036854775807) : EvP (fun k => bitmap_Valid.l0 k p (p.length : Int) 0) (· = decide (∀ x ∈ p, x ≤ 1)) := by
 refine EvP.up (L := fun k i (_ : Unit) => bitmap_Valid.l0 k p (p.length : Int) i) (fun i _ => 0 ≤ i ∧ ∀ j, 0 ≤ j → j < i → rd p j ≤ 1) p.length ?_ 0 () (by omega) ⟨by omega, fun j _ _ => by omega⟩
 intro i _ ⟨h0, hb⟩ hi ih
 refine EvP.step (fun k => by rw [bitmap_Valid.l0]) ?_
 refine EvP.ite (fun h1 => ?_) (fun h1 => ?_)
 ·refine EvP.pos h0 (EvP.pos h1 (EvP.ite (fun h2 => EvP.ret ?_) (fun h2 => ?_)))
  ·symm
   rw [decide_eq_false_iff_not]
   intro hall
   have := hall _ (rd_mem h0 h1)
   omega
  ·rw [w64 (by omega) (by omega)]
   refine ih () h1 ⟨by omega, fun j hj hj' => ?_⟩
   rcases Int.lt_or_le j i with hji | hji
   ·exact hb j hj hji
   ·have : j = i := by omega
    subst this
    omega
 ·refine EvP.ret ?_
  symm
  rw [decide_eq_true_iff]
  intro x hx
  obtain ⟨n, hn, rfl⟩ := List.getElem_of_mem hx
  have := hb (n : Int) (by omega) (by omega)
  rwa [rd_get p n hn] at this
theorem Valid_is (w h : Int) (p : List Int) (hp : ∀ x ∈ p, 0 ≤ x) (hl : (p.length : Int) ≤ 9223372036854775807) : EvP (fun k => bitmap_Valid.f k w h p) (· = decide (Val w h p)) := by
 unfold bitmap_Valid.f
 refine EvP.bindv (fits_is w h) ?_
 refine EvP.ite (fun h1 => ?_) (fun h1 => ?_)
 ·rw [decide_eq_true_iff] at h1
  have hm := sid_mul h1.1 h1.2.1 h1.2.2.1 h1.2.2.2.1
  rw [w64 (by omega) (by omega)]
  refine EvP.step (fun k => by rw [bitmap_Valid.j0]) ?_
  refine EvP.ite (fun h2 => EvP.ret ?_) (fun h2 => ?_)
  ·symm
   rw [decide_eq_false_iff_not]
   intro v
   simp [v.2.2.2.2.2.1] at h2
  ·refine (Valid_l0 p hl).mono ?_
   rintro r rfl
   have e : (p.length : Int) = w * h := by simpa using h2
   apply decide_eq_decide.mpr
   constructor
   ·intro hall
    exact ⟨h1.1, h1.2.1, h1.2.2.1, h1.2.2.2.1, h1.2.2.2.2, e, fun x hx => ⟨hp x hx, hall x hx⟩⟩
   ·intro v x hx
    exact (v.2.2.2.2.2.2 x hx).2
 ·refine EvP.step (fun k => by rw [bitmap_Valid.j0]) ?_
  refine EvP.pos rfl (EvP.ret ?_)
  symm
  rw [decide_eq_false_iff_not]
  intro v
  exact h1 (decide_eq_true v.sid)
def rowAt (w : Int) (p : List Int) (y : Int) : List Int := (p.take ((y + 1) * w).toNat).drop (y * w).toNat
theorem rowAt_px {w h : Int} {p : List Int} (v : Val w h p) {y : Int} (y0 : 0 ≤ y) (y1 : y < h) : Px (rowAt w p y) ∧ ((rowAt w p y).length : Int) = w := by
 obtain ⟨w0, h0, w1, h1, _, hl, hp⟩ := v
 have a : 0 ≤ y * w := Int.mul_nonneg y0 w0
 have b : (y + 1) * w ≤ h * w := Int.mul_le_mul_of_nonneg_right (by omega) w0
 have c : (y + 1) * w = y * w + w := by rw [Int.add_mul, Int.one_mul]
 have hlen : ((rowAt w p y).length : Int) = w := by
  unfold rowAt
  rw [List.length_drop, List.length_take]
  rw [Int.mul_comm h w] at b
  omega
 refine ⟨⟨by omega, fun z hz => ?_⟩, hlen⟩
 have := hp z (List.mem_of_mem_take (List.mem_of_mem_drop hz))
 omega
theorem mulB {w h y : Int} {p : List Int} (v : Val w h p) (y0 : 0 ≤ y) (y1 : y < h) : 0 ≤ y * w ∧ y * w ≤ (y + 1) * w ∧ (y + 1) * w ≤ (p.length : Int) ∧ (p.length : Int) ≤ 8192 := by
 obtain ⟨w0, h0, w1, h1, hm, hl, hp⟩ := v
 have a : 0 ≤ y * w := Int.mul_nonneg y0 w0
 have b : (y + 1) * w ≤ h * w := Int.mul_le_mul_of_nonneg_right (by omega) w0
 have c : (y + 1) * w = y * w + w := by rw [Int.add_mul, Int.one_mul]
 rw [Int.mul_comm h w] at b
 omega
theorem lines_is {w h : Int} {p : List Int} (v : Val w h p) : EvP (fun k => runs_lines.f k w h p) (· = (List.range h.toNat).map fun y : Nat => rowAt w p y) := by
 have hh := v.2.1
 have hh2 := v.2.2.2.1
 unfold runs_lines.f
 refine EvP.up (L := fun k i (s : List (List Int)) => runs_lines.l0 k s h i w h p) (fun i s => 0 ≤ i ∧ s = (List.range i.toNat).map fun y : Nat => rowAt w p y) h ?_ 0 [] hh ⟨Int.le_refl _, rfl⟩
 intro i s ⟨i0, hs⟩ hn ih
 refine EvP.step (fun k => by rw [runs_lines.l0]) (EvP.ite (fun i1 => ?_) (fun i1 => EvP.ret ?_))
 ·obtain ⟨a, b, c, d⟩ := mulB v i0 i1
  have wi : wrap64 (i + 1) = i + 1 := w64 (by omega) (by omega)
  have w1 : wrap64 (i * w) = i * w := w64 (by omega) (by omega)
  have w2 : wrap64 ((i + 1) * w) = (i + 1) * w := w64 (by omega) (by omega)
  rw [wi, w1, w2]
  refine EvP.pos a (EvP.pos b (EvP.pos c (EvP.pos (by rw [hs, List.length_map, List.length_range]; omega) ?_)))
  refine ih _ i1 ⟨by omega, ?_⟩
  rw [hs, show (i + 1).toNat = i.toNat + 1 by omega, List.range_succ, List.map_append, List.map_singleton, show ((i.toNat : Nat) : Int) = i by omega]
  rfl
 ·rw [hs, show i = h by omega]
def B01 (l : List Int) : Prop := ∀ b ∈ l, b = 0 ∨ b = 1
theorem B01.app {l m : List Int} (h : B01 l) (k : B01 m) : B01 (l ++ m) := fun b hb => (List.mem_append.mp hb).elim (h b) (k b)
theorem rle_len : ∀ (n : Nat) (c : Int) (l : List Int), (rle n c l).length ≤ n := by
 intro n
 induction n with
 | zero => intro c l; exact Nat.le_refl _
 | succ n ih =>
  intro c l
  cases l with
  | nil => exact Nat.zero_le _
  | cons x xs => exact Nat.succ_le_succ (ih _ _)
theorem rle_in : ∀ (n : Nat) (c : Int) (l : List Int), (l.length : Int) ≤ 200 → ∀ x ∈ rle n c l, 0 ≤ x ∧ x ≤ 200 := by
 intro n
 induction n with
 | zero => intro c l hl x hx; cases hx
 | succ n ih =>
  intro c l hl x hx
  cases l with
  | nil => cases hx
  | cons z zs =>
   have hle := rl_le c (z :: zs)
   rcases List.mem_cons.mp hx with rfl | hx
   ·omega
   ·exact ih _ _ (by rw [List.length_drop]; omega) x hx
theorem rd_lines {w h : Int} {p : List Int} {i : Int} (i0 : 0 ≤ i) (i1 : i < h) : rd_L8 ((List.range h.toNat).map fun y : Nat => rowAt w p y) i = rowAt w p i := by
 have hi : i.toNat < h.toNat := by omega
 simp [rd_L8, List.getD, List.getElem?_map, List.getElem?_range hi, show ((i.toNat : Nat) : Int) = i by omega]
def upAt (w : Int) (p : List Int) (y : Int) : List Int := if y = 0 then List.replicate w.toNat 0 else rowAt w p (y - 1)
theorem upAt_is {w h : Int} {p : List Int} (v : Val w h p) {y : Int} (y0 : 0 ≤ y) (y1 : y < h) : Px (upAt w p y) ∧ ((upAt w p y).length : Int) = w ∧ True := by
 have w0 := v.1
 have w1 := v.2.2.1
 unfold upAt
 by_cases z : y = 0
 ·rw [if_pos z]
  exact ⟨⟨by rw [List.length_replicate]; omega, fun x hx => .inl (List.eq_of_mem_replicate hx)⟩, by rw [List.length_replicate]; omega, trivial⟩
 ·rw [if_neg z]
  obtain ⟨a, b⟩ := rowAt_px v (y := y - 1) (by omega) (by omega)
  exact ⟨a, b, trivial⟩
theorem orShl_good : (List.range 256).all (fun v => (List.range 8).all fun j => v % 2 ^ (8 - j) != 0 || ((List.range 2).all fun b =>
  decide (Go.bits .or .u8 (v : Int) (shl .u8 (b : Int) (7 - (j : Int))) = ((v : Int) + shl .u8 (b : Int) (7 - (j : Int))) % 256) && decide (((v : Int) + shl .u8 (b : Int) (7 - (j : Int))) % 256 % (2 ^ (7 - j) : Nat) = 0))) = true := by decide +kernel
theorem orShl {v b : Int} {j : Nat} (v0 : 0 ≤ v) (v1 : v ≤ 255) (hj : j < 8) (hb : b = 0 ∨ b = 1) (hz : v % (2 ^ (8 - j) : Nat) = 0) :
  Go.bits .or .u8 v (shl .u8 b (7 - (j : Int))) = (v + shl .u8 b (7 - (j : Int))) % 256 ∧ (v + shl .u8 b (7 - (j : Int))) % 256 % (2 ^ (7 - j) : Nat) = 0 := by
 have g := List.all_eq_true.mp (List.all_eq_true.mp orShl_good v.toNat (List.mem_range.mpr (by omega))) j (List.mem_range.mpr hj)
 obtain ⟨n, rfl⟩ : ∃ n : Nat, v = n := ⟨v.toNat, by omega⟩
 rw [Int.toNat_natCast, Bool.or_eq_true] at g
 have hz' : n % 2 ^ (8 - j) = 0 := by exact_mod_cast hz
 rcases g with g | g
 ·simp [hz'] at g
 ·obtain ⟨m, rfl⟩ : ∃ m : Nat, b = m := ⟨b.toNat, by omega⟩
  have g := List.all_eq_true.mp g m (List.mem_range.mpr (by omega))
  rw [Bool.and_eq_true, decide_eq_true_iff, decide_eq_true_iff] at g
  exact g
theorem packBit_good : (List.range 256).all (fun v => (List.range 8).all fun m => v % 2 ^ (8 - m) != 0 || ((List.range 2).all fun b => (List.range 8).all fun j =>
  let u := ((v : Int) + shl .u8 (b : Int) (7 - (m : Int))) % 256
  decide (m < j) || decide (Int.tmod (shr .u8 u (7 - (j : Int))) 2 = if j = m then (b : Int) else Int.tmod (shr .u8 (v : Int) (7 - (j : Int))) 2))) = true := by decide +kernel
theorem packBit {v b : Int} {m j : Nat} (v0 : 0 ≤ v) (v1 : v ≤ 255) (hm : m < 8) (hj : j ≤ m) (hb : b = 0 ∨ b = 1) (hz : v % (2 ^ (8 - m) : Nat) = 0) :
  Int.tmod (shr .u8 ((v + shl .u8 b (7 - (m : Int))) % 256) (7 - (j : Int))) 2 = if j = m then b else Int.tmod (shr .u8 v (7 - (j : Int))) 2 := by
 have g := List.all_eq_true.mp (List.all_eq_true.mp packBit_good v.toNat (List.mem_range.mpr (by omega))) m (List.mem_range.mpr hm)
 obtain ⟨n, rfl⟩ : ∃ n : Nat, v = n := ⟨v.toNat, by omega⟩
 rw [Int.toNat_natCast, Bool.or_eq_true] at g
 have hz' : n % 2 ^ (8 - m) = 0 := by exact_mod_cast hz
 rcases g with g | g
 ·simp [hz'] at g
 ·obtain ⟨q, rfl⟩ : ∃ q : Nat, b = q := ⟨b.toNat, by omega⟩
  have g := List.all_eq_true.mp (List.all_eq_true.mp g q (List.mem_range.mpr (by omega))) j (List.mem_range.mpr (by omega))
  simp only [Bool.or_eq_true, decide_eq_true_iff] at g
  rcases g with g | g
  ·omega
  ·exact g
theorem packP_l0 (bs : List Int) (hb : ∀ b ∈ bs, b = 0 ∨ b = 1) (hl : (bs.length : Int) ≤ 100000000) : ∀ (n : Nat) (i : Int) (x : List Int), 0 ≤ i → (bs.length : Int) - i = n → (x.length : Int) = ((bs.length : Int) + 7) / 8 → (∀ j, 0 ≤ j → j < (x.length : Int) → 0 ≤ rd x j ∧ rd x j ≤ 255) →
  (∀ j, i / 8 < j → j < (x.length : Int) → rd x j = 0) → (i / 8 < (x.length : Int) → rd x (i / 8) % (2 ^ (8 - (i % 8).toNat) : Nat) = 0) → (∀ j, 0 ≤ j → j < i → bitI x j = rd bs j) →
  ∃ r : List Int, EvP (fun k => bits_Pack.l0 k x bs (bs.length : Int) i) (· = (r, 0)) ∧ r.length = x.length ∧ (∀ j, 0 ≤ j → j < (r.length : Int) → 0 ≤ rd r j ∧ rd r j ≤ 255) ∧ (∀ j, 0 ≤ j → j < (bs.length : Int) → bitI r j = rd bs j) := by
 intro n
 induction n with
 | zero =>
  intro i x i0 hn hx h1 h2 h3 h4
  exact ⟨x, EvP.step (fun k => by rw [bits_Pack.l0]) (EvP.neg (by omega) (EvP.ret rfl)), rfl, h1, fun j a b => h4 j a (by omega)⟩
 | succ n ih =>
  intro i x i0 hn hx h1 h2 h3 h4
  have i1 : i < (bs.length : Int) := by omega
  have q1 : i / 8 < (x.length : Int) := by omega
  have q0 : 0 ≤ i / 8 := by omega
  have hbi := hb _ (rd_mem i0 i1)
  obtain ⟨v0, v1⟩ := h1 (i / 8) q0 q1
  have e7 : 7 - i % 8 = 7 - (((i % 8).toNat : Nat) : Int) := by omega
  obtain ⟨g1, g2⟩ := orShl v0 v1 (j := (i % 8).toNat) (by omega) hbi (h3 q1)
  rw [← e7] at g1 g2
  have ed : Int.tdiv i 8 = i / 8 := Int.tdiv_eq_ediv_of_nonneg i0
  have em : Int.tmod i 8 = i % 8 := Int.tmod_eq_emod_of_nonneg i0
  have wd : wrap64 (i / 8) = i / 8 := w64 (by omega) (by omega)
  have wm : wrap64 (7 - i % 8) = 7 - i % 8 := w64 (by omega) (by omega)
  have wi : wrap64 (i + 1) = i + 1 := w64 (by omega) (by omega)
  obtain ⟨r, r1, r3, r4, r5⟩ := ih (i + 1) (x.set (i / 8).toNat ((rd x (i / 8) + shl .u8 (rd bs i) (7 - i % 8)) % 256)) (by omega) (by omega) (by rw [List.length_set]; exact hx)
   (fun j j0 j1 => by
    rw [List.length_set] at j1
    rw [rd_set x (i / 8) j _ q0 q1 j0]
    split
    ·omega
    ·exact h1 j j0 j1)
   (fun j j0 j1 => by
    rw [List.length_set] at j1
    rw [rd_set x (i / 8) j _ q0 q1 (by omega), if_neg (by omega)]
    exact h2 j (by omega) j1)
   (fun j1 => by
    rw [List.length_set] at j1
    rw [rd_set x (i / 8) _ _ q0 q1 (by omega)]
    by_cases z : (i + 1) / 8 = i / 8
    ·rw [if_pos z, show 8 - ((i + 1) % 8).toNat = 7 - (i % 8).toNat by omega]
     exact g2
    ·rw [if_neg z, h2 _ (by omega) j1]
     exact Int.zero_emod _)
   (fun j j0 j1 => by
    unfold bitI
    rw [rd_set x (i / 8) (j / 8) _ q0 q1 (by omega)]
    by_cases z : j / 8 = i / 8
    ·rw [if_pos z]
     have pb := packBit (v := rd x (i / 8)) (b := rd bs i) (m := (i % 8).toNat) (j := (j % 8).toNat) v0 v1 (by omega) (by omega) hbi (h3 q1)
     rw [show (((i % 8).toNat : Nat) : Int) = i % 8 by omega, show (((j % 8).toNat : Nat) : Int) = j % 8 by omega] at pb
     rw [pb]
     by_cases y : j = i
     ·rw [if_pos (by omega), y]
     ·rw [if_neg (by omega), ← z]
      exact h4 j j0 (by omega)
    ·rw [if_neg z]
     exact h4 j j0 (by omega))
  rw [List.length_set] at r3
  refine ⟨r, ?_, r3, r4, r5⟩
  refine EvP.step (fun k => by rw [bits_Pack.l0]) ?_
  rw [ed, em, wd, wm, wi, g1]
  exact EvP.pos i1 (EvP.pos i0 (EvP.pos i1 (EvP.neg (by omega) (EvP.pos q0 (EvP.pos q1 (EvP.pos (by omega) r1))))))
theorem packP (bs : List Int) (hb : ∀ b ∈ bs, b = 0 ∨ b = 1) (hl : (bs.length : Int) ≤ 100000000) : ∃ r : List Int, EvP (fun k => bits_Pack.f k bs) (· = (r, 0)) ∧ (r.length : Int) = ((bs.length : Int) + 7) / 8 ∧ Byt06 r ∧ ∀ j, 0 ≤ j → j < (bs.length : Int) → bitI r j = rd bs j := by
 have w1 : wrap64 ((bs.length : Int) + 7) = (bs.length : Int) + 7 := w64 (by omega) (by omega)
 have ed : Int.tdiv ((bs.length : Int) + 7) 8 = ((bs.length : Int) + 7) / 8 := Int.tdiv_eq_ediv_of_nonneg (by omega)
 have w2 : wrap64 (((bs.length : Int) + 7) / 8) = ((bs.length : Int) + 7) / 8 := w64 (by omega) (by omega)
 have hz : ∀ j : Int, 0 ≤ j → j < ((List.replicate (((bs.length : Int) + 7) / 8).toNat (0 : Int)).length : Int) → rd (List.replicate (((bs.length : Int) + 7) / 8).toNat (0 : Int)) j = 0 := fun j j0 j1 => by
  rw [List.length_replicate] at j1
  exact rd_replicate _ _ _ j0 j1
 obtain ⟨r, r1, r3, r4, r5⟩ := packP_l0 bs hb hl bs.length 0 (List.replicate (((bs.length : Int) + 7) / 8).toNat 0) (by omega) (by omega) (by rw [List.length_replicate]; omega) (fun j j0 j1 => by rw [hz j j0 j1]; omega) (fun j j0 j1 => hz j (by omega) j1) (fun j1 => by rw [show (0 : Int) / 8 = 0 from rfl] at *; rw [hz 0 (by omega) j1]; rfl) (fun j a b => by omega)
 rw [List.length_replicate] at r3
 refine ⟨r, ?_, by omega, ⟨fun y hy => ?_, by omega⟩, r5⟩
 ·unfold bits_Pack.f
  rw [w1, ed, w2]
  exact EvP.pos (by omega) (EvP.pos (by omega) r1)
 ·obtain ⟨i, hi, he⟩ := List.getElem_of_mem hy
  have := r4 (i : Int) (by omega) (by omega)
  rw [rd_get r i hi, he] at this
  exact this
theorem blank_is (w h : Int) : bitmap_blank.f w h = some (if Sid w h then (w, h, tab w h (fun _ _ => 0), 0) else (0, 0, [], 4)) := by
 unfold bitmap_blank.f
 rw [fits_is, Option.bind_some]
 by_cases s : Sid w h
 ·have hm := sid_mul s.1 s.2.1 s.2.2.1 s.2.2.2.1
  rw [if_pos (decide_eq_true s), if_pos s, w64 (by omega) (by omega), if_pos (by omega), if_pos (by omega), replicate_tab s.1 s.2.1]
 ·rw [if_neg (by simpa using s), if_neg s]
def newR (w h c : Int) : Int × Int × List Int × Int := if w < 0 ∨ h < 0 ∨ (c ≠ 0 ∧ c ≠ 1) then (0, 0, [], 2) else if Sid w h then (w, h, tab w h (fun _ _ => c), 0) else (0, 0, [], 4)
theorem New_j0 (w h c : Int) (b : Bool) (hb : b = true ↔ (w < 0 ∨ h < 0 ∨ (c ≠ 0 ∧ c ≠ 1))) : EvP (fun k => bitmap_New.j0 k w h c b) (· = newR w h c) := by
 refine EvP.step (fun k => by rw [bitmap_New.j0]) ?_
 refine EvP.ite (fun h1 => EvP.ret ?_) (fun h1 => ?_)
 ·unfold newR
  rw [if_pos (hb.mp h1)]
 ·have hn : ¬ (w < 0 ∨ h < 0 ∨ (c ≠ 0 ∧ c ≠ 1)) := fun q => h1 (hb.mpr q)
  unfold newR
  rw [if_neg hn]
  refine EvP.bindv (blank_is w h) ?_
  by_cases s : Sid w h
  ·simp only [if_pos s]
   have hm := sid_mul s.1 s.2.1 s.2.2.1 s.2.2.2.1
   have hlen : ((tab w h fun _ _ => (0 : Int)).length : Int) = w * h := by rw [tab_length]; omega
   refine EvP.fill (L := fun k i l => bitmap_New.l0 k c 0 ((tab w h fun _ _ => 0).length : Int) i w h l) (tab w h fun _ _ => 0) (fun _ => c) ?_ ?_
   ·intro i l h0 h2 hl hr hk
    refine EvP.step (fun k => by rw [bitmap_New.l0]) ?_
    refine EvP.pos h2 (EvP.pos h0 (EvP.pos (by omega) ?_))
    rw [w64 (by omega) (by omega), show c % 256 = c by omega]
    exact hk
   ·refine EvP.step (fun k => by rw [bitmap_New.l0]) ?_
    refine EvP.neg (by omega) (EvP.ret ?_)
    rw [lmap_tab (w := w) (h := h) (g := fun _ _ => c) s.1 s.2.1 (by omega) (fun _ _ _ _ _ _ => rfl)]
  ·simp only [if_neg s]
   refine EvP.step (fun k => by rw [bitmap_New.l0]) ?_
   exact EvP.neg (by simp) (EvP.ret rfl)
theorem New_is (w h c : Int) : EvP (fun k => bitmap_New.f k w h c) (· = newR w h c) := by
 unfold bitmap_New.f
 refine EvP.ite (fun h1 => New_j0 w h c true (by simp [h1])) (fun h1 => ?_)
 refine EvP.ite (fun h2 => New_j0 w h c true (by simp [h2])) (fun h2 => ?_)
 refine EvP.ite (fun h3 => New_j0 w h c _ (by simp; omega)) (fun h3 => New_j0 w h c _ (by simp; omega))
theorem Rel2.len {α β : Type} {R : α → β → Prop} {l : List α} {m : List β} (h : Rel2 R l m) : l.length = m.length := by
 induction h with
 | nil => rfl
 | cons _ _ ih => rw [List.length_cons, List.length_cons, ih]
def RowB (above row bs : List Int) : Prop := ∃ (d1 : List S56) (bss : List (List Int)), d1.length ≤ 201 ∧ EvP (fun k => runs_modes.f k above row) (· = d1) ∧ Rel2 MBR d1 bss ∧ bs = bss.flatten
theorem bss_01 {d1 : List S56} {bss : List (List Int)} (h : Rel2 MBR d1 bss) : B01 bss.flatten ∧ bss.flatten.length ≤ d1.length * 200 := by
 induction h with
 | nil => exact ⟨(fun b hb => by cases hb), Nat.le_refl _⟩
 | cons a t ih =>
  rw [List.flatten_cons, List.length_append, List.length_cons]
  exact ⟨B01.app a.2.2 ih.1, by have := a.2.1; have := ih.2; omega⟩
theorem RowB.b01 {above row bs : List Int} (h : RowB above row bs) : B01 bs ∧ bs.length ≤ 40200 := by
 obtain ⟨d1, bss, h1, h2, h3, rfl⟩ := h
 have := bss_01 h3
 exact ⟨this.1, by omega⟩
theorem Rel2.det {d1 : List S56} {b1 b2 : List (List Int)} (h : Rel2 MBR d1 b1) : ∀ {b2 : List (List Int)}, Rel2 MBR d1 b2 → b1 = b2 := by
 induction h with
 | nil => intro b2 k; cases k; rfl
 | cons a t ih =>
  intro b2 k
  cases k with
  | cons c u => rw [EvP.det a.1 c.1, ih u]
theorem RowB.det {above row a b : List Int} (h : RowB above row a) (k : RowB above row b) : a = b := by
 obtain ⟨d1, bss, h1, h2, h3, rfl⟩ := h
 obtain ⟨d2, css, k1, k2, k3, rfl⟩ := k
 obtain rfl := EvP.det h2 k2
 rw [Rel2.det (b2 := css) h3 k3]
theorem twoP_row (above : List Int) (rows : List (List Int)) (m y : Int) (P : List Int × Int → Prop) (ds : List S56) : ∀ (d1 : List S56) (bss : List (List Int)) (i : Int) (out : List Int), Rel2 MBR d1 bss → 0 ≤ i → ds.drop i.toNat = d1 → out.length + d1.length * 200 ≤ 50000000 → (ds.length : Int) ≤ 300 →
  EvP (fun k => runs_Two.l0 k (out ++ bss.flatten) above rows m (wrap64 (y + 1))) P → EvP (fun k => runs_Two.l1 k out above rows m y ds (ds.length : Int) i) P := by
 intro d1
 induction d1 with
 | nil =>
  intro bss i out h i0 hd ho hl hp
  cases h
  have : ds.length ≤ i.toNat := List.drop_eq_nil_iff.mp hd
  rw [List.flatten_nil, List.append_nil] at hp
  exact EvP.step (fun k => by rw [runs_Two.l1]) (EvP.neg (by omega) hp)
 | cons a t ih =>
  intro bss i out h i0 hd ho hl hp
  cases h with
  | cons h1 h2 =>
   have hlt : i.toNat < ds.length := by
    rcases Nat.lt_or_ge i.toNat ds.length with z | z
    ·exact z
    ·rw [List.drop_eq_nil_of_le z] at hd
     cases hd
   rw [List.drop_eq_getElem_cons hlt] at hd
   injection hd with e1 e2
   have er : rd_T56 ds i = a := by simp [rd_T56, List.getD, hlt, e1]
   rename_i b bs
   rw [List.length_cons] at ho
   refine EvP.step (fun k => by rw [runs_Two.l1]) (EvP.pos (by omega) (EvP.pos i0 (EvP.pos (by omega) ?_)))
   rw [er, w64 (x := i + 1) (by omega) (by omega)]
   refine EvP.bind h1.1 ?_
   intro r hr
   rw [show r = b from hr]
   have := h1.2.1
   refine EvP.pos (by omega) (ih bs (i + 1) (out ++ b) h2 (by omega) (by rw [show (i + 1).toNat = i.toNat + 1 by omega]; exact e2) (by rw [List.length_append]; omega) hl ?_)
   rw [List.flatten_cons, ← List.append_assoc] at hp
   exact hp
theorem rowF {above row : List Int} (ha : Px above) (hr : Px row) (he : above.length = row.length) : ∃ bs : List Int, RowB above row bs ∧ ∀ (l : List Int) (p q : Int), Byt06 l → 0 ≤ p → q ≤ en l → Are l p q bs → EvP (fun k => runs_reader_two.f k l p true row.length above) (· = (row, 0, q, true)) := by
 have hl := hr.1
 obtain ⟨d1, bss, h1, h2, h3, h4⟩ := modesF ha hr he 201 (-1) 0 [] ⟨by omega, by omega, .inl rfl, fun z => by omega⟩ (by omega) (by decide)
 refine ⟨bss.flatten, ⟨d1, bss, h1, by unfold runs_modes.f; exact h2, h3, rfl⟩, fun l p q hb p0 hq hA => ?_⟩
 unfold runs_reader_two.f
 exact h4 l p q hb p0 hq hA
theorem twoF {w h : Int} {p : List Int} (v : Val w h p) : ∀ (n : Nat) (y : Int), 0 ≤ y → h - y = n →
  ∃ bl : List (List Int), bl.length = n ∧ (∀ i : Nat, i < n → RowB (upAt w p (y + i)) (rowAt w p (y + i)) (bl.getD i [])) ∧ B01 bl.flatten ∧ bl.flatten.length ≤ n * 40200 ∧
   (∀ (out : List Int) (P : List Int × Int → Prop), out.length + n * 40200 ≤ 50000000 → EvP (fun k => (bits_Pack.f k (out ++ bl.flatten)).bind fun bt => some (bt.1, bt.2)) P → EvP (fun k => runs_Two.l0 k out (upAt w p y) ((List.range h.toNat).map fun y : Nat => rowAt w p y) (((List.range h.toNat).map fun y : Nat => rowAt w p y).length : Int) y) P) ∧
   (∀ (l : List Int) (s q : Int), Byt06 l → 0 ≤ s → q ≤ en l → Are l s q bl.flatten → EvP (fun k => runs_read32.l0 k l w h s true (upAt w p y) y (p.take (y * w).toNat)) (· = (w, h, p, q, 0))) := by
 have hh := v.2.2.2.1
 have hh0 := v.2.1
 have w0 := v.1
 have hv := v.2.2.2.2.2.1
 have hw1 := v.2.2.1
 have hlen : (((List.range h.toNat).map fun y : Nat => rowAt w p y).length : Int) = h := by rw [List.length_map, List.length_range]; omega
 intro n
 induction n with
 | zero =>
  intro y y0 hn
  refine ⟨[], rfl, (fun i hi => by omega), (fun b hb => by cases hb), Nat.le_refl _, fun out P ho hp => ?_, fun l s q hb s0 hq hA => ?_⟩
  ·rw [List.flatten_nil, List.append_nil] at hp
   exact EvP.step (fun k => by rw [runs_Two.l0]) (EvP.neg (by omega) hp)
  ·have hq' := hA.len
   simp only [List.flatten_nil, List.length_nil] at hq'
   refine EvP.step (fun k => by rw [runs_read32.l0]) (EvP.neg (by omega) ?_)
   refine EvP.bindv (a := (s, s, true)) (by simp [bits_Reader_At.f, bits_Reader_none.f]) (EvP.ret ?_)
   have : y = h := by omega
   rw [List.take_of_length_le (by rw [this, Int.mul_comm]; omega)]
   congr 4
   omega
 | succ n ih =>
  intro y y0 hn
  have y1 : y < h := by omega
  obtain ⟨hpx, hw⟩ := rowAt_px v y0 y1
  obtain ⟨upx, uw, _⟩ := upAt_is v y0 y1
  obtain ⟨m0, m1, m2, m3⟩ := mulB v y0 y1
  obtain ⟨bs, r1, r2⟩ := rowF upx hpx (by omega)
  obtain ⟨bl, b1, b2, b3, b4, b5, b6⟩ := ih (y + 1) (by omega) (by omega)
  have c1 := r1.b01
  have wy : wrap64 (y + 1) = y + 1 := w64 (by omega) (by omega)
  have eu : upAt w p (y + 1) = rowAt w p y := by
   unfold upAt
   rw [if_neg (by omega), show y + 1 - 1 = y by omega]
  rw [eu] at b5 b6
  refine ⟨bs :: bl, by rw [List.length_cons, b1], fun i hi => ?_, by rw [List.flatten_cons]; exact c1.1.app b3, by rw [List.flatten_cons, List.length_append]; have := c1.2; omega, fun out P ho hp => ?_, fun l s q hb s0 hq hA => ?_⟩
  ·cases i with
   | zero => simpa using r1
   | succ i =>
    have := b2 i (by omega)
    rw [show y + 1 + (i : Int) = y + ((i + 1 : Nat) : Int) by omega] at this
    simpa using this
  ·obtain ⟨d1, bss, q1, q2, q3, q4⟩ := r1
   refine EvP.step (fun k => by rw [runs_Two.l0]) (EvP.pos (by omega) (EvP.pos y0 (EvP.pos (by omega) ?_)))
   rw [rd_lines y0 y1]
   refine EvP.bind q2 ?_
   intro r_ hr_
   rw [show r_ = d1 from hr_]
   refine twoP_row (rowAt w p y) _ _ y P d1 d1 bss 0 out q3 (by omega) rfl (by omega) (by omega) ?_
   rw [wy]
   refine b5 _ P (by rw [List.length_append]; have := c1.2; rw [q4] at this; omega) ?_
   rw [List.flatten_cons, q4, ← List.append_assoc] at hp
   exact hp
  ·rw [List.flatten_cons] at hA
   obtain ⟨A1, A2⟩ := hA.parts
   have l2 := A2.len
   have hone := r2 l s _ hb s0 (by omega) A1
   rw [hw] at hone
   refine EvP.step (fun k => by rw [runs_read32.l0]) (EvP.pos (by omega) ?_)
   refine EvP.bind hone ?_
   rintro _ rfl
   have hlt : ((p.take (y * w).toNat).length : Int) = y * w := by rw [List.length_take]; omega
   have hj : p.take (y * w).toNat ++ rowAt w p y = p.take ((y + 1) * w).toNat := by
    unfold rowAt
    have : p.take (y * w).toNat = (p.take ((y + 1) * w).toNat).take (y * w).toNat := by rw [List.take_take, Nat.min_eq_left (by omega)]
    rw [this, List.take_append_drop]
   refine EvP.pos rfl (EvP.pos (show (p.take (y * w).toNat).length + (rowAt w p y).length < 140737488355328 by omega) ?_)
   rw [wy, hj]
   exact b6 l _ q hb (show 0 ≤ s + (bs.length : Int) by omega) hq A2
theorem twoBack {w h : Int} {p : List Int} (v : Val w h p) : ∃ (bl : List (List Int)) (r : List Int), (bl.length : Int) = h ∧ (∀ i : Nat, (i : Int) < h → RowB (upAt w p i) (rowAt w p i) (bl.getD i [])) ∧ EvP (fun k => runs_Two.f k w h p) (· = (r, 0)) ∧ Byt06 r ∧ (r.length : Int) = ((bl.flatten.length : Int) + 7) / 8 ∧ bl.flatten.length ≤ 8040000 ∧ Are r 0 bl.flatten.length bl.flatten ∧
  ∀ (l : List Int) (q : Int), Byt06 l → q ≤ en l → Are l 0 q bl.flatten → EvP (fun k => runs_GetTwo.f k l w h) (· = (w, h, p, q, 0)) := by
 obtain ⟨w0, h0, w1, h1, wh, hlen, h01⟩ := id v
 obtain ⟨bl, b1, b2, b3, b4, b5, b6⟩ := twoF v h.toNat 0 (by omega) (by omega)
 obtain ⟨r, p1, p2, p3, p4⟩ := packP bl.flatten b3 (by omega)
 rw [show upAt w p 0 = List.replicate w.toNat 0 from if_pos rfl] at b5 b6
 refine ⟨bl, r, by omega, fun i hi => ?_, ?_, p3, p2, by omega, ⟨by omega, fun j j0 j1 => by rw [Int.zero_add]; exact p4 j j0 j1⟩, fun l q hb hq hA => ?_⟩
 ·have := b2 i (by omega)
  rwa [Int.zero_add] at this
 ·unfold runs_Two.f
  refine EvP.bind (Valid_is w h p (fun x hx => (h01 x hx).1) (by have := sid_mul w0 h0 w1 h1; omega)) ?_
  rintro _ rfl
  refine EvP.pos (decide_eq_true v) (EvP.pos v.1 (EvP.pos (by have := v.2.2.1; omega) ?_))
  refine EvP.bind (lines_is v) ?_
  rintro _ rfl
  refine b5 [] _ (by simp; omega) ?_
  rw [List.nil_append]
  refine EvP.bind p1 ?_
  rintro _ rfl
  exact EvP.ret rfl
 ·have h2 := hb.2
  unfold runs_GetTwo.f runs_read32.f
  refine EvP.bind (New_is w h 0) ?_
  rintro _ rfl
  unfold newR
  rw [if_neg (by omega), if_pos v.sid]
  have := b6 l 0 q hb (by omega) hq hA
  rw [show ((0 : Int) * w).toNat = 0 by simp, List.take_zero] at this
  exact EvP.pos rfl (EvP.pos w0 (EvP.pos (by omega) (EvP.pos (by omega) this)))
def exp06 (c : Int) : List Int → List Int
 | [] => []
 | n :: ns => List.replicate n.toNat c ++ exp06 (1 - c) ns
def cods (c : Int) : List Int → List Int
 | [] => []
 | n :: ns => rbP n c ++ cods (1 - c) ns
theorem row_in (p : List Int) (out : List Int) (c a : Int) (P : List Int → Prop) (ho : (out.length : Int) ≤ 300) (hp : (p.length : Int) ≤ 200) (a0 : 0 ≤ a) (a1 : a ≤ p.length)
  (h : EvP (fun k => runs_row.l0 k p (out ++ [((rl c (p.drop a.toNat) : Nat) : Int)]) ((1 - c) % 256) (a + (rl c (p.drop a.toNat) : Nat))) P) : EvP (fun k => runs_row.l1 k p out c a a) P := by
 refine EvP.up (L := fun k j (_ : Unit) => runs_row.l1 k p out c j a) (fun j _ => a ≤ j ∧ j + (rl c (p.drop j.toNat) : Nat) = a + (rl c (p.drop a.toNat) : Nat)) p.length ?_ a () a1 ⟨Int.le_refl _, rfl⟩
 intro j _ ⟨j0, hj⟩ hn ih
 refine EvP.step (fun k => by rw [runs_row.l1]) ?_
 have out1 : (rl c (p.drop j.toNat) : Nat) = 0 → EvP (fun k => if out.length < 17592186044416 then runs_row.l0 k p (out ++ [wrap64 (j - a)]) ((1 - c) % 256) j else none) P := fun z => by
  refine EvP.pos (by omega) ?_
  rw [w64 (by omega) (by omega), show j - a = ((rl c (p.drop a.toNat) : Nat) : Int) by omega]
  rw [show j = a + (rl c (p.drop a.toNat) : Nat) by omega]
  exact h
 refine EvP.ite (fun j1 => EvP.pos (by omega) (EvP.ite (fun e => ?_) (fun e => out1 (rl_miss (by omega) j1 e)))) (fun j1 => out1 (rl_end (by omega)))
 have := rl_hit (by omega) j1 e
 rw [w64 (x := j + 1) (by omega) (by omega)]
 exact ih () j1 ⟨by omega, by omega⟩
theorem rowP_is (p : List Int) (hp : (p.length : Int) ≤ 200) (h01 : ∀ y ∈ p, y = 0 ∨ y = 1) : ∀ (n : Nat) (out : List Int) (c a : Int), (c = 0 ∨ c = 1) → 0 ≤ a → a ≤ p.length → out.length + n ≤ 300 → left c (p.drop a.toNat) ≤ n →
  EvP (fun k => runs_row.l0 k p out c a) (· = out ++ rle n c (p.drop a.toNat)) := by
 intro n
 induction n with
 | zero =>
  intro out c a hc a0 a1 ho hn
  have e : ¬ a < (p.length : Int) := fun z => by
   have := congrArg List.length (left_nil hn)
   rw [List.length_drop] at this
   have : p.length - a.toNat = 0 := this
   omega
  refine EvP.step (fun k => by rw [runs_row.l0]) ?_
  refine EvP.neg e (EvP.ret ?_)
  rw [rle, List.append_nil]
 | succ n ih =>
  intro out c a hc a0 a1 ho hn
  by_cases e : a < (p.length : Int)
  ·have hd := drop_rd a0 e
   have hle := rl_le c (p.drop a.toNat)
   rw [List.length_drop] at hle
   have hs := left_step (c := c) (x := rd p a) (xs := p.drop (a + 1).toNat) hc (fun y hy => h01 y (List.mem_of_mem_drop (show y ∈ p.drop a.toNat by rw [hd]; exact hy)))
   rw [← hd, drop2 a0] at hs
   have er : rle (n + 1) c (p.drop a.toNat) = ((rl c (p.drop a.toNat) : Nat) : Int) :: rle n ((1 - c) % 256) (p.drop (a + (rl c (p.drop a.toNat) : Nat)).toNat) := by
    rw [← drop2 a0, hd]
    rfl
   have i1 := ih (out ++ [((rl c (p.drop a.toNat) : Nat) : Int)]) ((1 - c) % 256) (a + (rl c (p.drop a.toNat) : Nat)) (flip01 hc) (by omega) (by omega) (by rw [List.length_append]; show out.length + 1 + n ≤ 300; omega) (by omega)
   rw [List.append_assoc] at i1
   rw [er]
   refine EvP.step (fun k => by rw [runs_row.l0]) ?_
   refine EvP.pos e ?_
   exact row_in p out c a _ (by omega) hp a0 a1 i1
  ·refine EvP.step (fun k => by rw [runs_row.l0]) ?_
   refine EvP.neg e (EvP.ret ?_)
   rw [drop_end (by omega), rle_nil, List.append_nil]
theorem cods_01 : ∀ (ns : List Int) (c : Int), (c = 0 ∨ c = 1) → (∀ n ∈ ns, 0 ≤ n ∧ n ≤ 200) → B01 (cods c ns) ∧ (cods c ns).length ≤ 64 * ns.length := by
 intro ns
 induction ns with
 | nil => intro c hc h; exact ⟨(fun b hb => by cases hb), by simp [cods]⟩
 | cons n ns ih =>
  intro c hc h
  obtain ⟨n0, n1⟩ := h n List.mem_cons_self
  obtain ⟨_, _, r3, r4⟩ := rbP_is n0 n1 hc
  obtain ⟨i1, i2⟩ := ih (1 - c) (by omega) (fun m hm => h m (List.mem_cons_of_mem _ hm))
  refine ⟨B01.app r4 i1, ?_⟩
  simp only [cods, List.length_append, List.length_cons]
  omega
theorem oneP_row (rs : List Int) (hr : ∀ x ∈ rs, 0 ≤ x ∧ x ≤ 200) (hl : rs.length ≤ 201) (rows : List (List Int)) (m y : Int) (P : List Int × Int → Prop) : ∀ (n : Nat) (i : Int) (out : List Int), 0 ≤ i → (rs.length : Int) - i = n → out.length + n * 64 ≤ 5000000 →
  EvP (fun k => runs_One.l0 k (out ++ cods (i % 2) (rs.drop i.toNat)) rows m (wrap64 (y + 1))) P → EvP (fun k => runs_One.l1 k out rows m y rs (rs.length : Int) i) P := by
 intro n
 induction n with
 | zero =>
  intro i out i0 hn ho hP
  rw [List.drop_of_length_le (by omega), cods, List.append_nil] at hP
  exact EvP.step (fun k => by rw [runs_One.l1]) (EvP.neg (by omega) hP)
 | succ n ih =>
  intro i out i0 hn ho hP
  have i1 : i < (rs.length : Int) := by omega
  obtain ⟨x0, x1⟩ := hr _ (rd_mem i0 i1)
  have hp2 : i % 2 = 0 ∨ i % 2 = 1 := by omega
  obtain ⟨r1, _, r3, r4⟩ := rbP_is x0 x1 hp2
  rw [drop_rd i0 i1] at hP
  simp only [cods] at hP
  rw [← List.append_assoc, show 1 - i % 2 = (i + 1) % 2 by omega] at hP
  refine EvP.step (fun k => by rw [runs_One.l1]) (EvP.pos i1 (EvP.pos i0 (EvP.pos i1 ?_)))
  rw [tmod_pos i0, w64 (x := i + 1) (by omega) (by omega)]
  refine EvP.bind r1 ?_
  rintro _ rfl
  refine EvP.pos (by omega) ?_
  exact ih (i + 1) (out ++ rbP (rd rs i) (i % 2)) (by omega) (by omega) (by rw [List.length_append]; omega) hP
theorem runsP_is {l : List Int} (h : Px l) : EvP (fun k => runs_row.f k l) (· = rle 201 0 l) := by
 have hleft : left 0 l ≤ 201 := by
  have := h.1
  have := left_le 0 l
  omega
 have r1 := rowP_is l h.1 h.2 201 [] 0 0 (.inl rfl) (by omega) (by omega) (by decide) hleft
 rw [List.nil_append, show l.drop ((0 : Int)).toNat = l from rfl] at r1
 unfold runs_row.f
 exact r1
def allB (w : Int) (p : List Int) (y : Int) : Nat → List Int
 | 0 => []
 | n + 1 => cods 0 (rle 201 0 (rowAt w p y)) ++ allB w p (y + 1) n
theorem oneP_all {w h : Int} {p : List Int} (v : Val w h p) (P : List Int × Int → Prop) : ∀ (n : Nat) (y : Int) (out : List Int), 0 ≤ y → h - y = n → out.length + n * 12864 ≤ 5000000 →
  EvP (fun k => (bits_Pack.f k (out ++ allB w p y n)).bind fun bt => some (bt.1, bt.2)) P → EvP (fun k => runs_One.l0 k out ((List.range h.toNat).map fun y : Nat => rowAt w p y) (((List.range h.toNat).map fun y : Nat => rowAt w p y).length : Int) y) P := by
 have hh := v.2.2.2.1
 have hh0 := v.2.1
 have hlen : (((List.range h.toNat).map fun y : Nat => rowAt w p y).length : Int) = h := by rw [List.length_map, List.length_range]; omega
 intro n
 induction n with
 | zero =>
  intro y out y0 hn ho hP
  rw [allB, List.append_nil] at hP
  exact EvP.step (fun k => by rw [runs_One.l0]) (EvP.neg (by omega) hP)
 | succ n ih =>
  intro y out y0 hn ho hP
  have y1 : y < h := by omega
  obtain ⟨hpx, hw⟩ := rowAt_px v y0 y1
  have wy : wrap64 (y + 1) = y + 1 := w64 (by omega) (by omega)
  have hrl := rle_len 201 0 (rowAt w p y)
  have hri := rle_in 201 0 _ hpx.1
  have hcl := (cods_01 (rle 201 0 (rowAt w p y)) 0 (.inl rfl) hri).2
  rw [allB, ← List.append_assoc] at hP
  refine EvP.step (fun k => by rw [runs_One.l0]) (EvP.pos (by omega) (EvP.pos y0 (EvP.pos (by omega) ?_)))
  rw [rd_lines y0 y1]
  refine EvP.bind (runsP_is hpx) ?_
  rintro _ rfl
  refine oneP_row (rle 201 0 (rowAt w p y)) hri hrl _ _ y P (rle 201 0 (rowAt w p y)).length 0 out (by omega) (by omega) (by omega) ?_
  rw [wy, show (0 : Int) % 2 = 0 from rfl, show ((0 : Int)).toNat = 0 from rfl, List.drop_zero]
  exact ih (y + 1) _ (by omega) (by omega) (by rw [List.length_append]; omega) hP
theorem allB_01 {w h : Int} {p : List Int} (v : Val w h p) : ∀ (n : Nat) (y : Int), 0 ≤ y → h - y = n → B01 (allB w p y n) ∧ (allB w p y n).length ≤ n * 12864 := by
 intro n
 induction n with
 | zero => intro y y0 hn; exact ⟨(fun b hb => by cases hb), by simp [allB]⟩
 | succ n ih =>
  intro y y0 hn
  obtain ⟨hpx, hw⟩ := rowAt_px v y0 (show y < h by omega)
  have hrl := rle_len 201 0 (rowAt w p y)
  obtain ⟨c1, c2⟩ := cods_01 (rle 201 0 (rowAt w p y)) 0 (.inl rfl) (rle_in 201 0 _ hpx.1)
  obtain ⟨i1, i2⟩ := ih (y + 1) (by omega) (by omega)
  refine ⟨B01.app c1 i1, ?_⟩
  rw [allB, List.length_append]
  omega
def Shf (x y : Int) : Prop := -100000 ≤ x ∧ x ≤ 100000 ∧ -100000 ≤ y ∧ y ≤ 100000
instance (x y : Int) : Decidable (Shf x y) := by unfold Shf; exact inferInstance
def partG (w h : Int) (p : List Int) (x y : Int) : Int → Int → Int := fun u t => pix w h p (x + u) (y + t)
def cutR (w h : Int) (p : List Int) (x y w' h' : Int) : Int × Int × List Int × Int :=
 if ¬ Val w h p then (0, 0, [], 30) else if w' < 0 ∨ h' < 0 ∨ ¬ Shf x y then (0, 0, [], 2) else if Sid w' h' then (w', h', tab w' h' (partG w h p x y), 0) else (0, 0, [], 4)
theorem rowAt_take {w : Int} {p : List Int} {m : Nat} {y : Int} (h : ((y + 1) * w).toNat ≤ m) : rowAt w (p.take m) y = rowAt w p y := by
 unfold rowAt
 rw [List.take_take, Nat.min_eq_left h]
theorem allB_take {w : Int} {p : List Int} {r : Int} (w0 : 0 ≤ w) : ∀ (n : Nat) (y : Int), y + n ≤ r → allB w (p.take (r * w).toNat) y n = allB w p y n := by
 intro n
 induction n with
 | zero => intro y h; rfl
 | succ n ih =>
  intro y h
  have : (y + 1) * w ≤ r * w := Int.mul_le_mul_of_nonneg_right (by omega) w0
  rw [allB, allB, rowAt_take (by omega), ih (y + 1) (by omega)]
theorem upAt_take {w : Int} {p : List Int} {r : Int} (w0 : 0 ≤ w) {y : Int} (h : y < r) : upAt w (p.take (r * w).toNat) y = upAt w p y := by
 unfold upAt
 have : y * w ≤ r * w := Int.mul_le_mul_of_nonneg_right (by omega) w0
 by_cases c : y = 0
 ·rw [if_pos c, if_pos c]
 ·rw [if_neg c, if_neg c, rowAt_take (by rw [show y - 1 + 1 = y by omega]; omega)]
theorem allB_add (w : Int) (p : List Int) : ∀ (m n : Nat) (y : Int), allB w p y (m + n) = allB w p y m ++ allB w p (y + m) n := by
 intro m
 induction m with
 | zero =>
  intro n y
  rw [Nat.zero_add, allB, List.nil_append, show y + ((0 : Nat) : Int) = y by omega]
 | succ m ih =>
  intro n y
  rw [show m + 1 + n = (m + n) + 1 by omega, allB, allB, ih, List.append_assoc, show y + 1 + (m : Int) = y + ((m + 1 : Nat) : Int) by omega]
theorem val_front {w h r : Int} {p : List Int} (v : Val w h p) (r0 : 0 ≤ r) (r1 : r ≤ h) : Val w r (p.take (r * w).toNat) := by
 obtain ⟨w0, h0, w1, h1, wh, hlen, h01⟩ := v
 have a : w * r ≤ w * h := Int.mul_le_mul_of_nonneg_left r1 w0
 have b : r * w = w * r := Int.mul_comm r w
 have c : 0 ≤ w * r := Int.mul_nonneg w0 r0
 refine ⟨w0, r0, w1, by omega, by omega, ?_, fun x hx => h01 x (List.mem_of_mem_take hx)⟩
 rw [List.length_take]
 omega
theorem cutR_front {w h r : Int} {p : List Int} (v : Val w h p) (r0 : 0 ≤ r) (r1 : r ≤ h) : cutR w h p 0 0 w r = (w, r, p.take (r * w).toNat, 0) := by
 have v2 := val_front v r0 r1
 unfold cutR
 rw [if_neg (c := ¬ Val w h p) (fun q => q v), if_neg (by intro q; rcases q with q | q | q; exact absurd v.1 (by omega); exact absurd r0 (by omega); exact q (by unfold Shf; omega)), if_pos v2.sid]
 have e : tab w r (partG w h p 0 0) = p.take (r * w).toNat := by
  refine Eq.trans (tab_congr v2.1 v2.2.1 (fun u t a b c d => ?_)) v2.tab.symm
  unfold partG
  rw [Int.zero_add, Int.zero_add]
  have q1 : t * w + w ≤ r * w := by
   have := Int.mul_le_mul_of_nonneg_right (show t + 1 ≤ r by omega) v.1
   rw [Int.add_mul] at this
   omega
  have q2 : 0 ≤ t * w := Int.mul_nonneg c v.1
  have q3 : w * r ≤ w * h := Int.mul_le_mul_of_nonneg_left r1 v.1
  rw [pix_in a b c (by omega), pix_in a b c d]
  exact (rd_take p _ _ (by omega) (by omega)).symm
 rw [e]
theorem blocks_front {w h r : Int} {p : List Int} (w0 : 0 ≤ w) (r0 : 0 ≤ r) (r1 : r ≤ h) {bl bl2 : List (List Int)} (hl : (bl.length : Int) = h) (hl2 : (bl2.length : Int) = r) (hb : ∀ i : Nat, (i : Int) < h → RowB (upAt w p i) (rowAt w p i) (bl.getD i [])) (hb2 : ∀ i : Nat, (i : Int) < r → RowB (upAt w (p.take (r * w).toNat) i) (rowAt w (p.take (r * w).toNat) i) (bl2.getD i [])) : bl2 = bl.take r.toNat := by
 refine List.ext_getElem (by rw [List.length_take]; omega) (fun i i0 i1 => ?_)
 have a := hb i (by omega)
 have b := hb2 i (by omega)
 have c : ((i : Int) + 1) * w ≤ r * w := Int.mul_le_mul_of_nonneg_right (by omega) w0
 rw [upAt_take w0 (by omega), rowAt_take (by omega)] at b
 have e := RowB.det b a
 rw [List.getElem_take]
 have g1 : i < bl.length := by omega
 simpa [List.getD, i0, g1] using e
theorem flat_take (bl : List (List Int)) (n : Nat) : bl.flatten = (bl.take n).flatten ++ (bl.drop n).flatten := by
 rw [← List.flatten_append, List.take_append_drop]
theorem set_front (bs : List Int) (i n : Nat) (h : i < bs.length) : (bs.take i ++ List.replicate (n + 1) (0 : Int)).set i bs[i] = bs.take (i + 1) ++ List.replicate n 0 := by
 rw [List.set_append, if_neg (by rw [List.length_take]; omega), List.length_take, Nat.min_eq_left (by omega), Nat.sub_self, List.replicate_succ, List.set_cons_zero, ← List.take_append_getElem h, List.append_assoc]
 rfl
theorem Unpack_l0 {l : List Int} (hl : Byt06 l) (bs : List Int) {q : Int} (ha : Are l 0 q bs) (hq : q ≤ en l) : ∀ (n : Nat) (i : Int), 0 ≤ i → (bs.length : Int) - i = n → EvP (fun k => bits_Unpack.l0 k l (bs.take i.toNat ++ List.replicate n 0) (bs.length : Int) i) (· = (bs, 0)) := by
 have h2 := hl.2
 have hq' := ha.1
 unfold en at hq
 intro n
 induction n with
 | zero =>
  intro i i0 hn
  rw [List.take_of_length_le (by omega), List.replicate_zero, List.append_nil]
  exact EvP.step (fun k => by rw [bits_Unpack.l0]) (EvP.neg (by omega) (EvP.ret rfl))
 | succ n ih =>
  intro i i0 hn
  have i1 : i.toNat < bs.length := by omega
  obtain ⟨s0, s1, s2, s3⟩ := bit_at hl i0 (by unfold en; omega)
  have e := ha.2 i i0 (by omega)
  rw [Int.zero_add] at e
  refine EvP.step (fun k => by rw [bits_Unpack.l0]) (EvP.pos (by omega) ?_)
  rw [tdiv_pos i0, tmod_pos i0, w64 (x := i / 8) (by omega) (by omega), w64 (x := 7 - i % 8) (by omega) (by omega), s2, w64 (x := i + 1) (by omega) (by omega), e, show rd bs i = bs[i.toNat] by simp [rd, List.getD, i1], set_front bs i.toNat n i1, show i.toNat + 1 = (i + 1).toNat by omega]
  refine EvP.pos (by omega) (EvP.pos (by omega) (EvP.pos (by omega) (EvP.pos i0 (EvP.pos (by simp; omega) ?_))))
  exact ih (i + 1) (by omega) (by omega)
theorem Unpack_is {l : List Int} (hl : Byt06 l) (bs : List Int) {q : Int} (ha : Are l 0 q bs) (hq : q ≤ en l) (hs : bs.length ≤ 100000000) : EvP (fun k => bits_Unpack.f k l q) (· = (bs, 0)) := by
 have h2 := hl.2
 have hq' := ha.1
 have := Unpack_l0 hl bs ha hq bs.length 0 (by omega) (by omega)
 unfold en at hq
 unfold bits_Unpack.f
 refine EvP.neg (by omega) ?_
 rw [w64 (x := 8 * (l.length : Int)) (by omega) (by omega)]
 refine EvP.neg (by omega) (EvP.pos (by omega) (EvP.pos (by omega) (EvP.bindv rfl ?_)))
 rw [show q.toNat = bs.length by omega, List.length_replicate]
 exact this
def sum06 : List Int → Int
 | [] => 0
 | n :: ns => n + sum06 ns
theorem row_fwd {l : List Int} (hl : Byt06 l) {w : Int} (w1 : w ≤ 200) : ∀ (ns : List Int) (row : List Int) (i p q : Int), 0 ≤ i → i ≤ (row.length : Int) + 1 → (∀ n ∈ ns, 0 ≤ n ∧ n ≤ 200) → (∀ n ∈ ns.tail, 0 < n) → (i > 0 → ∀ n ∈ ns, 0 < n) → ((row.length : Int) + sum06 ns = w) → ((row.length : Int) < w ∨ ns = []) → (ns.length : Int) ≤ 300 - i → Are l p q (cods (i % 2) ns) → 0 ≤ p → q ≤ en l →
  EvP (fun k => runs_reader_one.l0 k w row i l p true) (· = (row ++ exp06 (i % 2) ns, 0, q, true)) := by
 intro ns
 induction ns with
 | nil =>
  intro row i p q i0 i1 hn ht hp hs hw hlen h p0 hq
  simp only [sum06] at hs
  have hq' := h.len
  simp only [cods, List.length_nil] at hq'
  refine EvP.step (fun k => by rw [runs_reader_one.l0]) (EvP.neg (by omega) (EvP.ret ?_))
  simp only [exp06, List.append_nil]
  congr 3
  omega
 | cons n ns ih =>
  intro row i p q i0 i1 hn ht hp hs hw hlen h p0 hq
  have hc : i % 2 = 0 ∨ i % 2 = 1 := by omega
  obtain ⟨n0, n1⟩ := hn n List.mem_cons_self
  simp only [cods] at h
  obtain ⟨h1, h2⟩ := h.parts
  have hl2 := h2.len
  have hl1 := h1.len
  simp only [sum06] at hs
  have hpos : ∀ m ∈ ns, 0 < m := fun m hm => ht m hm
  have hsum : ∀ (ms : List Int), (∀ m ∈ ms, 0 < m) → 0 ≤ sum06 ms ∧ (ms ≠ [] → 0 < sum06 ms) := by
   intro ms
   induction ms with
   | nil => intro _; exact ⟨by simp [sum06], fun z => absurd rfl z⟩
   | cons a bs ihh =>
    intro hm
    have a1 := hm a List.mem_cons_self
    have a2 := (ihh (fun m hmm => hm m (List.mem_cons_of_mem _ hmm))).1
    refine ⟨?_, fun _ => ?_⟩ <;> simp only [sum06] <;> omega
  obtain ⟨s0, s1⟩ := hsum ns hpos
  have hrow : (row.length : Int) < w := hw.resolve_right (by simp)
  have hP := run_is hl hc p0 (show p ≤ en l by omega)
  rw [run_fwd n0 n1 hc h1 (by omega)] at hP
  refine EvP.step (fun k => by rw [runs_reader_one.l0]) (EvP.pos hrow ?_)
  rw [tmod_pos i0]
  refine EvP.bind hP ?_
  intro r hr'
  have hr' : r = (n, 0, p + ((rbP n (i % 2)).length : Int), true) := hr'
  subst hr'
  refine EvP.pos rfl ?_
  rw [w64 (x := w - (row.length : Int)) (by omega) (by omega), w64 (x := i + 1) (by omega) (by simp at hlen; omega), show i % 2 % 256 = i % 2 by omega]
  have hlen2 : ((row ++ List.replicate n.toNat (i % 2)).length : Int) = (row.length : Int) + n := by simp; omega
  have fin : EvP (fun k => if n > w - (row.length : Int) then some (([] : List Int), 3, p + ((rbP n (i % 2)).length : Int), true) else ((slices_Repeat_byte_byte.f k ([i % 2] : List Int) n).bind fun t394 => (if row.length + t394.length < 140737488355328 then (runs_reader_one.l0 k w (row ++ t394) (i + 1) l (p + ((rbP n (i % 2)).length : Int)) true) else (none)))) (· = (row ++ exp06 (i % 2) (n :: ns), 0, q, true)) := by
   refine EvP.neg (by omega) ?_
   refine EvP.bind (rep_is n0 n1 hc) ?_
   rintro _ rfl
   refine EvP.pos (by simp; omega) ?_
   have hi : 1 - i % 2 = (i + 1) % 2 := by omega
   rw [hi] at h2
   have hn1 : i + 1 ≤ ((row ++ List.replicate n.toNat (i % 2)).length : Int) + 1 := by
    rw [hlen2]
    by_cases z : i > 0
    ·have := hp z n List.mem_cons_self
     omega
    ·omega
   have := ih (row ++ List.replicate n.toNat (i % 2)) (i + 1) (p + ((rbP n (i % 2)).length : Int)) q (by omega) hn1 (fun m hm => hn m (List.mem_cons_of_mem _ hm)) (fun m hm => hpos m (List.mem_of_mem_tail hm)) (fun _ m hm => hpos m hm) (by rw [hlen2]; omega) (by
     rw [hlen2]
     by_cases z : ns = []
     ·exact .inr z
     ·have := s1 z
      exact .inl (by omega)) (by simp at hlen; omega) h2 (by omega) hq
   refine this.mono ?_
   rintro r rfl
   simp only [exp06]
   rw [List.append_assoc, hi]
  exact EvP.ite (fun z => EvP.neg (fun y => by have := hp y n List.mem_cons_self; omega) fin) (fun z => fin)
theorem exp_rle : ∀ (f : Nat) (c : Int) (l : List Int), (c = 0 ∨ c = 1) → (∀ y ∈ l, y = 0 ∨ y = 1) → left c l ≤ f → exp06 c (rle f c l) = l := by
 intro f
 induction f with
 | zero =>
  intro c l hc h01 hf
  rw [left_nil hf]
  rfl
 | succ f ih =>
  intro c l hc h01 hf
  cases l with
  | nil => rfl
  | cons x xs =>
   have hs := left_step hc h01
   have e : rle (f + 1) c (x :: xs) = (rl c (x :: xs) : Int) :: rle f ((1 - c) % 256) ((x :: xs).drop (rl c (x :: xs))) := rfl
   rw [e]
   simp only [exp06]
   have hcc : (1 - c) % 256 = 1 - c := by omega
   rw [hcc] at hs ⊢
   rw [ih (1 - c) _ (by omega) (fun y hy => h01 y (List.mem_of_mem_drop hy)) (by omega), Int.toNat_natCast, ← rl_take c (x :: xs), List.take_append_drop]
theorem rle_tail : ∀ (f : Nat) (c : Int) (l : List Int), (c = 0 ∨ c = 1) → (∀ y ∈ l, y = 0 ∨ y = 1) → (∀ n ∈ (rle f c l).tail, 0 < n) ∧ ((∀ x t, l = x :: t → x = c) → ∀ n ∈ rle f c l, 0 < n) := by
 intro f
 induction f with
 | zero => intro c l hc h01; exact ⟨(fun n hn => by cases hn), (fun _ n hn => by cases hn)⟩
 | succ f ih =>
  intro c l hc h01
  cases l with
  | nil => exact ⟨(fun n hn => by cases hn), (fun _ n hn => by cases hn)⟩
  | cons x xs =>
   have e : rle (f + 1) c (x :: xs) = (rl c (x :: xs) : Int) :: rle f ((1 - c) % 256) ((x :: xs).drop (rl c (x :: xs))) := rfl
   have hcc : (1 - c) % 256 = 1 - c := by omega
   rw [e, hcc]
   have ht := (ih (1 - c) ((x :: xs).drop (rl c (x :: xs))) (by omega) (fun y hy => h01 y (List.mem_of_mem_drop hy))).2 (fun y t hy => by
    have h1 := rl_at c (x :: xs) y t hy
    have h2 := h01 y (List.mem_of_mem_drop (by rw [hy]; exact List.mem_cons_self))
    omega)
   refine ⟨fun n hn => ht n hn, fun hx n hn => ?_⟩
   rcases List.mem_cons.mp hn with rfl | hn
   ·have := hx x xs rfl
    subst this
    simp only [rl, if_true]
    omega
   ·exact ht n hn
theorem exp_sum : ∀ (ns : List Int) (c : Int), (∀ n ∈ ns, 0 ≤ n) → ((exp06 c ns).length : Int) = sum06 ns := by
 intro ns
 induction ns with
 | nil => intro c h; rfl
 | cons n ns ih =>
  intro c h
  have := h n List.mem_cons_self
  have h2 := ih (1 - c) (fun m hm => h m (List.mem_cons_of_mem _ hm))
  simp only [exp06, sum06, List.length_append, List.length_replicate]
  omega
theorem rowBack {l : List Int} (hl : Byt06 l) {r : List Int} (hr : Px r) {p q : Int} (h : Are l p q (cods 0 (rle 201 0 r))) (p0 : 0 ≤ p) (hq : q ≤ en l) (ab : List Int) : EvP (fun k => runs_reader_one.f k l p true (r.length : Int) ab) (· = (r, 0, q, true)) := by
 have hri := rle_in 201 0 r hr.1
 have hle := rle_len 201 0 r
 have hleft : left 0 r ≤ 201 := by
  have := hr.1
  have := left_le 0 r
  omega
 have hx := exp_rle 201 0 r (.inl rfl) hr.2 hleft
 have hs := exp_sum (rle 201 0 r) 0 (fun n hn => (hri n hn).1)
 rw [hx] at hs
 have ht := (rle_tail 201 0 r (.inl rfl) hr.2).1
 have := row_fwd hl hr.1 (rle 201 0 r) [] 0 p q (by omega) (by simp) hri ht (fun z => by omega) (by simp; omega) (by
  cases r with
  | nil => exact .inr rfl
  | cons a b => exact .inl (by simp <;> omega)) (by omega) h p0 hq
 rw [show (0 : Int) % 2 = 0 from rfl, List.nil_append, hx] at this
 unfold runs_reader_one.f
 exact this
theorem oneBack_l0 {l : List Int} (hl : Byt06 l) {w h : Int} {pix : List Int} (v : Val w h pix) : ∀ (n : Nat) (y p q : Int) (ab : List Int), h - y = n → 0 ≤ y → 0 ≤ p → Are l p q (allB w pix y n) → q ≤ en l →
  EvP (fun k => runs_read31.l0 k l w h p true ab y (pix.take (y * w).toNat)) (· = (w, h, pix, q, 0)) := by
 obtain ⟨w0, h0, w1, h1, wh, hlen, h01⟩ := id v
 intro n
 induction n with
 | zero =>
  intro y p q ab hn y0 p0 ha hq
  have hp := ha.len
  simp only [allB, List.length_nil] at hp
  refine EvP.step (fun k => by rw [runs_read31.l0]) (EvP.neg (by omega) ?_)
  refine EvP.bindv (a := (p, p, true)) (by simp [bits_Reader_At.f, bits_Reader_none.f]) (EvP.ret ?_)
  have : y = h := by omega
  rw [List.take_of_length_le (by rw [this, Int.mul_comm]; omega)]
  congr 4
  omega
 | succ n ih =>
  intro y p q ab hn y0 p0 ha hq
  obtain ⟨hpx, hw⟩ := rowAt_px v y0 (show y < h by omega)
  obtain ⟨m0, m1, m2, m3⟩ := mulB v y0 (show y < h by omega)
  rw [allB] at ha
  obtain ⟨a1, a2⟩ := ha.parts
  have hl2 := a2.len
  have hone := rowBack hl hpx a1 p0 (by omega) ab
  rw [hw] at hone
  refine EvP.step (fun k => by rw [runs_read31.l0]) (EvP.pos (by omega) ?_)
  refine EvP.bind hone ?_
  rintro _ rfl
  have hlt : ((pix.take (y * w).toNat).length : Int) = y * w := by rw [List.length_take]; omega
  have hj : pix.take (y * w).toNat ++ rowAt w pix y = pix.take ((y + 1) * w).toNat := by
   unfold rowAt
   have : pix.take (y * w).toNat = (pix.take ((y + 1) * w).toNat).take (y * w).toNat := by rw [List.take_take, Nat.min_eq_left (by omega)]
   rw [this, List.take_append_drop]
  refine EvP.pos rfl (EvP.pos (by simp only; omega) ?_)
  rw [w64 (x := y + 1) (by omega) (by omega), hj]
  exact ih (y + 1) (p + ((cods 0 (rle 201 0 (rowAt w pix y))).length : Int)) q (rowAt w pix y) (by omega) (by omega) (by omega) a2 hq
theorem oneBack {l : List Int} (hl : Byt06 l) {w h : Int} {pix : List Int} (v : Val w h pix) {q : Int} (ha : Are l 0 q (allB w pix 0 h.toNat)) (hq : q ≤ en l) : EvP (fun k => runs_GetOne.f k l w h) (· = (w, h, pix, q, 0)) := by
 have h2 := hl.2
 obtain ⟨w0, h0, w1, h1, wh, hlen, h01⟩ := id v
 unfold runs_GetOne.f runs_read31.f
 refine EvP.bind (New_is w h 0) ?_
 rintro _ rfl
 unfold newR
 rw [if_neg (by omega), if_pos v.sid]
 have := oneBack_l0 hl v h.toNat 0 0 q (List.replicate w.toNat 0) (by omega) (by omega) (by omega) ha hq
 rw [show ((0 : Int) * w).toNat = 0 by simp, List.take_zero] at this
 exact EvP.pos rfl (EvP.pos w0 (EvP.pos (by omega) (EvP.pos (by omega) this)))
theorem isBitmap06_is (w h : Int) (p : List Int) (hp : ∀ x ∈ p, 0 ≤ x) (hl : (p.length : Int) ≤ 9223372036854775806) : EvP (fun k => incunableref06_IsBitmap.f k w h p) (· = decide (Val w h p)) := by
 have no : ¬ Val w h p → EvP (fun _ : Nat => some false) (· = decide (Val w h p)) := fun z => EvP.ret (decide_eq_false z).symm
 have row : EvP (fun k => incunableref06_IsRow.f k p) (· = decide (∀ x ∈ p, x ≤ 1)) := by
  unfold incunableref06_IsRow.f
  refine EvP.up (L := fun k i (_ : Unit) => incunableref06_IsRow.l0 k p (p.length : Int) i) (fun i _ => 0 ≤ i ∧ ∀ j, 0 ≤ j → j < i → rd p j ≤ 1) p.length ?_ 0 () (by omega) ⟨by omega, fun j a b => by omega⟩
  intro i _ ⟨i0, hi⟩ hn ih
  refine EvP.step (fun k => by rw [incunableref06_IsRow.l0]) ?_
  refine EvP.ite (fun i1 => EvP.pos i0 (EvP.pos i1 (EvP.ite (fun c => EvP.ret ?_) (fun c => ?_)))) (fun i1 => EvP.ret ?_)
  ·exact (decide_eq_false (fun z => by have := z _ (rd_mem i0 i1); omega)).symm
  ·rw [w64 (x := i + 1) (by omega) (by omega)]
   refine ih () i1 ⟨by omega, fun j a b => ?_⟩
   by_cases z : j = i
   ·subst z; omega
   ·exact hi j a (by omega)
  ·refine (decide_eq_true (fun x hx => ?_)).symm
   obtain ⟨n, hn', rfl⟩ := List.getElem_of_mem hx
   have := hi n (by omega) (by omega)
   rw [rd_get p n hn'] at this
   exact this
 unfold incunableref06_IsBitmap.f
 by_cases z : 0 ≤ w ∧ 0 ≤ h ∧ w ≤ 200 ∧ h ≤ 200
 ·have hm := sid_mul z.1 z.2.1 z.2.2.1 z.2.2.2
  have wm : wrap64 (w * h) = w * h := w64 (by omega) (by omega)
  refine EvP.bindv (a := decide (w * h ≤ 8192)) ?_ ?_
  ·unfold incunableref06_IsSize.f
   rw [if_pos z.1, if_pos z.2.2.1, if_pos z.2.1, if_pos z.2.2.2, wm]
  ·rw [wm]
   refine EvP.ite (fun a => ?_) (fun a => no (fun v => a (decide_eq_true v.2.2.2.2.1)))
   refine EvP.ite (fun b => ?_) (fun b => no (fun v => b v.2.2.2.2.2.1))
   refine EvP.bind row ?_
   rintro _ rfl
   refine EvP.ret (decide_eq_decide.mpr ⟨fun c => ⟨z.1, z.2.1, z.2.2.1, z.2.2.2, of_decide_eq_true a, b, fun x hx => ⟨hp x hx, c x hx⟩⟩, fun v x hx => (v.2.2.2.2.2.2 x hx).2⟩)
 ·refine EvP.bindv (a := false) ?_ (EvP.neg (by decide) (no (fun v => z ⟨v.1, v.2.1, v.2.2.1, v.2.2.2.1⟩)))
  unfold incunableref06_IsSize.f
  split
  ·split
   ·split
    ·split
     ·exact absurd ⟨by assumption, by assumption, by assumption, by assumption⟩ z
     ·rfl
    ·rfl
   ·rfl
  ·rfl
theorem runsIsRow_is (l : List Int) (hl : (l.length : Int) ≤ 9223372036854775806) : EvP (fun k => runs_isRow.f k l) (· = decide ((l.length : Int) ≤ 200 ∧ ∀ x ∈ l, x ≤ 1)) := by
 unfold runs_isRow.f
 refine EvP.ite (fun a => ?_) (fun a => EvP.ret (decide_eq_false (fun z => a z.1)).symm)
 have row : EvP (fun k => slices_ContainsFunc_byte_byte_35.f k l) (· = decide (¬ ∀ x ∈ l, x ≤ 1)) := by
  unfold slices_ContainsFunc_byte_byte_35.f slices_IndexFunc_byte_byte_35.f
  refine EvP.bind (Q := fun r => (0 ≤ r ↔ ¬ ∀ x ∈ l, x ≤ 1)) ?_ ?_
  ·refine EvP.up (L := fun k i (_ : Unit) => slices_IndexFunc_byte_byte_35.l0 k l (l.length : Int) i) (fun i _ => 0 ≤ i ∧ ∀ j, 0 ≤ j → j < i → rd l j ≤ 1) l.length ?_ 0 () (by omega) ⟨by omega, fun j a b => by omega⟩
   intro i _ ⟨i0, hi⟩ hn ih
   refine EvP.step (fun k => by rw [slices_IndexFunc_byte_byte_35.l0]) ?_
   refine EvP.ite (fun i1 => EvP.pos i0 (EvP.pos i1 (EvP.bindv (runs_isRow_1.f.eq_1 _) (EvP.ite (fun c => EvP.ret ?_) (fun c => ?_))))) (fun i1 => EvP.ret ?_)
   ·have c := of_decide_eq_true c
    exact ⟨fun _ z => by have := z _ (rd_mem i0 i1); omega, fun _ => i0⟩
   ·have c : ¬ rd l i > 1 := fun z => c (decide_eq_true z)
    rw [w64 (x := i + 1) (by omega) (by omega)]
    refine ih () i1 ⟨by omega, fun j a b => ?_⟩
    by_cases z : j = i
    ·subst z; omega
    ·exact hi j a (by omega)
   ·refine ⟨fun z => absurd z (by decide), fun z => absurd (fun x hx => ?_) z⟩
    obtain ⟨n, hn', rfl⟩ := List.getElem_of_mem hx
    have := hi n (by omega) (by omega)
    rw [rd_get l n hn'] at this
    exact this
  ·intro r hr
   exact EvP.ret (decide_eq_decide.mpr hr)
 refine EvP.bind row ?_
 rintro _ rfl
 refine EvP.ret ?_
 by_cases z : ∀ x ∈ l, x ≤ 1
 ·rw [decide_eq_true (show (l.length : Int) ≤ 200 ∧ ∀ x ∈ l, x ≤ 1 from ⟨a, z⟩), decide_eq_false (fun y => y z)]
  rfl
 ·rw [decide_eq_false (show ¬ ((l.length : Int) ≤ 200 ∧ ∀ x ∈ l, x ≤ 1) from fun y => z y.2), decide_eq_true z]
  rfl
theorem SameBitmap06_is (w h : Int) (l : List Int) (hl : (l.length : Int) ≤ 9223372036854775806) : EvP (fun k => incunableref06_SameBitmap.f k w h l w h l) (· = true) := by
 unfold incunableref06_SameBitmap.f
 refine EvP.pos rfl (EvP.pos rfl ?_)
 refine EvP.step (fun k => by rw [incunableref06_SameBitmap.j0]) (EvP.neg (by simp) ?_)
 refine EvP.up (L := fun k i (_ : Unit) => incunableref06_SameBitmap.l0 k (l.length : Int) i w h l w h l) (fun i _ => 0 ≤ i) l.length ?_ 0 () (by omega) (by omega)
 intro i _ i0 hn ih
 refine EvP.step (fun k => by rw [incunableref06_SameBitmap.l0]) ?_
 refine EvP.ite (fun i1 => EvP.pos i0 (EvP.pos i1 (EvP.pos i1 (EvP.pos rfl ?_)))) (fun _ => EvP.ret rfl)
 rw [w64 (x := i + 1) (by omega) (by omega)]
 exact ih () i1 (by omega)
theorem SameBytes06_is (l : List Int) (hl : (l.length : Int) ≤ 9223372036854775806) : EvP (fun k => incunableref02_SameBytes.f k l l) (· = true) := by
 unfold incunableref02_SameBytes.f
 refine EvP.pos rfl ?_
 refine EvP.up (L := fun k i (_ : Unit) => incunableref02_SameBytes.l0 k l l (l.length : Int) i) (fun i _ => 0 ≤ i) l.length ?_ 0 () (by omega) (by omega)
 intro i _ i0 hn ih
 refine EvP.step (fun k => by rw [incunableref02_SameBytes.l0]) ?_
 refine EvP.ite (fun i1 => EvP.pos i0 (EvP.pos i1 (EvP.pos i1 (EvP.pos rfl ?_)))) (fun _ => EvP.ret rfl)
 rw [w64 (x := i + 1) (by omega) (by omega)]
 exact ih () i1 (by omega)
theorem at_is {w h : Int} {p : List Int} (v : Val w h p) (x y : Int) : bitmap_at.f w h p x y = some (pix w h p x y) := by
 unfold bitmap_at.f
 by_cases hc : 0 ≤ x ∧ x < w ∧ 0 ≤ y ∧ y < h
 ·have hf := flat_lt hc.1 hc.2.1 hc.2.2.1 hc.2.2.2
  have hm := v.2.2.2.2.1
  have hl := v.2.2.2.2.2.1
  rw [if_neg (by omega), if_neg (by omega), if_neg (by omega), if_neg (by omega)]
  have e : wrap64 (y * w) = y * w := w64 (by omega) (by omega)
  rw [e, w64 (by omega) (by omega), if_pos hf.2.1, if_pos (by omega), pix_in hc.1 hc.2.1 hc.2.2.1 hc.2.2.2]
 ·rw [pix_out hc]
  by_cases a : x < 0
  ·rw [if_pos a]
  rw [if_neg a]
  by_cases b : y < 0
  ·rw [if_pos b]
  rw [if_neg b]
  by_cases c : x ≥ w
  ·rw [if_pos c]
  rw [if_neg c, if_pos (by omega)]
theorem isShift_is (x y : Int) : bitmap_isShift.f x y = some (decide (Shf x y)) := by
 unfold bitmap_isShift.f mn mx
 by_cases a : Shf x y
 ·obtain ⟨b, c, d, e⟩ := a
  rw [if_pos (by split <;> omega)]
  refine congrArg some ?_
  rw [decide_eq_true (show Shf x y from ⟨b, c, d, e⟩), decide_eq_true (by split <;> omega)]
 ·rw [decide_eq_false a]
  by_cases q : (if y < x then y else x) ≥ -100000
  ·rw [if_pos q]
   refine congrArg some (decide_eq_false (fun r => a ?_))
   refine ⟨?_, ?_, ?_, ?_⟩ <;> (split at q <;> split at r <;> omega)
  ·rw [if_neg q]
theorem Cut_is (w h : Int) (p : List Int) (x y w' h' : Int) (hp : ∀ x ∈ p, 0 ≤ x) (hl : (p.length : Int) ≤ 9223372036854775807) : EvP (fun k => bitmap_Cut.f k w h p x y w' h') (· = cutR w h p x y w' h') := by
 unfold bitmap_Cut.f
 refine EvP.bind (Valid_is w h p hp hl) ?_
 rintro _ rfl
 unfold cutR
 refine EvP.ite (fun h1 => ?_) (fun h1 => EvP.ret (by rw [if_pos (by simpa using h1)]))
 have v : Val w h p := by simpa using h1
 rw [if_neg (c := ¬ Val w h p) (fun q => q v)]
 refine EvP.ite (fun a => EvP.ret (by rw [if_pos (.inl a)])) (fun a => ?_)
 refine EvP.ite (fun b => EvP.ret (by rw [if_pos (.inr (.inl b))])) (fun b => ?_)
 refine EvP.bindv (isShift_is x y) ?_
 refine EvP.ite (fun c => ?_) (fun c => EvP.ret (by rw [if_pos (.inr (.inr (by simpa using c)))]))
 have hs : Shf x y := by simpa using c
 rw [if_neg (fun q => q.elim a (fun q => q.elim b (fun q => q hs)))]
 refine EvP.bindv (blank_is w' h') ?_
 by_cases s : Sid w' h'
 ·simp only [if_pos s]
  obtain ⟨sx0, sx1, sy0, sy1⟩ := hs
  have hm := sid_mul s.1 s.2.1 s.2.2.1 s.2.2.2.1
  have hlen : ((tab w' h' fun _ _ => (0 : Int)).length : Int) = w' * h' := by rw [tab_length]; omega
  obtain ⟨_, _, w200, h200, _⟩ := s
  refine EvP.fillT (L := fun k i l => bitmap_Cut.l0 k x y w' 0 ((tab w' h' fun _ _ => 0).length : Int) i w h p w' h' l) (by omega) (by omega) (tab w' h' fun _ _ => 0) hlen (partG w h p x y) ?_ ?_
  ·intro i l h0 h2 hl hw0 p0 p1 q0 q1 e1 e2 _ _ hk
   refine EvP.step (fun k => by rw [bitmap_Cut.l0]) ?_
   refine EvP.pos h2 (EvP.neg (by omega) ?_)
   rw [e1, e2, w64 (x := i / w') (by omega) (by omega), w64 (x := x + i % w') (by omega) (by omega), w64 (x := y + i / w') (by omega) (by omega)]
   refine EvP.bindv (at_is v _ _) ?_
   refine EvP.pos h0 (EvP.pos (by omega) ?_)
   rw [w64 (by omega) (by omega)]
   exact hk
  ·refine EvP.step (fun k => by rw [bitmap_Cut.l0]) ?_
   exact EvP.neg (by omega) (EvP.ret rfl)
 ·simp only [if_neg s]
  refine EvP.step (fun k => by rw [bitmap_Cut.l0]) ?_
  exact EvP.neg (by simp) (EvP.ret rfl)
theorem Are.front {r bs cs : List Int} {q : Int} (h : Are r 0 q (bs ++ cs)) : Are r 0 bs.length bs := by
 have := h.parts.1
 rwa [Int.zero_add] at this
theorem RunBits_is {n c : Int} (n0 : 0 ≤ n) (n1 : n ≤ 200) (hc : c = 0 ∨ c = 1) : EvP (fun k => runs_RunBits.f k n c) (· = (rbP n c, 0)) := by
 have r1 := (rbP_is n0 n1 hc).1
 have fin : EvP (fun k => (runs_runBits.f k n c).bind fun t => some (t, (0 : Int))) (· = (rbP n c, 0)) := by
  refine EvP.bind r1 ?_
  rintro _ rfl
  exact EvP.ret rfl
 unfold runs_RunBits.f
 exact EvP.neg (by omega) (EvP.neg (by omega) (EvP.ite (fun _ => fin) (fun z => EvP.pos (hc.resolve_left z) fin)))
theorem Row_is {l : List Int} (h : Px l) : EvP (fun k => runs_Row.f k l) (· = (rle 201 0 l, 0)) := by
 unfold runs_Row.f
 refine EvP.bind (runsIsRow_is l (by have := h.1; omega)) ?_
 rintro _ rfl
 refine EvP.pos (decide_eq_true ⟨h.1, fun x hx => by have := h.2 x hx; omega⟩) ?_
 refine EvP.bind (runsP_is h) ?_
 rintro _ rfl
 exact EvP.ret rfl
theorem top_row (rs : List Int) (hr : ∀ x ∈ rs, 0 ≤ x ∧ x ≤ 200) (hl : rs.length ≤ 201) (a m y w h : Int) (p : List Int) (P : Bool → Prop) : ∀ (n : Nat) (i : Int) (out : List Int), 0 ≤ i → (rs.length : Int) - i = n → out.length + n * 64 ≤ 5000000 →
  EvP (fun k => incunabletop_TopRuns.l0 k a (out ++ cods (i % 2) (rs.drop i.toNat)) m (wrap64 (y + 1)) w h p) P → EvP (fun k => incunabletop_TopRuns.l1 k a out m y rs (rs.length : Int) i w h p) P := by
 intro n
 induction n with
 | zero =>
  intro i out i0 hn ho hP
  rw [List.drop_of_length_le (by omega), cods, List.append_nil] at hP
  exact EvP.step (fun k => by rw [incunabletop_TopRuns.l1]) (EvP.neg (by omega) hP)
 | succ n ih =>
  intro i out i0 hn ho hP
  have i1 : i < (rs.length : Int) := by omega
  obtain ⟨x0, x1⟩ := hr _ (rd_mem i0 i1)
  have hp2 : i % 2 = 0 ∨ i % 2 = 1 := by omega
  obtain ⟨_, _, r3, r4⟩ := rbP_is x0 x1 hp2
  rw [drop_rd i0 i1] at hP
  simp only [cods] at hP
  rw [← List.append_assoc, show 1 - i % 2 = (i + 1) % 2 by omega] at hP
  refine EvP.step (fun k => by rw [incunabletop_TopRuns.l1]) (EvP.pos i1 (EvP.pos i0 (EvP.pos i1 ?_)))
  rw [tmod_pos i0, w64 (x := i + 1) (by omega) (by omega)]
  refine EvP.bind (RunBits_is x0 x1 hp2) ?_
  rintro _ rfl
  refine EvP.pos rfl (EvP.pos (by show out.length + (rbP (rd rs i) (i % 2)).length < _; omega) ?_)
  exact ih (i + 1) (out ++ rbP (rd rs i) (i % 2)) (by omega) (by omega) (by rw [List.length_append]; omega) hP
theorem top_all {w h : Int} {p : List Int} (v : Val w h p) (a : Int) (P : Bool → Prop) : ∀ (n : Nat) (y : Int) (out : List Int), 0 ≤ y → h - y = n → out.length + n * 12864 ≤ 5000000 →
  EvP (fun k => incunabletop_TopRuns.l0 k a (out ++ allB w p y n) h h w h p) P → EvP (fun k => incunabletop_TopRuns.l0 k a out h y w h p) P := by
 have hh := v.2.2.2.1
 intro n
 induction n with
 | zero =>
  intro y out y0 hn ho hP
  rw [allB, List.append_nil] at hP
  rwa [show y = h by omega]
 | succ n ih =>
  intro y out y0 hn ho hP
  have y1 : y < h := by omega
  obtain ⟨hpx, hw⟩ := rowAt_px v y0 y1
  obtain ⟨m0, m1, m2, m3⟩ := mulB v y0 y1
  have wy : wrap64 (y + 1) = y + 1 := w64 (by omega) (by omega)
  have hrl := rle_len 201 0 (rowAt w p y)
  have hri := rle_in 201 0 _ hpx.1
  have hcl := (cods_01 (rle 201 0 (rowAt w p y)) 0 (.inl rfl) hri).2
  rw [allB, ← List.append_assoc] at hP
  refine EvP.step (fun k => by rw [incunabletop_TopRuns.l0]) (EvP.pos y1 ?_)
  rw [wy, w64 (x := y * w) (by omega) (by omega), w64 (x := (y + 1) * w) (by omega) (by omega)]
  refine EvP.pos m0 (EvP.pos m1 (EvP.pos m2 (EvP.bind (Row_is hpx) ?_)))
  rintro _ rfl
  refine EvP.pos rfl ?_
  refine top_row (rle 201 0 (rowAt w p y)) hri hrl a h y w h p P (rle 201 0 (rowAt w p y)).length 0 out (by omega) (by omega) (by omega) ?_
  rw [wy, show (0 : Int) % 2 = 0 from rfl, show ((0 : Int)).toNat = 0 from rfl, List.drop_zero]
  exact ih (y + 1) _ (by omega) (by omega) (by rw [List.length_append]; omega) hP
theorem onePack {w h : Int} {p : List Int} (v : Val w h p) (hl : (p.length : Int) ≤ 9223372036854775806) : ∃ r : List Int, EvP (fun k => bits_Pack.f k (allB w p 0 h.toNat)) (· = (r, 0)) ∧ EvP (fun k => runs_One.f k w h p) (· = (r, 0)) ∧ (r.length : Int) = (((allB w p 0 h.toNat).length : Int) + 7) / 8 ∧ Byt06 r ∧ Are r 0 (allB w p 0 h.toNat).length (allB w p 0 h.toNat) := by
 obtain ⟨b1, b2⟩ := allB_01 v h.toNat 0 (by omega) (by have := v.2.1; omega)
 have hh := v.2.2.2.1
 obtain ⟨r, r1, r2, r3, r4⟩ := packP (allB w p 0 h.toNat) b1 (by omega)
 refine ⟨r, r1, ?_, r2, r3, by omega, fun j j0 j1 => by rw [Int.zero_add]; exact r4 j j0 j1⟩
 unfold runs_One.f
 refine EvP.bind (Valid_is w h p (fun x hx => (v.2.2.2.2.2.2 x hx).1) (by omega)) ?_
 rintro _ rfl
 refine EvP.pos (decide_eq_true v) ?_
 refine EvP.bind (lines_is v) ?_
 rintro _ rfl
 refine oneP_all v _ h.toNat 0 [] (by omega) (by have := v.2.1; omega) (by show 0 + _ ≤ _; omega) ?_
 rw [List.nil_append]
 refine EvP.bind r1 ?_
 rintro _ rfl
 exact EvP.ret rfl
theorem TopRuns : incunabletop_TopRuns.Pure := by
 intro w h p a hw hh g2 ga
 have hl1 : (p.length : Int) ≤ 9223372036854775806 := by have := g2.2.1; omega
 have hb : ∀ x ∈ p, 0 ≤ x := fun x hx => (wf_byt g2.2.2 x hx).1
 refine EvP.rounds ?_
 have stop : EvP (fun k => incunabletop_TopRuns.j0 k a true w h p) (· = true) := by
  refine EvP.step (fun k => by rw [incunabletop_TopRuns.j0]) (EvP.pos rfl (EvP.bind Awake06_is ?_))
  rintro _ rfl
  exact EvP.ret rfl
 unfold incunabletop_TopRuns.f
 refine EvP.bind (isBitmap06_is w h p hb hl1) ?_
 rintro _ rfl
 by_cases v : Val w h p
 ·rw [decide_eq_true v]
  refine EvP.pos rfl (EvP.ite (fun _ => stop) (fun a0 => ?_))
  by_cases a1 : a > h
  ·rw [decide_eq_true a1]
   exact stop
  ·rw [decide_eq_false a1]
   have a0 : 0 ≤ a := by omega
   have a1 : a ≤ h := by omega
   obtain ⟨w0, h0, w1, h1, wh, hlen, h01⟩ := id v
   have v2 := val_front v a0 a1
   obtain ⟨r1, o1, o2, o3, o4, o5⟩ := onePack v hl1
   obtain ⟨c1, c2⟩ := allB_01 v h.toNat 0 (by omega) (by omega)
   obtain ⟨bl, r2, b1, b2, b3, b4, b5, b6, b7, b8⟩ := twoBack v
   obtain ⟨bk, r3, e1, e2, e3, e4, e5, e6, e7, e8⟩ := twoBack v2
   have hbk := blocks_front w0 a0 a1 b1 e1 b2 e2
   have hfl : bl.flatten = bk.flatten ++ (bl.drop a.toNat).flatten := by rw [hbk]; exact flat_take bl a.toNat
   have hall : allB w p 0 h.toNat = allB w p 0 a.toNat ++ allB w p (0 + (a.toNat : Nat)) (h.toNat - a.toNat) := by
    rw [← allB_add, show a.toNat + (h.toNat - a.toNat) = h.toNat by omega]
   have hone : allB w (p.take (a * w).toNat) 0 a.toNat = allB w p 0 a.toNat := allB_take w0 _ _ (by omega)
   have q1 := congrArg List.length hall
   have q2 := congrArg List.length hfl
   rw [List.length_append] at q1 q2
   have A1 : Are r1 0 (allB w p 0 a.toNat).length (allB w (p.take (a * w).toNat) 0 a.toNat) := by
    rw [hone]
    rw [hall] at o5
    exact o5.front
   have A2 : Are r2 0 bk.flatten.length bk.flatten := by
    rw [hfl] at b7
    exact b7.front
   have n1 : ((allB w p 0 a.toNat).length : Int) ≤ en r1 := by unfold en; omega
   have n2 : (bk.flatten.length : Int) ≤ en r2 := by unfold en; omega
   have n3 : (bk.flatten.length : Int) ≤ en r3 := by unfold en; omega
   have g1 := oneBack o4 v2 A1 n1
   have g2 := e8 r2 _ b4 n2 A2
   have hc := Cut_is w h p 0 0 w a hb (by omega)
   rw [cutR_front v a0 a1] at hc
   have hp2 : ((p.take (a * w).toNat).length : Int) ≤ 9223372036854775806 := by rw [List.length_take]; omega
   refine EvP.step (fun k => by rw [incunabletop_TopRuns.j0]) (EvP.neg (by decide) ?_)
   refine top_all v a _ h.toNat 0 [] (by omega) (by omega) (by show 0 + _ ≤ _; omega) ?_
   rw [List.nil_append]
   refine EvP.step (fun k => by rw [incunabletop_TopRuns.l0]) (EvP.neg (by omega) (EvP.bind o2 ?_))
   rintro _ rfl
   refine EvP.bind o1 ?_
   rintro _ rfl
   refine EvP.pos rfl (EvP.pos rfl (EvP.bind (SameBytes06_is r1 (by omega)) ?_))
   rintro _ rfl
   refine EvP.step (fun k => by rw [incunabletop_TopRuns.j3]) (EvP.neg (by decide) (EvP.bind b3 ?_))
   rintro _ rfl
   refine EvP.bind hc ?_
   rintro _ rfl
   refine EvP.pos rfl (EvP.step (fun k => by rw [incunabletop_TopRuns.j4]) (EvP.neg (by simp) (EvP.bind g1 ?_)))
   rintro _ rfl
   refine EvP.bind g2 ?_
   rintro _ rfl
   refine EvP.pos rfl (EvP.pos rfl (EvP.bind (SameBitmap06_is w a _ hp2) ?_))
   rintro _ rfl
   refine EvP.pos rfl (EvP.bind (SameBitmap06_is w a _ hp2) ?_)
   rintro _ rfl
   refine EvP.step (fun k => by rw [incunabletop_TopRuns.j5]) (EvP.neg (by decide) (EvP.bind e3 ?_))
   rintro _ rfl
   refine EvP.pos rfl (EvP.pos ?_ ?_)
   ·show (r3.length : Int) = wrap64 (Int.tdiv (wrap64 ((bk.flatten.length : Int) + 7)) 8)
    rw [w64 (x := (bk.flatten.length : Int) + 7) (by omega) (by omega), tdiv_pos (by omega), w64 (by omega) (by omega)]
    exact e5
   ·rw [decide_eq_false (show ¬ ((allB w p 0 a.toNat).length : Int) > ((allB w p 0 h.toNat).length : Int) by omega)]
    refine EvP.step (fun k => by rw [incunabletop_TopRuns.j6]) (EvP.neg (by decide) (EvP.bind (Unpack_is b4 _ A2 n2 (by omega)) ?_))
    rintro _ rfl
    refine EvP.bind (Unpack_is e4 _ e7 n3 (by omega)) ?_
    rintro _ rfl
    refine EvP.pos rfl (EvP.pos rfl (EvP.bind (SameBytes06_is bk.flatten (by omega)) ?_))
    rintro _ rfl
    refine EvP.pos rfl (EvP.bind Awake06_is ?_)
    rintro _ rfl
    exact EvP.ret rfl
 ·rw [decide_eq_false v]
  exact EvP.neg (by decide) stop
end Go.Proofs.YtidgpjcgoocpeaaDoor.Pure
