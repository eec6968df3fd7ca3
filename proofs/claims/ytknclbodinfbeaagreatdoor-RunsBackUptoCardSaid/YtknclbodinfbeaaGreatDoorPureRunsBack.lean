/- A bitmap comes back from its codes in one dimension and in two, whatever stands behind, and how many bits it takes; where what is read is of bulk at most 1048576 (RunsBack). -/
import Derived.Test.YtknclbodinfbeaaGreatDoorPRunsBackx23
import Derived.Test.YtknclbodinfbeaaGreatDoorQBase
namespace Go.Proofs.YtknclbodinfbeaaGreatDoor.Pure
open Go.RowKit Go.Proofs.YtknclbodinfbeaaGreatDoor.PRunsBack Go.Proofs.YtknclbodinfbeaaGreatDoorW.PrintWords Go.Proofs.YtknclbodinfbeaaGreatDoorW.PrintLast Go.Proofs.YtknclbodinfbeaaGreatDoorW.PrintMore Go.Proofs.YtknclbodinfbeaaGreatDoorW.Pu
set_option linter.unusedVariables false
set_option linter.unusedSimpArgs false
theorem vJ.of {α : Type} {g : Nat → Option α} {r : α} (m : ∀ k, vK (g k) (g (k + 1))) {k : Nat} (h : g k = some r) : vJ g (· = r) := ⟨r, Ev.of m h, rfl⟩
theorem kn {l : List Int} {i : Int} (h0 : 0 ≤ i) (h1 : i < (l.length : Int)) : l.drop i.toNat = rd l i :: l.drop (i + 1).toNat := by
 have h : i.toNat < l.length := by omega
 rw [show (i + 1).toNat = i.toNat + 1 by omega, List.drop_eq_getElem_cons h]
 congr 1
 have := kY l i.toNat h
 rw [show ((i.toNat : Nat) : Int) = i by omega] at this
 exact this.symm
theorem drop_end {l : List Int} {i : Int} (h1 : (l.length : Int) ≤ i) : l.drop i.toNat = [] := List.drop_eq_nil_of_le (by omega)
theorem awake06 : we.f 200 = some true := by decide +kernel
theorem Awake06_is : vJ (fun k => we.f k) (· = true) := vJ.of we.mono awake06
def jq (l : List Int) (i : Int) : Int := Int.tmod (shr .u8 (rd l (i / 8)) (7 - i % 8)) 2
def zm (l : List Int) : Prop := (∀ y ∈ l, 0 ≤ y ∧ y ≤ 255) ∧ (l.length : Int) ≤ 140737488351232
def en (l : List Int) : Int := 8 * (l.length : Int)
theorem bit_good : (List.range 256).all (fun v => (List.range 8).all fun j => decide (0 ≤ shr .u8 (v : Int) (7 - (j : Int))) && decide (shr .u8 (v : Int) (7 - (j : Int)) ≤ 255) && decide (Go.bits .and .u8 (shr .u8 (v : Int) (7 - (j : Int))) 1 = Int.tmod (shr .u8 (v : Int) (7 - (j : Int))) 2) && (decide (Int.tmod (shr .u8 (v : Int) (7 - (j : Int))) 2 = 0) || decide (Int.tmod (shr .u8 (v : Int) (7 - (j : Int))) 2 = 1))) = true := by decide +kernel
theorem bit_at {l : List Int} (hl : zm l) {i : Int} (i0 : 0 ≤ i) (i1 : i < en l) :
  0 ≤ shr .u8 (rd l (i / 8)) (7 - i % 8) ∧ shr .u8 (rd l (i / 8)) (7 - i % 8) ≤ 255 ∧ Go.bits .and .u8 (shr .u8 (rd l (i / 8)) (7 - i % 8)) 1 = jq l i ∧ (jq l i = 0 ∨ jq l i = 1) := by
 unfold en at i1
 obtain ⟨v0, v1⟩ := hl.1 _ (kA (l := l) (i := i / 8) (by omega) (by omega))
 have g := List.all_eq_true.mp (List.all_eq_true.mp bit_good (rd l (i / 8)).toNat (List.mem_range.mpr (by omega))) (i % 8).toNat (List.mem_range.mpr (by omega))
 rw [show (((rd l (i / 8)).toNat : Nat) : Int) = rd l (i / 8) by omega, show (((i % 8).toNat : Nat) : Int) = i % 8 by omega] at g
 simp only [Bool.and_eq_true, Bool.or_eq_true, decide_eq_true_iff] at g
 exact ⟨g.1.1.1, g.1.1.2, g.1.2, g.2⟩
def jH (l : List Int) (p : Int) : Nat → Int → Int
 | 0, a => a
 | n + 1, a => jH l (p + 1) n (2 * a + jq l p)
theorem BitsL_is {l : List Int} (hl : zm l) (n : Nat) : ∀ (m : Nat) (j a p : Int), j + m = n → 0 ≤ j → n ≤ 32 → 0 ≤ p → p + m ≤ en l → 0 ≤ a → a < 2 ^ j.toNat →
  vJ (fun k => vM.l0 k a (n : Int) j l p true) (· = (jH l p m a, 0, p + m, true)) := by
 intro m
 induction m with
 | zero =>
  intro j a p hj j0 hn p0 hp a0 a1
  refine vJ.step (fun k => by rw [vM.l0]) (vJ.neg (by omega) (vJ.ret ?_))
  simp [jH]
 | succ m ih =>
  intro j a p hj j0 hn p0 hp a0 a1
  have h2 := hl.2
  have p1 : p < en l := by omega
  obtain ⟨s0, s1, s2, s3⟩ := bit_at hl p0 p1
  unfold en at hp p1
  have jl : (2 : Int) ^ j.toNat ≤ 2 ^ 32 := by
   have := Nat.pow_le_pow_right (n := 2) (by omega) (show j.toNat ≤ 32 by omega)
   exact_mod_cast this
  have jl' : (2 : Int) ^ 32 = 4294967296 := by decide
  refine vJ.step (fun k => by rw [vM.l0]) (vJ.pos (by omega) ?_)
  rw [tdiv_pos p0, kF p0, zx (x := p / 8) (by omega) (by omega), zx (x := 7 - p % 8) (by omega) (by omega), s2, zx (x := 2 * a) (by omega) (by omega), zx (x := jq l p) (by omega) (by omega), zx (x := j + 1) (by omega) (by omega), zx (x := p + 1) (by omega) (by omega), zx (x := 2 * a + jq l p) (by omega) (by omega)]
  refine vJ.pos (by omega) (vJ.pos (by omega) (vJ.pos (by omega) ?_))
  have e : (2 : Int) ^ (j + 1).toNat = 2 * 2 ^ j.toNat := by rw [show (j + 1).toNat = j.toNat + 1 by omega, Int.pow_succ]; omega
  refine (ih (j + 1) (2 * a + jq l p) (p + 1) (by omega) (by omega) hn (by omega) (by unfold en; omega) (by omega) (by rw [e]; omega)).mono ?_
  rintro r rfl
  rw [jH]
  congr 3
  omega
theorem Bits_is {l : List Int} (hl : zm l) {n p : Int} (n0 : 0 ≤ n) (n1 : n ≤ 32) (p0 : 0 ≤ p) (p1 : p ≤ en l) :
  vJ (fun k => vM.f k l p true n) (· = if en l - p < n then (0, 6, p, true) else (jH l p n.toNat 0, 0, p + n, true)) := by
 have h2 := hl.2
 unfold vM.f
 refine vJ.zL (a := (false, p, true)) rfl (vJ.neg (by simp) (vJ.neg (by omega) ?_))
 rw [show decide (n > 32) = false by simpa using n1]
 refine vJ.step (fun k => by rw [vM.j0]) (vJ.neg (by simp) ?_)
 refine vJ.zL (a := (en l - p, p, true)) ?_ ?_
 ·unfold yN.f xA.f en
  unfold en at p1
  simp only [Option.bind_some, Bool.not_true, Bool.false_eq_true, if_false]
  rw [zx (x := 8 * (l.length : Int)) (by omega) (by omega), zx (by omega) (by omega)]
 ·by_cases c : en l - p < n
  ·rw [if_pos c]
   exact vJ.pos (by show n > en l - p; omega) (vJ.ret rfl)
  ·rw [if_neg c]
   refine vJ.neg (by show ¬ n > en l - p; omega) ?_
   have := BitsL_is hl n.toNat n.toNat 0 0 p (by omega) (by omega) (by omega) p0 (by omega) (by omega) (by decide)
   rw [show ((n.toNat : Nat) : Int) = n by omega] at this
   exact this
theorem valN_bound {l : List Int} (hl : zm l) : ∀ (m : Nat) (p a : Int), 0 ≤ p → p + m ≤ en l → 0 ≤ a → 0 ≤ jH l p m a ∧ jH l p m a < (a + 1) * 2 ^ m := by
 intro m
 induction m with
 | zero => intro p a p0 hp a0; simp [jH]; omega
 | succ m ih =>
  intro p a p0 hp a0
  obtain ⟨s0, s1, s2, s3⟩ := bit_at hl (i := p) p0 (by omega)
  obtain ⟨q0, q1⟩ := ih (p + 1) (2 * a + jq l p) (by omega) (by omega) (by omega)
  rw [jH]
  refine ⟨q0, Int.lt_of_lt_of_le q1 ?_⟩
  rw [Int.pow_succ, show (a + 1) * (2 ^ m * 2) = (2 * (a + 1)) * 2 ^ m by rw [Int.mul_comm ((2 : Int) ^ m) 2, ← Int.mul_assoc, Int.mul_comm (a + 1) 2]]
  exact Int.mul_le_mul_of_nonneg_right (by omega) (Int.pow_nonneg (by omega))
inductive zg where
 | leaf (i : Nat)
 | bad
 | node (a b : zg)
def zg.run (l : List Int) : zg → Int → Int × Int × Int
 | .leaf i, p => ((i : Int), 0, p)
 | .bad, p => (0, 3, p)
 | .node a b, p => if en l ≤ p then (0, 6, p) else if jq l p = 0 then a.run l (p + 1) else b.run l (p + 1)
theorem zg.run_place (l : List Int) : ∀ (t : zg) (p : Int), 0 ≤ p → p ≤ en l → p ≤ (t.run l p).2.2 ∧ (t.run l p).2.2 ≤ en l := by
 intro t
 induction t with
 | leaf i => intro p h0 h1; exact ⟨Int.le_refl _, h1⟩
 | bad => intro p h0 h1; exact ⟨Int.le_refl _, h1⟩
 | node a b iha ihb =>
  intro p h0 h1
  simp only [zg.run]
  split
  ·exact ⟨Int.le_refl _, h1⟩
  ·split
   ·obtain ⟨x, y⟩ := iha (p + 1) (by omega) (by omega); exact ⟨by omega, y⟩
   ·obtain ⟨x, y⟩ := ihb (p + 1) (by omega) (by omega); exact ⟨by omega, y⟩
def dig0 : ByteArray := Utf8.encode (wrap32 (48 + wrap32 0))
def dig1 : ByteArray := Utf8.encode (wrap32 (48 + wrap32 1))
def wok (L : List ByteArray) : ByteArray → zg → Bool
 | s, .leaf i => decide (vE.f 20 L s = some (i : Int)) && (s.toList != [])
 | s, .bad => decide (vE.f 20 L s = some (-1)) && decide (vX.f 20 L s = some false)
 | s, .node a b => decide (vE.f 20 L s = some (-1)) && decide (vX.f 20 L s = some true) && decide (s.size + dig0.size ≤ 1000) && decide (s.size + dig1.size ≤ 1000) && wok L (s ++ dig0) a && wok L (s ++ dig1) b
theorem word_run {l : List Int} (hl : zm l) (L : List ByteArray) : ∀ (t : zg) (s : ByteArray) (p : Int), wok L s t = true → 0 ≤ p → p ≤ en l →
  vJ (fun k => vR.l0 k L l p true s) (· = ((t.run l p).1, (t.run l p).2.1, (t.run l p).2.2, true)) := by
 intro t
 induction t with
 | leaf i =>
  intro s p hw h0 h1
  simp only [wok, Bool.and_eq_true, decide_eq_true_iff] at hw
  refine vJ.step (fun k => by rw [vR.l0]) ?_
  refine vJ.bind (vJ.of (fun k => vE.mono L s k) hw.1) ?_
  rintro _ rfl
  refine vJ.pos (by omega) ?_
  rw [hw.2]
  refine vJ.step (fun k => by rw [vR.j1]) ?_
  exact vJ.pos rfl (vJ.ret rfl)
 | bad =>
  intro s p hw h0 h1
  simp only [wok, Bool.and_eq_true, decide_eq_true_iff] at hw
  refine vJ.step (fun k => by rw [vR.l0]) ?_
  refine vJ.bind (vJ.of (fun k => vE.mono L s k) hw.1) ?_
  rintro _ rfl
  refine vJ.neg (by omega) ?_
  refine vJ.step (fun k => by rw [vR.j1]) (vJ.neg (by simp) ?_)
  refine vJ.bind (vJ.of (fun k => vX.mono L s k) hw.2) ?_
  rintro _ rfl
  exact vJ.neg (by simp) (vJ.ret rfl)
 | node a b iha ihb =>
  intro s p hw h0 h1
  simp only [wok, Bool.and_eq_true, decide_eq_true_iff] at hw
  obtain ⟨⟨⟨⟨⟨w1, w2⟩, w3⟩, w4⟩, w5⟩, w6⟩ := hw
  refine vJ.step (fun k => by rw [vR.l0]) ?_
  refine vJ.bind (vJ.of (fun k => vE.mono L s k) w1) ?_
  rintro _ rfl
  refine vJ.neg (by omega) ?_
  refine vJ.step (fun k => by rw [vR.j1]) (vJ.neg (by simp) ?_)
  refine vJ.bind (vJ.of (fun k => vX.mono L s k) w2) ?_
  rintro _ rfl
  refine vJ.pos rfl ?_
  refine vJ.bind (Bits_is hl (n := 1) (by omega) (by omega) h0 h1) ?_
  rintro _ rfl
  by_cases c : en l ≤ p
  ·rw [if_pos (show en l - p < 1 by omega), zg.run, if_pos c]
   exact vJ.neg (by simp) (vJ.ret rfl)
  ·rw [if_neg (show ¬ en l - p < 1 by omega), zg.run, if_neg c]
   have hv : jH l p (Int.toNat 1) 0 = jq l p := by simp [jH]
   rw [hv]
   obtain ⟨s0, s1, s2, s3⟩ := bit_at hl h0 (show p < en l by omega)
   refine vJ.pos rfl ?_
   rcases s3 with s3 | s3
   ·rw [s3, if_pos rfl]
    exact vJ.pos (show s.size + dig0.size ≤ 9223372036854775807 by omega) (iha (s ++ dig0) (p + 1) w5 (by omega) (by omega))
   ·rw [s3, if_neg (by omega)]
    exact vJ.pos (show s.size + dig1.size ≤ 9223372036854775807 by omega) (ihb (s ++ dig1) (p + 1) w6 (by omega) (by omega))
def trU : zg := .node (.leaf 0) (.node (.leaf 1) (.node (.leaf 2) (.node (.leaf 3) (.node (.leaf 4) (.leaf 5)))))
def trC0 : zg := .node (.node (.leaf 0) (.leaf 1)) (.node (.leaf 2) (.leaf 3))
def trC1 : zg := .node (.leaf 0) (.node (.leaf 1) (.node (.leaf 2) (.leaf 3)))
theorem wokU : wok tU.2 ⟨#[]⟩ trU = true := by decide +kernel
theorem wokC0 : wok qf.2 ⟨#[]⟩ trC0 = true := by decide +kernel
theorem wokC1 : wok qk.2 ⟨#[]⟩ trC1 = true := by decide +kernel
def trW : zg := .node (.node (.node (.node (.node (.node (.bad) (.node (.leaf 2) (.leaf 8))) (.node (.leaf 3) (.leaf 7))) (.leaf 0)) (.leaf 1)) (.node (.leaf 4) (.leaf 6))) (.leaf 5)
theorem wokW : wok tW ⟨#[]⟩ trW = true := by decide +kernel
def jM (ls : List wb) (cs : List (List Int)) : Bool := decide (ls.length = cs.length) && ls.all (fun x => decide (x.f0 > 0) && decide (x.f3 = 0) && decide (0 ≤ x.f1) && decide (x.f1 ≤ 20) && decide (0 ≤ x.f2) && decide (x.f2 ≤ 1000)) && cs.all (fun c => c.all (fun b => decide (b = 0) || decide (b = 1)))
theorem kW {ls : List wb} {cs : List (List Int)} (h : jM ls cs = true) {i : Int} (i0 : 0 ≤ i) (i1 : i < (ls.length : Int)) :
  (vk ls i).f0 > 0 ∧ (vk ls i).f3 = 0 ∧ 0 ≤ (vk ls i).f1 ∧ (vk ls i).f1 ≤ 20 ∧ 0 ≤ (vk ls i).f2 ∧ (vk ls i).f2 ≤ 1000 := by
 simp only [jM, Bool.and_eq_true, List.all_eq_true, decide_eq_true_iff] at h
 have hm : vk ls i ∈ ls := by
  unfold vk
  rw [List.getD_eq_getElem?_getD, List.getElem?_eq_getElem (show i.toNat < ls.length by omega)]
  exact List.getElem_mem _
 obtain ⟨⟨⟨⟨⟨a, b⟩, c⟩, d⟩, e⟩, f⟩ := h.1.2 _ hm
 exact ⟨a, b, c, d, e, f⟩
def csU : List (List Int) := [[0], [1, 0], [1, 1, 0], [1, 1, 1, 0], [1, 1, 1, 1, 0], [1, 1, 1, 1, 1]]
def csC0 : List (List Int) := [[0, 0], [0, 1], [1, 0], [1, 1]]
def csC1 : List (List Int) := [[0], [1, 0], [1, 1, 0], [1, 1, 1]]
theorem goodU : jM tU.1 csU = true := by decide +kernel
theorem goodC0 : jM qf.1 csC0 = true := by decide +kernel
theorem goodC1 : jM qk.1 csC1 = true := by decide +kernel
def rbP (n c : Int) : List Int := (wZ.f 201 n c).getD []
def qb : Nat → Int → List Int
 | 0, _ => []
 | m + 1, e => (e / (2 ^ m : Nat) % 2) :: qb m e
theorem digs_len (m : Nat) (e : Int) : (qb m e).length = m := by
 induction m with
 | zero => rfl
 | succ m ih => simp [qb, ih]
theorem digs_add : ∀ (m k : Nat) (b x : Int), m ≤ k → qb m (b * (2 ^ k : Nat) + x) = qb m x := by
 intro m
 induction m with
 | zero => intro k b x h; rfl
 | succ m ih =>
  intro k b x h
  simp only [qb]
  rw [ih k b x (by omega)]
  congr 1
  obtain ⟨j, rfl⟩ : ∃ j, k = m + (1 + j) := ⟨k - m - 1, by omega⟩
  have e1 : ((2 ^ (m + (1 + j)) : Nat) : Int) = ((2 ^ m : Nat) : Int) * (2 * ((2 ^ j : Nat) : Int)) := by
   rw [Nat.pow_add, Nat.pow_add]; push_cast; rfl
  have hp : ((2 ^ m : Nat) : Int) ≠ 0 := by have := Nat.two_pow_pos m; omega
  rw [e1, show b * (((2 ^ m : Nat) : Int) * (2 * ((2 ^ j : Nat) : Int))) + x = x + ((2 ^ m : Nat) : Int) * (b * (2 * ((2 ^ j : Nat) : Int))) by rw [Int.add_comm]; congr 1; rw [Int.mul_left_comm], Int.add_mul_ediv_left _ _ hp]
  rw [show b * (2 * ((2 ^ j : Nat) : Int)) = 2 * (b * ((2 ^ j : Nat) : Int)) by rw [Int.mul_left_comm]]
  omega
def Are (l : List Int) (p q : Int) (bs : List Int) : Prop := q = p + bs.length ∧ ∀ j : Int, 0 ≤ j → j < (bs.length : Int) → jq l (p + j) = rd bs j
theorem Are.nil (l : List Int) (p : Int) : Are l p p [] := ⟨by simp, fun j a b => by simp at b; omega⟩
theorem Va (a b : List Int) (j : Int) (j0 : 0 ≤ j) : rd (a ++ b) j = if j < (a.length : Int) then rd a j else rd b (j - a.length) := by
 unfold rd
 simp only [List.getD_eq_getElem?_getD]
 split
 ·rw [List.getElem?_append_left (by omega)]
 ·rw [List.getElem?_append_right (by omega), show j.toNat - a.length = (j - (a.length : Int)).toNat by omega]
theorem Are.app {l : List Int} {p q r : Int} {a b : List Int} (h : Are l p q a) (k : Are l q r b) : Are l p r (a ++ b) := by
 obtain ⟨h1, h2⟩ := h
 obtain ⟨k1, k2⟩ := k
 refine ⟨by rw [List.length_append]; omega, fun j j0 j1 => ?_⟩
 rw [List.length_append] at j1
 rw [Va a b j j0]
 split
 ·rename_i c; exact h2 j j0 c
 ·rename_i c
  have := k2 (j - a.length) (by omega) (by omega)
  rw [← this, h1]
  congr 1
  omega
theorem Are.cons {l : List Int} {p q b : Int} {bs : List Int} (h : jq l p = b) (k : Are l (p + 1) q bs) : Are l p q (b :: bs) := by
 have h1 : Are l p (p + 1) [b] := ⟨by simp, fun j a c => by
  simp at c
  have : j = 0 := by omega
  subst this
  rw [Int.add_zero, h]
  rfl⟩
 exact h1.app k
theorem valN_add {l : List Int} : ∀ (m : Nat) (p a : Int), jH l p m a = a * (2 ^ m : Nat) + jH l p m 0 := by
 intro m
 induction m with
 | zero => intro p a; simp [jH]
 | succ m ih =>
  intro p a
  rw [jH, jH, ih (p + 1) (2 * a + jq l p), ih (p + 1) (2 * 0 + jq l p), Nat.pow_succ]
  push_cast
  rw [Int.add_mul, Int.add_mul]
  have : 2 * a * (2 ^ m : Int) = a * ((2 ^ m : Int) * 2) := by rw [Int.mul_comm 2 a, Int.mul_assoc, Int.mul_comm 2]
  omega
def jp (ls : List wb) (t : zg) (l : List Int) (p : Int) : Except Int (Int × Int) :=
 if (t.run l p).2.1 = 0 then
  (if en l - (t.run l p).2.2 < (vk ls (t.run l p).1).f1 then .error 6
   else .ok ((vk ls (t.run l p).1).f2 + jH l (t.run l p).2.2 (vk ls (t.run l p).1).f1.toNat 0, (t.run l p).2.2 + (vk ls (t.run l p).1).f1))
 else .error (t.run l p).2.1
def PP (s : Except Int (Int × Int)) (r : Int × Int × Int × Bool) : Prop := match s with
 | .error e => e ≠ 0 ∧ r.2.1 = e
 | .ok v => r = (v.1, 0, v.2, true)
def zg.lt (n : Nat) : zg → Bool
 | .leaf i => decide (i < n)
 | .bad => true
 | .node a b => a.lt n && b.lt n
theorem zg.run_lt (l : List Int) (n : Nat) : ∀ (t : zg) (p : Int), t.lt n = true → (t.run l p).2.1 = 0 → 0 ≤ (t.run l p).1 ∧ (t.run l p).1 < (n : Int) := by
 intro t
 induction t with
 | leaf i => intro p h _; simp only [zg.lt, decide_eq_true_iff] at h; simp only [zg.run]; omega
 | bad => intro p h e; simp [zg.run] at e
 | node a b iha ihb =>
  intro p h e
  simp only [zg.lt, Bool.and_eq_true] at h
  simp only [zg.run] at e ⊢
  split
  ·rename_i c; rw [if_pos c] at e; simp at e
  ·rename_i c
   rw [if_neg c] at e
   split
   ·rename_i d; rw [if_pos d] at e; exact iha _ h.1 e
   ·rename_i d; rw [if_neg d] at e; exact ihb _ h.2 e
theorem ke {ls : List wb} {cs : List (List Int)} (hg : jM ls cs = true) {t : zg} (ht : t.lt ls.length = true) {l : List Int} (hl : zm l) {p : Int} (h0 : 0 ≤ p) (h1 : p ≤ en l) {v : Int × Int} (h : jp ls t l p = .ok v) :
  0 ≤ v.1 ∧ v.1 < 1000 + 2000000 ∧ p ≤ v.2 ∧ v.2 ≤ en l := by
 unfold jp at h
 split at h
 ·rename_i e
  obtain ⟨i0, i1⟩ := zg.run_lt l ls.length t p ht e
  obtain ⟨p0, p1⟩ := zg.run_place l t p h0 h1
  obtain ⟨g0, g1, g2, g3, g4, g5⟩ := kW hg i0 i1
  split at h
  ·cases h
  ·rename_i c
   injection h with h
   subst h
   obtain ⟨b0, b1⟩ := valN_bound hl (vk ls (t.run l p).1).f1.toNat (t.run l p).2.2 0 (by omega) (by omega) (by omega)
   have jl : (2 : Int) ^ (vk ls (t.run l p).1).f1.toNat ≤ 2 ^ 20 := by
    have := Nat.pow_le_pow_right (n := 2) (by omega) (show (vk ls (t.run l p).1).f1.toNat ≤ 20 by omega)
    exact_mod_cast this
   have jl' : (2 : Int) ^ 20 = 1048576 := by decide
   refine ⟨?_, ?_, ?_, ?_⟩ <;> simp only <;> omega
 ·cases h
theorem kS {l : List Int} (hl : zm l) {ls : List wb} {cs : List (List Int)} (hg : jM ls cs = true) {t : zg} (ht : t.lt ls.length = true) {L : List ByteArray} (hw : wok L ⟨#[]⟩ t = true) {p : Int} (h0 : 0 ≤ p) (h1 : p ≤ en l) :
  vJ (fun k => wn.f k l p true ls L) (PP (jp ls t l p)) := by
 unfold wn.f
 refine vJ.bind (Q := (· = ((t.run l p).1, (t.run l p).2.1, (t.run l p).2.2, true))) (word_run hl L t ⟨#[]⟩ p hw h0 h1) ?_
 rintro _ rfl
 unfold jp
 by_cases e : (t.run l p).2.1 = 0
 ·obtain ⟨i0, i1⟩ := zg.run_lt l ls.length t p ht e
  obtain ⟨p0, p1⟩ := zg.run_place l t p h0 h1
  obtain ⟨g0, g1, g2, g3, g4, g5⟩ := kW hg i0 i1
  have nb := fun v => ke hg ht hl h0 h1 (v := v)
  unfold jp at nb
  rw [if_pos e] at nb ⊢
  refine vJ.pos e (vJ.pos i0 (vJ.pos i1 ?_))
  refine vJ.bind (Bits_is hl (n := (vk ls (t.run l p).1).f1) (p := (t.run l p).2.2) g2 (by omega) (by omega) p1) ?_
  rintro _ rfl
  by_cases c : en l - (t.run l p).2.2 < (vk ls (t.run l p).1).f1
  ·rw [if_pos c, if_pos c]
   exact vJ.ret ⟨by omega, rfl⟩
  ·rw [if_neg c] at nb
   obtain ⟨b0, b1, _, _⟩ := nb _ rfl
   rw [if_neg c, if_neg c]
   refine vJ.ret ?_
   show _ = _
   simp only at b0 b1 ⊢
   rw [zx (by omega) (by omega), Int.add_comm]
 ·rw [if_neg e]
  exact vJ.neg e (vJ.ret ⟨e, rfl⟩)
def qt (l : List Int) (p c : Int) : Except Int (Int × Int) := match jp tU.1 trU l p with
 | .error e => .error e
 | .ok n => match jp (if c = 0 then qf.1 else qk.1) (if c = 0 then trC0 else trC1) l n.2 with
  | .error e => .error e
  | .ok m => if m.1 ≥ 64 then .error 3 else .ok (n.1 * 64 + m.1, m.2)
theorem numC_ok {l : List Int} (hl : zm l) {c p : Int} (h0 : 0 ≤ p) (h1 : p ≤ en l) {v : Int × Int} (h : jp (if c = 0 then qf.1 else qk.1) (if c = 0 then trC0 else trC1) l p = .ok v) : 0 ≤ v.1 ∧ v.1 < 1000 + 2000000 ∧ p ≤ v.2 ∧ v.2 ≤ en l := by
 by_cases c0 : c = 0
 ·simp only [if_pos c0] at h
  exact ke goodC0 (by decide) hl h0 h1 h
 ·simp only [if_neg c0] at h
  exact ke goodC1 (by decide) hl h0 h1 h
theorem run06_ok {l : List Int} (hl : zm l) {c p : Int} (h0 : 0 ≤ p) (h1 : p ≤ en l) {v : Int × Int} (h : qt l p c = .ok v) : 0 ≤ v.1 ∧ v.1 < 200000000 ∧ p ≤ v.2 ∧ v.2 ≤ en l := by
 unfold qt at h
 cases e1 : jp tU.1 trU l p with
 | error e => rw [e1] at h; cases h
 | ok n =>
  rw [e1] at h
  obtain ⟨a, b, c', d⟩ := ke goodU (by decide) hl h0 h1 e1
  simp only at h
  cases e2 : jp (if c = 0 then qf.1 else qk.1) (if c = 0 then trC0 else trC1) l n.2 with
  | error e => rw [e2] at h; cases h
  | ok m =>
   rw [e2] at h
   obtain ⟨a', b', c'', d'⟩ := numC_ok hl (by omega) d e2
   simp only at h
   split at h
   ·cases h
   ·injection h with h
    subst h
    refine ⟨?_, ?_, ?_, ?_⟩ <;> simp only <;> omega
theorem run_is {l : List Int} (hl : zm l) {c p : Int} (hc : c = 0 ∨ c = 1) (h0 : 0 ≤ p) (h1 : p ≤ en l) : vJ (fun k => wY.f k l p true c) (PP (qt l p c)) := by
 unfold wY.f yO.f qt
 refine vJ.pos hc ?_
 refine vJ.bind (kS hl goodU (t := trU) (by decide) wokU h0 h1) ?_
 intro r hr
 cases e1 : jp tU.1 trU l p with
 | error e =>
  rw [e1] at hr
  obtain ⟨hr1, hr2⟩ := hr
  exact vJ.neg (by rw [hr2]; exact hr1) (vJ.ret ⟨hr1, hr2⟩)
 | ok n =>
  rw [e1] at hr
  have hr : r = (n.1, 0, n.2, true) := hr
  subst hr
  obtain ⟨a, b, c', d⟩ := ke goodU (by decide) hl h0 h1 e1
  refine vJ.pos rfl ?_
  have hm : vJ (fun k => wn.f k l n.2 true (if c = 0 then qf.1 else qk.1) (if c = 0 then qf.2 else qk.2)) (PP (jp (if c = 0 then qf.1 else qk.1) (if c = 0 then trC0 else trC1) l n.2)) := by
   by_cases c0 : c = 0
   ·simp only [if_pos c0]
    exact kS hl goodC0 (t := trC0) (by decide) wokC0 (by omega) d
   ·simp only [if_neg c0]
    exact kS hl goodC1 (t := trC1) (by decide) wokC1 (by omega) d
  refine vJ.bind hm ?_
  intro r hr
  simp only
  cases e2 : jp (if c = 0 then qf.1 else qk.1) (if c = 0 then trC0 else trC1) l n.2 with
  | error e =>
   rw [e2] at hr
   obtain ⟨hr1, hr2⟩ := hr
   exact vJ.neg (by rw [hr2]; exact hr1) (vJ.ret ⟨hr1, hr2⟩)
  | ok m =>
   rw [e2] at hr
   have hr : r = (m.1, 0, m.2, true) := hr
   subst hr
   obtain ⟨a', b', c'', d'⟩ := numC_ok hl (by omega) d e2
   refine vJ.pos rfl ?_
   simp only
   refine vJ.ite (fun q => vJ.ret ?_) (fun q => vJ.ret ?_)
   ·rw [if_pos q]
    exact ⟨by omega, rfl⟩
   ·rw [if_neg q]
    show _ = _
    rw [zx (x := n.1 * 64) (by omega) (by omega), zx (by omega) (by omega)]
def encT (ls : List wb) (cs : List (List Int)) (a : Int) : List Int := match (List.range ls.length).find? (fun (i : Nat) => decide ((vk ls i).f2 ≤ a) && decide (a < (vk ls i).f2 + 2 ^ (vk ls i).f1.toNat)) with
 | some i => cs.getD i [] ++ qb (vk ls i).f1.toNat (a - (vk ls i).f2)
 | none => []
theorem rbP_good : (List.range 201).all (fun n => decide (wZ.f 201 (n : Int) 0 = some (rbP n 0)) && decide (rbP n 0 = encT tU.1 csU ((n / 64 : Nat) : Int) ++ encT qf.1 csC0 ((n % 64 : Nat) : Int)) && decide (wZ.f 201 (n : Int) 1 = some (rbP n 1)) && decide (rbP n 1 = encT tU.1 csU ((n / 64 : Nat) : Int) ++ encT qk.1 csC1 ((n % 64 : Nat) : Int)) && decide ((rbP n 0).length ≤ 64) && decide ((rbP n 1).length ≤ 64) && (rbP n 0).all (fun b => b == 0 || b == 1) && (rbP n 1).all (fun b => b == 0 || b == 1)) = true := by decide +kernel
theorem rbP_is {n c : Int} (n0 : 0 ≤ n) (n1 : n ≤ 200) (hc : c = 0 ∨ c = 1) : vJ (fun k => wZ.f k n c) (· = rbP n c) ∧ rbP n c = encT tU.1 csU (n / 64) ++ (if c = 0 then encT qf.1 csC0 (n % 64) else encT qk.1 csC1 (n % 64)) ∧ (rbP n c).length ≤ 64 ∧ ∀ b ∈ rbP n c, b = 0 ∨ b = 1 := by
 have g := List.all_eq_true.mp rbP_good n.toNat (List.mem_range.mpr (by omega))
 simp only [Bool.and_eq_true, decide_eq_true_iff, List.all_eq_true, Bool.or_eq_true, beq_iff_eq] at g
 obtain ⟨⟨⟨⟨⟨⟨⟨a1, a2⟩, a3⟩, a4⟩, a5⟩, a6⟩, a7⟩, a8⟩ := g
 have e : ((n.toNat : Nat) : Int) = n := by omega
 have e1 : ((n.toNat / 64 : Nat) : Int) = n / 64 := by omega
 have e2 : ((n.toNat % 64 : Nat) : Int) = n % 64 := by omega
 rw [e] at a1 a2 a3 a4 a5 a6 a7 a8
 rw [e1, e2] at a2 a4
 rcases hc with rfl | rfl
 ·exact ⟨vJ.of (wZ.mono n 0) a1, by rw [if_pos rfl]; exact a2, a5, a7⟩
 ·exact ⟨vJ.of (wZ.mono n 1) a3, by rw [if_neg (by omega)]; exact a4, a6, a8⟩
def zg.go : zg → List Int → Option (Nat × List Int)
 | .leaf i, bs => some (i, bs)
 | .bad, _ => none
 | .node _ _, [] => none
 | .node a b, x :: bs => if x = 0 then a.go bs else b.go bs
theorem zg.go_app : ∀ (t : zg) (a : List Int) (x : List Int) (i : Nat) (r : List Int), t.go a = some (i, r) → t.go (a ++ x) = some (i, r ++ x) := by
 intro t
 induction t with
 | leaf j => intro a x i r h; simp only [zg.go, Option.some.injEq, Prod.mk.injEq] at h ⊢; exact ⟨h.1, by rw [h.2]⟩
 | bad => intro a x i r h; simp [zg.go] at h
 | node s t ihs iht =>
  intro a x i r h
  cases a with
  | nil => simp [zg.go] at h
  | cons y ys =>
   simp only [List.cons_append, zg.go] at h ⊢
   split
   ·rename_i c; rw [if_pos c] at h; exact ihs ys x i r h
   ·rename_i c; rw [if_neg c] at h; exact iht ys x i r h
theorem Are.head {l : List Int} {p q b : Int} {bs : List Int} (h : Are l p q (b :: bs)) : jq l p = b ∧ Are l (p + 1) q bs := by
 obtain ⟨h1, h2⟩ := h
 have h0 := h2 0 (by omega) (by simp <;> omega)
 rw [Int.add_zero] at h0
 refine ⟨h0, by simp at h1; omega, fun j a c => ?_⟩
 have := h2 (j + 1) (by omega) (by simp; omega)
 rw [show p + 1 + j = p + (j + 1) by omega, this]
 unfold rd
 rw [show (j + 1).toNat = j.toNat + 1 by omega, List.getD_cons_succ]
theorem Are.len {l : List Int} {p q : Int} {bs : List Int} (h : Are l p q bs) : q = p + bs.length := h.1
theorem run_go {l : List Int} : ∀ (t : zg) (bs : List Int) (p q : Int) (i : Nat) (r : List Int), Are l p q bs → q ≤ en l → t.go bs = some (i, r) → t.run l p = ((i : Int), 0, q - r.length) := by
 intro t
 induction t with
 | leaf j =>
  intro bs p q i r h hq hg
  simp only [zg.go, Option.some.injEq, Prod.mk.injEq] at hg
  obtain ⟨rfl, rfl⟩ := hg
  have := h.len
  simp only [zg.run]
  congr 2
  omega
 | bad => intro bs p q i r h hq hg; simp [zg.go] at hg
 | node s t ihs iht =>
  intro bs p q i r h hq hg
  cases bs with
  | nil => simp [zg.go] at hg
  | cons y ys =>
   obtain ⟨h1, h2⟩ := h.head
   have hlen := h.len
   simp only [zg.go] at hg
   simp only [zg.run]
   rw [if_neg (by simp at hlen; omega), h1]
   by_cases c : y = 0
   ·rw [if_pos c] at hg ⊢
    exact ihs ys (p + 1) q i r h2 hq hg
   ·rw [if_neg c] at hg ⊢
    exact iht ys (p + 1) q i r h2 hq hg
theorem Are.parts {l : List Int} {p r : Int} {a b : List Int} (h : Are l p r (a ++ b)) : Are l p (p + a.length) a ∧ Are l (p + a.length) r b := by
 obtain ⟨h1, h2⟩ := h
 rw [List.length_append] at h1
 refine ⟨⟨rfl, fun j j0 j1 => ?_⟩, ⟨by omega, fun j j0 j1 => ?_⟩⟩
 ·have := h2 j j0 (by rw [List.length_append]; omega)
  rw [this, Va a b j j0, if_pos j1]
 ·have := h2 (a.length + j) (by omega) (by rw [List.length_append]; omega)
  rw [show p + (a.length : Int) + j = p + ((a.length : Int) + j) by omega, this, Va a b _ (by omega), if_neg (by omega)]
  congr 1
  omega
theorem digs_val {l : List Int} : ∀ (m : Nat) (p q e : Int), 0 ≤ e → e < (2 ^ m : Nat) → Are l p q (qb m e) → jH l p m 0 = e := by
 intro m
 induction m with
 | zero => intro p q e e0 e1 h; simp [jH]; omega
 | succ m ih =>
  intro p q e e0 e1 h
  simp only [qb] at h
  obtain ⟨h1, h2⟩ := h.head
  have hp : (0 : Int) < ((2 ^ m : Nat) : Int) := by have := Nat.two_pow_pos m; omega
  have e1' : e < 2 * ((2 ^ m : Nat) : Int) := by rw [Nat.pow_succ] at e1; push_cast at e1 ⊢; omega
  have hd := Int.mul_ediv_add_emod e ((2 ^ m : Nat) : Int)
  have hm0 := Int.emod_nonneg e (show ((2 ^ m : Nat) : Int) ≠ 0 by omega)
  have hm1 := Int.emod_lt_of_pos e hp
  have hb : e / ((2 ^ m : Nat) : Int) = 0 ∨ e / ((2 ^ m : Nat) : Int) = 1 := by
   have a1 : 0 ≤ e / ((2 ^ m : Nat) : Int) := Int.ediv_nonneg e0 (by omega)
   have a2 : e / ((2 ^ m : Nat) : Int) < 2 := Int.ediv_lt_of_lt_mul hp e1'
   omega
  have hdig : qb m e = qb m (e % ((2 ^ m : Nat) : Int)) := by
   have := digs_add m m (e / ((2 ^ m : Nat) : Int)) (e % ((2 ^ m : Nat) : Int)) (Nat.le_refl _)
   rw [Int.mul_comm, hd] at this
   exact this
  rw [hdig] at h2
  have hv := ih (p + 1) q (e % ((2 ^ m : Nat) : Int)) hm0 hm1 h2
  rw [jH, valN_add m (p + 1) (2 * 0 + jq l p), hv, h1]
  rcases hb with hb | hb
  ·rw [hb] at hd ⊢
   omega
  ·rw [hb] at hd ⊢
   omega
theorem num_fwd {ls : List wb} {cs : List (List Int)} {t : zg} (hi : (List.range ls.length).all (fun (i : Nat) => match t.go (cs.getD i []) with | some (j, []) => j == i | _ => false) = true) (hg : jM ls cs = true) {l : List Int} {p q e : Int} {i : Nat} (i1 : i < ls.length) (e0 : 0 ≤ e) (e1 : e < 2 ^ (vk ls i).f1.toNat) (h : Are l p q (cs.getD i [] ++ qb (vk ls i).f1.toNat e)) (hq : q ≤ en l) :
  jp ls t l p = .ok ((vk ls i).f2 + e, q) := by
 have hgo : t.go (cs.getD i []) = some (i, []) := by
  have g := List.all_eq_true.mp hi i (List.mem_range.mpr i1)
  cases hc : t.go (cs.getD i []) with
  | none => rw [hc] at g; simp at g
  | some x =>
   obtain ⟨j, r⟩ := x
   rw [hc] at g
   cases r with
   | nil => simp only [beq_iff_eq] at g; rw [g]
   | cons a b => simp at g
 obtain ⟨g0, g1, g2, g3, g4, g5⟩ := kW hg (i := (i : Int)) (by omega) (by omega)
 have hr := run_go t _ p q i _ h hq (zg.go_app t _ (qb (vk ls i).f1.toNat e) i [] hgo)
 obtain ⟨h1, h2⟩ := h.parts
 have hl2 := h2.len
 rw [digs_len] at hl2
 rw [List.nil_append, digs_len] at hr
 have hpl : q - ((vk ls i).f1.toNat : Int) = p + ((cs.getD i []).length : Int) := by omega
 rw [hpl] at hr
 unfold jp
 rw [hr]
 simp only [if_true]
 rw [if_neg (by omega), digs_val _ _ q e e0 (by push_cast; exact e1) h2]
 congr 2
 omega
theorem goU : (List.range tU.1.length).all (fun (i : Nat) => match trU.go (csU.getD i []) with | some (j, []) => j == i | _ => false) = true := by decide +kernel
theorem goC0 : (List.range qf.1.length).all (fun (i : Nat) => match trC0.go (csC0.getD i []) with | some (j, []) => j == i | _ => false) = true := by decide +kernel
theorem goC1 : (List.range qk.1.length).all (fun (i : Nat) => match trC1.go (csC1.getD i []) with | some (j, []) => j == i | _ => false) = true := by decide +kernel
theorem enc_fwd {ls : List wb} {cs : List (List Int)} {t : zg} (hi : (List.range ls.length).all (fun (i : Nat) => match t.go (cs.getD i []) with | some (j, []) => j == i | _ => false) = true) (hg : jM ls cs = true) {l : List Int} {p q a : Int} (hs : ((List.range ls.length).find? (fun (i : Nat) => decide ((vk ls i).f2 ≤ a) && decide (a < (vk ls i).f2 + 2 ^ (vk ls i).f1.toNat))).isSome = true) (h : Are l p q (encT ls cs a)) (hq : q ≤ en l) : jp ls t l p = .ok (a, q) := by
 unfold encT at h
 cases hf : (List.range ls.length).find? (fun (i : Nat) => decide ((vk ls i).f2 ≤ a) && decide (a < (vk ls i).f2 + 2 ^ (vk ls i).f1.toNat)) with
 | none => rw [hf] at hs; simp at hs
 | some i =>
  rw [hf] at h
  have h1 := List.find?_some hf
  have h2 := List.mem_range.mp (List.mem_of_find?_eq_some hf)
  simp only [Bool.and_eq_true, decide_eq_true_iff] at h1
  have := num_fwd hi hg h2 (show 0 ≤ a - (vk ls i).f2 by omega) (by omega) h hq
  rw [this]
  congr 2
  omega
theorem someU : (List.range 4).all (fun a => ((List.range tU.1.length).find? (fun (i : Nat) => decide ((vk tU.1 i).f2 ≤ (a : Int)) && decide ((a : Int) < (vk tU.1 i).f2 + 2 ^ (vk tU.1 i).f1.toNat))).isSome) = true := by decide +kernel
theorem someC0 : (List.range 64).all (fun a => ((List.range qf.1.length).find? (fun (i : Nat) => decide ((vk qf.1 i).f2 ≤ (a : Int)) && decide ((a : Int) < (vk qf.1 i).f2 + 2 ^ (vk qf.1 i).f1.toNat))).isSome) = true := by decide +kernel
theorem someC1 : (List.range 64).all (fun a => ((List.range qk.1.length).find? (fun (i : Nat) => decide ((vk qk.1 i).f2 ≤ (a : Int)) && decide ((a : Int) < (vk qk.1 i).f2 + 2 ^ (vk qk.1 i).f1.toNat))).isSome) = true := by decide +kernel
theorem run_fwd {l : List Int} {p q n c : Int} (n0 : 0 ≤ n) (n1 : n ≤ 200) (hc : c = 0 ∨ c = 1) (h : Are l p q (rbP n c)) (hq : q ≤ en l) : qt l p c = .ok (n, q) := by
 obtain ⟨_, r2, _, _⟩ := rbP_is n0 n1 hc
 rw [r2] at h
 obtain ⟨h1, h2⟩ := h.parts
 have hl2 := h2.len
 have sU := List.all_eq_true.mp someU (n / 64).toNat (List.mem_range.mpr (by omega))
 rw [show (((n / 64).toNat : Nat) : Int) = n / 64 by omega] at sU
 have eU := enc_fwd goU goodU sU h1 (by omega)
 unfold qt
 rw [eU]
 simp only
 by_cases c0 : c = 0
 ·simp only [if_pos c0] at h2 ⊢
  have sC := List.all_eq_true.mp someC0 (n % 64).toNat (List.mem_range.mpr (by omega))
  rw [show (((n % 64).toNat : Nat) : Int) = n % 64 by omega] at sC
  rw [enc_fwd goC0 goodC0 sC h2 hq]
  simp only
  rw [if_neg (by omega)]
  congr 2
  omega
 ·simp only [if_neg c0] at h2 ⊢
  have sC := List.all_eq_true.mp someC1 (n % 64).toNat (List.mem_range.mpr (by omega))
  rw [show (((n % 64).toNat : Nat) : Int) = n % 64 by omega] at sC
  rw [enc_fwd goC1 goodC1 sC h2 hq]
  simp only
  rw [if_neg (by omega)]
  congr 2
  omega
theorem rep06 : (List.range 201).all (fun n => decide (vq.f 20 [0] (n : Int) = some (List.replicate n 0)) && decide (vq.f 20 [1] (n : Int) = some (List.replicate n 1))) = true := by decide +kernel
theorem rep_is {v n : Int} (h0 : 0 ≤ n) (h1 : n ≤ 200) (hv : v = 0 ∨ v = 1) : vJ (fun k => vq.f k [v] n) (· = List.replicate n.toNat v) := by
 have g := List.all_eq_true.mp rep06 n.toNat (List.mem_range.mpr (by omega))
 rw [Bool.and_eq_true, decide_eq_true_iff, decide_eq_true_iff, show ((n.toNat : Nat) : Int) = n by omega] at g
 rcases hv with rfl | rfl
 ·exact vJ.of (vq.mono _ _) g.1
 ·exact vJ.of (vq.mono _ _) g.2
def jn (out : List Int) (x c : Int) : List Int := out ++ List.replicate (x - (out.length : Int)).toNat c
theorem grow06_len {out : List Int} {x c : Int} (h : (out.length : Int) ≤ x) : ((jn out x c).length : Int) = x := by
 unfold jn
 simp
 omega
theorem qJ {out : List Int} {x c : Int} (h : (out.length : Int) ≤ x) (hx : x ≤ 200) (hc : c = 0 ∨ c = 1) : vJ (fun k => xE.f k out x c) (· = jn out x c) := by
 unfold xE.f
 rw [show c % 256 = c by omega, zx (x := x - (out.length : Int)) (by omega) (by omega)]
 refine vJ.bind (rep_is (by omega) (by omega) hc) ?_
 rintro _ rfl
 exact vJ.pos (by simp; omega) (vJ.ret rfl)
def wcs : List (List Int) := [[0, 0, 0, 1], [0, 0, 1], [0, 0, 0, 0, 0, 1, 0], [0, 0, 0, 0, 1, 0], [0, 1, 0], [1], [0, 1, 1], [0, 0, 0, 0, 1, 1], [0, 0, 0, 0, 0, 1, 1]]
theorem goW : (List.range 9).all (fun (i : Nat) => match trW.go (wcs.getD i []) with | some (j, []) => j == i | _ => false) = true := by decide +kernel
theorem Vb {l : List Int} {i : Nat} (hi : i < 9) {p q : Int} (h : Are l p q (wcs.getD i [])) (hq : q ≤ en l) : trW.run l p = ((i : Int), 0, q) := by
 have g := List.all_eq_true.mp goW i (List.mem_range.mpr hi)
 cases hc : trW.go (wcs.getD i []) with
 | none => rw [hc] at g; simp at g
 | some x =>
  obtain ⟨j, r⟩ := x
  rw [hc] at g
  cases r with
  | nil =>
   simp only [beq_iff_eq] at g
   have := run_go trW _ p q j [] h hq hc
   rw [this, g]
   simp
  | cons a b => simp at g
theorem modeW {l : List Int} (hl : zm l) {p : Int} (p0 : 0 ≤ p) (p1 : p ≤ en l) {i q : Int} (h : trW.run l p = (i, 0, q)) : vJ (fun k => vR.f k l p true tW) (· = (i, 0, q, true)) := by
 have := word_run hl tW trW ⟨#[]⟩ p wokW p0 p1
 rw [h] at this
 exact this
section
variable {l : List Int} (hl : zm l) {w : Int} (w1 : w ≤ 200) {ab : List Int} {p q a col b b2 : Int} {out : List Int} (p0 : 0 ≤ p) (p1 : p ≤ en l) (hc : col = 0 ∨ col = 1) (hm : vJ (fun k => wO.f k ab a col) (· = (b, b2)))
include hl w1 p0 p1 hc hm
theorem modePass (h : trW.run l p = (0, 0, q)) (ho : (out.length : Int) ≤ b2) (hb : b2 < w) : vJ (fun k => xN.f k l p true w a col ab out) (· = (0, q, true, b2, col, jn out b2 col)) := by
 unfold xN.f
 refine vJ.bind (modeW hl p0 p1 h) ?_
 rintro _ rfl
 refine vJ.pos rfl ?_
 rw [show col % 256 = col by omega]
 refine vJ.bind hm ?_
 rintro _ rfl
 refine vJ.neg (by omega) (vJ.pos rfl (vJ.neg (by show ¬ b2 = w; omega) ?_))
 refine vJ.bind (qJ ho (by omega) hc) ?_
 rintro _ rfl
 exact vJ.ret rfl
theorem modeUp {d : Int} (d0 : -3 ≤ d) (d1 : d ≤ 3) (h : trW.run l p = (d + 5, 0, q)) (ho : (out.length : Int) ≤ b + d) (h0 : -300 ≤ b) (h1 : b ≤ 300) (ha : a < b + d) (hb : b + d ≤ w) : vJ (fun k => xN.f k l p true w a col ab out) (· = (0, q, true, b + d, 1 - col, jn out (b + d) col)) := by
 unfold xN.f
 refine vJ.bind (modeW hl p0 p1 h) ?_
 rintro _ rfl
 refine vJ.pos rfl ?_
 rw [show col % 256 = col by omega]
 refine vJ.bind hm ?_
 rintro _ rfl
 dsimp only
 rw [zx (x := b + (d + 5)) (by omega) (by omega), zx (x := b + (d + 5) - 5) (by omega) (by omega), zx (x := 1 - col) (by omega) (by omega), show b + (d + 5) - 5 = b + d by omega]
 refine vJ.neg (by omega) (vJ.neg (by omega) (vJ.neg (by omega) (vJ.neg (by omega) ?_)))
 refine vJ.bind (qJ ho (by omega) hc) ?_
 rintro _ rfl
 exact vJ.ret rfl
theorem modeFlat {q1 q2 n m : Int} (h : trW.run l p = (1, 0, q1)) (hq1 : 0 ≤ q1) (hq1' : q1 ≤ en l) (hr1 : qt l q1 col = .ok (n, q2)) (hr2 : qt l q2 (1 - col) = .ok (m, q)) (b1 : ¬ (n = 0 ∧ a ≥ 0)) (b2' : (out.length : Int) + n + m ≤ w) (d2 : (m = 0 ∧ (out.length : Int) + n = w) ∨ (m ≠ 0 ∧ (out.length : Int) + n ≠ w)) : vJ (fun k => xN.f k l p true w a col ab out) (· = (0, q, true, (out.length : Int) + n + m, col, jn (jn out ((out.length : Int) + n) col) ((out.length : Int) + n + m) (1 - col))) := by
 obtain ⟨n0, n1, x0, x1⟩ := run06_ok hl hq1 hq1' hr1
 obtain ⟨m0, m1, y0, y1⟩ := run06_ok hl (show 0 ≤ q2 by simp only at x0; omega) x1 hr2
 simp only at n0 n1 x0 x1 m0 m1 y0 y1
 have hP1 := run_is hl hc hq1 hq1'
 rw [hr1] at hP1
 have hP2 := run_is hl (show 1 - col = 0 ∨ 1 - col = 1 by omega) (show 0 ≤ q2 by omega) x1
 rw [hr2] at hP2
 have g1 : ((jn out ((out.length : Int) + n) col).length : Int) = (out.length : Int) + n := grow06_len (by omega)
 unfold xN.f
 refine vJ.bind (modeW hl p0 p1 h) ?_
 rintro _ rfl
 refine vJ.pos rfl ?_
 rw [show col % 256 = col by omega]
 refine vJ.bind hm ?_
 rintro _ rfl
 refine vJ.pos rfl ?_
 refine vJ.bind (Q := (· = (0, q, true, (out.length : Int) + n + m, jn (jn out ((out.length : Int) + n) col) ((out.length : Int) + n + m) (1 - col)))) ?_ (by rintro _ rfl; exact vJ.ret rfl)
 unfold zw.f
 refine vJ.bind hP1 ?_
 intro r hr
 have hr : r = (n, 0, q2, true) := hr
 subst hr
 refine vJ.pos rfl ?_
 dsimp only
 rw [zx (x := (out.length : Int) + n) (by omega) (by omega), zx (x := 1 - col) (by omega) (by omega)]
 refine vJ.neg b1 (vJ.neg (by omega) ?_)
 refine vJ.bind hP2 ?_
 intro r hr
 have hr : r = (m, 0, q, true) := hr
 subst hr
 refine vJ.pos rfl ?_
 dsimp only
 rw [zx (x := w - ((out.length : Int) + n)) (by omega) (by omega), zx (x := (out.length : Int) + n + m) (by omega) (by omega)]
 refine vJ.neg (by omega) (vJ.pos d2 ?_)
 refine vJ.bind (qJ (by omega) (by omega) hc) ?_
 rintro _ rfl
 refine vJ.bind (qJ (by omega) (by omega) (show 1 - col = 0 ∨ 1 - col = 1 by omega)) ?_
 rintro _ rfl
 exact vJ.ret rfl
end
def Px (l : List Int) : Prop := (l.length : Int) ≤ 200 ∧ ∀ y ∈ l, y = 0 ∨ y = 1
theorem Px.at {l : List Int} (h : Px l) {i : Int} (i0 : 0 ≤ i) (i1 : i < (l.length : Int)) : rd l i = 0 ∨ rd l i = 1 := h.2 _ (kA i0 i1)
theorem vJ.det {α : Type} {g : Nat → Option α} {a b : α} (h : vJ g (· = a)) (k : vJ g (· = b)) : a = b := by
 obtain ⟨r, ⟨K, h⟩, rfl⟩ := h
 obtain ⟨s, ⟨L, k⟩, rfl⟩ := k
 exact Option.some.inj ((h (max K L) (by omega)).symm.trans (k (max K L) (by omega)))
theorem chg_l0 {l : List Int} (h : Px l) (c : Int) : ∀ (n : Nat) (x : Int), 0 ≤ x → x ≤ l.length → (l.length : Int) - x = n → ∃ b : Int, x ≤ b ∧ b ≤ l.length ∧ (∀ j, x ≤ j → j < b → rd l j ≠ c) ∧ (b < l.length → rd l b = c) ∧ vJ (fun k => wa.l0 k l c x) (· = b) := by
 have hl := h.1
 have mnx : ∀ x : Int, x ≤ (l.length : Int) → mn x (l.length : Int) = x := fun x hx => by
  unfold mn
  split <;> omega
 intro n
 induction n with
 | zero =>
  intro x x0 x1 hn
  refine ⟨x, by omega, x1, fun j _ _ => by omega, fun _ => by omega, ?_⟩
  exact vJ.step (fun k => by rw [wa.l0]) (vJ.neg (by omega) (vJ.ret (mnx x x1)))
 | succ n ih =>
  intro x x0 x1 hn
  have hx : x < (l.length : Int) := by omega
  by_cases e : rd l x = c
  ·refine ⟨x, by omega, x1, fun j _ _ => by omega, fun _ => e, ?_⟩
   exact vJ.step (fun k => by rw [wa.l0]) (vJ.pos hx (vJ.pos x0 (vJ.pos e (vJ.ret (mnx x x1)))))
  ·obtain ⟨b, h1, h2, h3, h4, h5⟩ := ih (x + 1) (by omega) (by omega) (by omega)
   refine ⟨b, by omega, h2, fun j j0 j1 => ?_, h4, ?_⟩
   ·by_cases z : j = x
    ·subst z; exact e
    ·exact h3 j (by omega) j1
   ·refine vJ.step (fun k => by rw [wa.l0]) (vJ.pos hx (vJ.pos x0 (vJ.neg e ?_)))
    rw [zx (x := x + 1) (by omega) (by omega)]
    exact h5
theorem chg_is {l : List Int} (h : Px l) (c a : Int) (a0 : -1 ≤ a) (a1 : a ≤ l.length) : ∃ b : Int, (a < b ∨ b = l.length) ∧ b ≤ l.length ∧ (∀ j, a < j → j < b → rd l j ≠ c) ∧ (b < l.length → rd l b = c) ∧ vJ (fun k => wa.f k l a c) (· = b) := by
 have hl := h.1
 unfold wa.f
 rw [zx (x := a + 1) (by omega) (by omega)]
 by_cases z : a = l.length
 ·refine ⟨l.length, .inr rfl, Int.le_refl _, fun j _ _ => by omega, fun _ => by omega, ?_⟩
  refine vJ.step (fun k => by rw [wa.l0]) (vJ.neg (by omega) (vJ.ret ?_))
  unfold mn
  split <;> omega
 ·obtain ⟨b, h1, h2, h3, h4, h5⟩ := chg_l0 h c (l.length - (a + 1)).toNat (a + 1) (by omega) (by omega) (by omega)
  exact ⟨b, .inl (by omega), h2, fun j j0 j1 => h3 j (by omega) j1, h4, h5⟩
def At06 (row : List Int) (a c : Int) : Prop := -1 ≤ a ∧ a ≤ row.length ∧ (c = 0 ∨ c = 1) ∧ (0 ≤ a → a < row.length → rd row a = c)
theorem rd_take (l : List Int) (n : Nat) (i : Int) (i0 : 0 ≤ i) (i1 : i < n) : rd (l.take n) i = rd l i := by
 have : i.toNat < n := by omega
 simp [rd, List.getD, List.getElem?_take, this]
theorem kf {row : List Int} {a c x : Int} (m0 : 0 ≤ a) (hx : a ≤ x) (x1 : x ≤ row.length) (h : ∀ j, a ≤ j → j < x → rd row j = c) : jn (row.take a.toNat) x c = row.take x.toNat := by
 unfold jn
 have hl : (row.take a.toNat).length = a.toNat := by rw [List.length_take]; omega
 apply rd_ext
 ·rw [List.length_append, List.length_replicate, hl, List.length_take]; omega
 ·intro i i0 i1
  rw [List.length_append, List.length_replicate, hl] at i1
  rw [Va _ _ i i0, hl, rd_take row x.toNat i i0 (by omega)]
  split
  ·exact rd_take row _ i i0 (by omega)
  ·rw [jO _ _ _ (by omega) (by omega), h i (by omega) (by omega)]
theorem take_len {row : List Int} {a : Int} (a0 : 0 ≤ a) (a1 : a ≤ row.length) : ((row.take a.toNat).length : Int) = a := by rw [List.length_take]; omega
def kX (n c : Int) : List Int := (wo.f 201 n c).getD []
theorem rbT_good : (List.range 201).all (fun n => decide (wo.f 201 (n : Int) 0 = some (kX n 0) ∧ (kX n 0).length ≤ 64) && decide (wo.f 201 (n : Int) 1 = some (kX n 1) ∧ (kX n 1).length ≤ 64)) = true := by decide +kernel
theorem jW {n c : Int} (n0 : 0 ≤ n) (n1 : n ≤ 200) (hc : c = 0 ∨ c = 1) : wo.f 201 n c = some (kX n c) ∧ (kX n c).length ≤ 64 := by
 have g := List.all_eq_true.mp rbT_good n.toNat (List.mem_range.mpr (by omega))
 rw [Bool.and_eq_true, decide_eq_true_iff, decide_eq_true_iff, show ((n.toNat : Nat) : Int) = n by omega] at g
 rcases hc with rfl | rfl
 ·exact g.1
 ·exact g.2
theorem jF {n c : Int} (n0 : 0 ≤ n) (n1 : n ≤ 200) (hc : c = 0 ∨ c = 1) : vJ (fun k => wo.f k n c) (· = kX n c) := vJ.of (fun k => wo.mono _ _ k) (jW n0 n1 hc).1
theorem at_is {l : List Int} (h : Px l) {i : Int} (i0 : 0 ≤ i) (i1 : i < (l.length : Int)) : xo.f l i = some (rd l i) := by
 have := h.at i0 i1
 unfold xo.f
 rw [if_neg (by omega), if_pos i0, if_pos i1, zx (by omega) (by omega)]
theorem first_pair {l : List Int} (h : Px l) (c : Int) : ∀ (n : Nat) (x : Int), 0 ≤ x → (l.length : Int) + 1 - x = n → ∃ b : Int, (x ≤ b ∨ b = l.length) ∧ b ≤ l.length ∧ vJ (fun k => wa.l0 k l c x) (· = b) ∧ vJ (fun k => vF.l0 k l c x) (· = b) := by
 have hl := h.1
 have fin : ∀ x : Int, 0 ≤ x → ¬ x < (l.length : Int) → ∃ b : Int, (x ≤ b ∨ b = l.length) ∧ b ≤ l.length ∧ vJ (fun k => wa.l0 k l c x) (· = b) ∧ vJ (fun k => vF.l0 k l c x) (· = b) := fun x x0 hx => by
  refine ⟨l.length, .inr rfl, Int.le_refl _, ?_, ?_⟩
  ·refine vJ.step (fun k => by rw [wa.l0]) (vJ.neg hx (vJ.ret ?_))
   unfold mn
   split <;> omega
  ·exact vJ.step (fun k => by rw [vF.l0]) (vJ.neg hx (vJ.ret rfl))
 intro n
 induction n with
 | zero => exact fun x x0 hn => fin x x0 (by omega)
 | succ n ih =>
  intro x x0 hn
  by_cases hx : x < (l.length : Int)
  ·by_cases e : rd l x = c
   ·refine ⟨x, .inl (Int.le_refl _), by omega, ?_, ?_⟩
    ·refine vJ.step (fun k => by rw [wa.l0]) (vJ.pos hx (vJ.pos x0 (vJ.pos e (vJ.ret ?_))))
     unfold mn
     split <;> omega
    ·refine vJ.step (fun k => by rw [vF.l0]) (vJ.pos hx (vJ.zL (at_is h x0 hx) ?_))
     exact vJ.pos e (vJ.ret rfl)
   ·obtain ⟨b, h1, h2, h3, h4⟩ := ih (x + 1) (by omega) (by omega)
    refine ⟨b, by omega, h2, ?_, ?_⟩
    ·refine vJ.step (fun k => by rw [wa.l0]) (vJ.pos hx (vJ.pos x0 (vJ.neg e ?_)))
     rw [zx (x := x + 1) (by omega) (by omega)]
     exact h3
    ·refine vJ.step (fun k => by rw [vF.l0]) (vJ.pos hx (vJ.zL (at_is h x0 hx) (vJ.neg e ?_)))
     rw [zx (x := x + 1) (by omega) (by omega)]
     exact h4
  ·exact fin x x0 hx
theorem jt {l : List Int} (h : Px l) (c a : Int) (a0 : -1 ≤ a) (a1 : a ≤ l.length) : ∃ b : Int, (a < b ∨ b = l.length) ∧ b ≤ l.length ∧ vJ (fun k => wa.f k l a c) (· = b) ∧ vJ (fun k => vF.f k l a c) (· = b) := by
 have hl := h.1
 obtain ⟨b, h1, h2, h3, h4⟩ := first_pair h c (l.length + 1 - (a + 1)).toNat (a + 1) (by omega) (by omega)
 refine ⟨b, by omega, h2, ?_, ?_⟩
 ·unfold wa.f
  rw [zx (x := a + 1) (by omega) (by omega)]
  exact h3
 ·unfold vF.f
  rw [zx (x := a + 1) (by omega) (by omega)]
  exact h4
theorem marks_pair {l : List Int} (h : Px l) (c : Int) : ∀ (n : Nat) (x : Int), 0 ≤ x → x ≤ l.length → (l.length : Int) - x = n → ∃ b b2 : Int, x ≤ b ∧ b ≤ l.length ∧ (b < b2 ∨ b2 = l.length) ∧ b2 ≤ l.length ∧
  vJ (fun k => wO.l0 k l c x) (· = (b, b2)) ∧ vJ (fun k => vP.l0 k l c x) (· = b) ∧ vJ (fun k => vF.f k l b c) (· = b2) := by
 have hl := h.1
 have mnx : ∀ x : Int, x ≤ (l.length : Int) → mn x (l.length : Int) = x := fun x hx => by
  unfold mn
  split <;> omega
 intro n
 induction n with
 | zero =>
  intro x x0 x1 hn
  obtain ⟨b2, h1, h2, h3, h4⟩ := jt h c x (by omega) x1
  refine ⟨x, b2, Int.le_refl _, x1, h1, h2, ?_, ?_, h4⟩
  ·refine vJ.step (fun k => by rw [wO.l0]) (vJ.neg (by omega) ?_)
   rw [mnx x x1]
   refine vJ.bind h3 ?_
   rintro _ rfl
   exact vJ.ret rfl
  ·refine vJ.step (fun k => by rw [vP.l0]) (vJ.neg (by omega) (vJ.ret ?_))
   show (l.length : Int) = x
   omega
 | succ n ih =>
  intro x x0 x1 hn
  have hx : x < (l.length : Int) := by omega
  have stop : rd l x ≠ c → (if x > 0 then rd l (x - 1) else 0) = c → ∃ b b2 : Int, x ≤ b ∧ b ≤ l.length ∧ (b < b2 ∨ b2 = l.length) ∧ b2 ≤ l.length ∧
    vJ (fun k => wO.l0 k l c x) (· = (b, b2)) ∧ vJ (fun k => vP.l0 k l c x) (· = b) ∧ vJ (fun k => vF.f k l b c) (· = b2) := fun e1 e2 => by
   obtain ⟨b2, h1, h2, h3, h4⟩ := jt h c x (by omega) x1
   refine ⟨x, b2, Int.le_refl _, x1, h1, h2, ?_, ?_, h4⟩
   ·refine vJ.step (fun k => by rw [wO.l0]) (vJ.pos hx ?_)
    have last : vJ (fun k => (wa.f k l (mn x (l.length : Int)) c).bind fun t => some (mn x (l.length : Int), t)) (· = (x, b2)) := by
     rw [mnx x x1]
     refine vJ.bind h3 ?_
     rintro _ rfl
     exact vJ.ret rfl
    refine vJ.ite (fun xp => ?_) (fun xn => ?_)
    ·rw [if_pos xp] at e2
     rw [zx (x := x - 1) (by omega) (by omega)]
     exact vJ.pos (by omega) (vJ.pos (by omega) (vJ.pos x0 (vJ.neg e1 (vJ.pos e2 last))))
    ·rw [if_neg xn] at e2
     exact vJ.pos x0 (vJ.neg e1 (vJ.pos e2 last))
   ·refine vJ.step (fun k => by rw [vP.l0]) (vJ.pos hx (vJ.zL (at_is h x0 hx) (vJ.neg e1 ?_)))
    rw [zx (x := x - 1) (by omega) (by omega)]
    by_cases xp : x > 0
    ·rw [if_pos xp] at e2
     refine vJ.zL (at_is h (by omega) (by omega)) ?_
     exact vJ.pos e2 (vJ.ret rfl)
    ·rw [if_neg xp] at e2
     refine vJ.zL (a := 0) ?_ ?_
     ·unfold xo.f
      rw [if_pos (by omega)]
     ·exact vJ.pos e2 (vJ.ret rfl)
  have on : (rd l x = c ∨ (if x > 0 then rd l (x - 1) else 0) ≠ c) → ∃ b b2 : Int, x ≤ b ∧ b ≤ l.length ∧ (b < b2 ∨ b2 = l.length) ∧ b2 ≤ l.length ∧
    vJ (fun k => wO.l0 k l c x) (· = (b, b2)) ∧ vJ (fun k => vP.l0 k l c x) (· = b) ∧ vJ (fun k => vF.f k l b c) (· = b2) := fun e => by
   obtain ⟨b, b2, g1, g2, g3, g4, g5, g6, g7⟩ := ih (x + 1) (by omega) (by omega) (by omega)
   refine ⟨b, b2, by omega, g2, g3, g4, ?_, ?_, g7⟩
   ·refine vJ.step (fun k => by rw [wO.l0]) (vJ.pos hx ?_)
    rw [zx (x := x + 1) (by omega) (by omega)]
    refine vJ.ite (fun xp => ?_) (fun xn => ?_)
    ·rw [if_pos xp] at e
     rw [zx (x := x - 1) (by omega) (by omega)]
     exact vJ.pos (by omega) (vJ.pos (by omega) (vJ.pos x0 (vJ.ite (fun _ => g5) (fun e1 => vJ.neg (e.resolve_left e1) g5))))
    ·rw [if_neg xn] at e
     exact vJ.pos x0 (vJ.ite (fun _ => g5) (fun e1 => vJ.neg (e.resolve_left e1) g5))
   ·refine vJ.step (fun k => by rw [vP.l0]) (vJ.pos hx (vJ.zL (at_is h x0 hx) ?_))
    rw [zx (x := x + 1) (by omega) (by omega), zx (x := x - 1) (by omega) (by omega)]
    refine vJ.ite (fun _ => g6) (fun e1 => ?_)
    have e2 := e.resolve_left e1
    by_cases xp : x > 0
    ·rw [if_pos xp] at e2
     exact vJ.zL (at_is h (by omega) (by omega)) (vJ.neg e2 g6)
    ·rw [if_neg xp] at e2
     refine vJ.zL (a := 0) ?_ (vJ.neg e2 g6)
     unfold xo.f
     rw [if_pos (by omega)]
  by_cases e1 : rd l x = c
  ·exact on (.inl e1)
  ·by_cases e2 : (if x > 0 then rd l (x - 1) else 0) = c
   ·exact stop e1 e2
   ·exact on (.inr e2)
theorem marks_is {l : List Int} (h : Px l) (c a : Int) (a0 : -1 ≤ a) (a1 : a < l.length) : ∃ b b2 : Int, a < b ∧ b ≤ l.length ∧ (b < b2 ∨ b2 = l.length) ∧ b2 ≤ l.length ∧
  vJ (fun k => wO.f k l a c) (· = (b, b2)) ∧ vJ (fun k => vP.f k l a c) (· = b) ∧ vJ (fun k => vF.f k l b c) (· = b2) := by
 have hl := h.1
 obtain ⟨b, b2, g1, g2, g3, g4, g5, g6, g7⟩ := marks_pair h c (l.length - (a + 1)).toNat (a + 1) (by omega) (by omega) (by omega)
 refine ⟨b, b2, by omega, g2, g3, g4, ?_, ?_, g7⟩
 ·unfold wO.f
  rw [zx (x := a + 1) (by omega) (by omega)]
  exact g5
 ·unfold vP.f
  rw [zx (x := a + 1) (by omega) (by omega)]
  exact g6
theorem bits_pass : vJ (fun k => vC.f k (⟨#[48, 48, 48, 49]⟩ : ByteArray)) (· = [0, 0, 0, 1]) := vJ.of (fun k => vC.mono _ k) (show vC.f 20 (⟨#[48, 48, 48, 49]⟩ : ByteArray) = some [0, 0, 0, 1] by decide +kernel)
theorem bits_flat : vJ (fun k => vC.f k (⟨#[48, 48, 49]⟩ : ByteArray)) (· = [0, 0, 1]) := vJ.of (fun k => vC.mono _ k) (show vC.f 20 (⟨#[48, 48, 49]⟩ : ByteArray) = some [0, 0, 1] by decide +kernel)
def upB (d : Int) : List Int := ((xR.f d).bind fun s => vC.f 20 s).getD []
theorem upB_good : (List.range 7).all (fun n => decide (((xR.f ((n : Int) - 3)).bind fun s => vC.f 20 s) = some (upB ((n : Int) - 3)) ∧ (upB ((n : Int) - 3)).length ≤ 64)) = true := by decide +kernel
theorem upB_is {d : Int} (d0 : -3 ≤ d) (d1 : d ≤ 3) : ((xR.f d).bind fun s => vC.f 20 s) = some (upB d) ∧ (upB d).length ≤ 64 := by
 have g := List.all_eq_true.mp upB_good (d + 3).toNat (List.mem_range.mpr (by omega))
 rw [decide_eq_true_iff, show (((d + 3).toNat : Nat) : Int) - 3 = d by omega] at g
 exact g
inductive ju {α β : Type} (R : α → β → Prop) : List α → List β → Prop
 | nil : ju R [] []
 | cons {a : α} {b : β} {l : List α} {m : List β} (h : R a b) (t : ju R l m) : ju R (a :: l) (b :: m)
theorem qr : (List.range 201).all (fun n => decide (wZ.f 201 (n : Int) 0 = some (kX n 0)) && decide (wZ.f 201 (n : Int) 1 = some (kX n 1)) && (kX n 0).all (fun b => b == 0 || b == 1) && (kX n 1).all (fun b => b == 0 || b == 1)) = true := by decide +kernel
theorem qj {n c : Int} (n0 : 0 ≤ n) (n1 : n ≤ 200) (hc : c = 0 ∨ c = 1) : vJ (fun k => wZ.f k n c) (· = kX n c) := by
 have g := List.all_eq_true.mp qr n.toNat (List.mem_range.mpr (by omega))
 simp only [Bool.and_eq_true, decide_eq_true_iff, show ((n.toNat : Nat) : Int) = n by omega] at g
 rcases hc with rfl | rfl
 ·exact vJ.of (fun k => wZ.mono _ _ k) g.1.1.1
 ·exact vJ.of (fun k => wZ.mono _ _ k) g.1.1.2
theorem rbT_01 {n c : Int} (n0 : 0 ≤ n) (n1 : n ≤ 200) (hc : c = 0 ∨ c = 1) : ∀ b ∈ kX n c, b = 0 ∨ b = 1 := by
 have g := List.all_eq_true.mp qr n.toNat (List.mem_range.mpr (by omega))
 simp only [Bool.and_eq_true, show ((n.toNat : Nat) : Int) = n by omega] at g
 intro b hb
 rcases hc with rfl | rfl
 ·simpa using List.all_eq_true.mp g.1.2 b hb
 ·simpa using List.all_eq_true.mp g.2 b hb
theorem list_flat : xB.f 20 (⟨#[48, 48, 49]⟩ : ByteArray) = some [0, 0, 1] := by decide +kernel
theorem Vh : ww.f 20 (⟨#[112, 97, 115, 115]⟩ : ByteArray) 0 0 0 0 = some [0, 0, 0, 1] := by decide +kernel
theorem mbits_up_good : (List.range 7).all (fun n => decide (ww.f 20 (⟨#[117, 112]⟩ : ByteArray) ((n : Int) - 3) 0 0 0 = some (upB ((n : Int) - 3))) && (upB ((n : Int) - 3)).all (fun b => b == 0 || b == 1)) = true := by decide +kernel
theorem mbits_up {d : Int} (d0 : -3 ≤ d) (d1 : d ≤ 3) : ww.f 20 (⟨#[117, 112]⟩ : ByteArray) d 0 0 0 = some (upB d) ∧ ∀ b ∈ upB d, b = 0 ∨ b = 1 := by
 have g := List.all_eq_true.mp mbits_up_good (d + 3).toNat (List.mem_range.mpr (by omega))
 rw [Bool.and_eq_true, decide_eq_true_iff, show (((d + 3).toNat : Nat) : Int) - 3 = d by omega] at g
 exact ⟨g.1, fun b hb => by simpa using List.all_eq_true.mp g.2 b hb⟩
theorem Vc {n m c : Int} (n0 : 0 ≤ n) (n1 : n ≤ 200) (m0 : 0 ≤ m) (m1 : m ≤ 200) (hc : c = 0 ∨ c = 1) :
  vJ (fun k => ww.f k (⟨#[102, 108, 97, 116]⟩ : ByteArray) 0 n m c) (· = ([0, 0, 1] ++ kX n c) ++ kX m (1 - c)) := by
 unfold ww.f
 refine vJ.neg (by decide +kernel) (vJ.neg (by decide +kernel) ?_)
 refine vJ.bind (vJ.of (fun k => xB.mono _ k) list_flat) ?_
 rintro _ rfl
 refine vJ.bind (qj n0 n1 hc) ?_
 rintro _ rfl
 have g1 := (jW n0 n1 hc).2
 have g2 := (jW (c := 1 - c) m0 m1 (by omega)).2
 refine vJ.pos (by simp; omega) (vJ.zL rfl ?_)
 rw [zx (x := 1 - c) (by omega) (by omega)]
 refine vJ.bind (qj m0 m1 (by omega)) ?_
 rintro _ rfl
 refine vJ.pos (by simp; omega) (vJ.ret rfl)
def MB (m1 : zq) (m2 : jw) : Prop := vJ (fun k => ww.f k m1.f0 m1.f1 m1.f2.f0 m1.f2.f1 m1.f3) (· = m2.f1) ∧ m2.f1.length ≤ 200 ∧ ∀ b ∈ m2.f1, b = 0 ∨ b = 1
theorem modesB {above row : List Int} (ha : Px above) (hr : Px row) (he : above.length = row.length) : ∀ (n : Nat) (a c : Int) (o1 : List zq) (o2 : List jw), -1 ≤ a → a ≤ row.length → (c = 0 ∨ c = 1) → (row.length : Int) - a ≤ n → o1.length + n ≤ 500 → o2.length + n ≤ 500 →
  ∃ (d1 : List zq) (d2 : List jw), d1.length ≤ n ∧ vJ (fun k => vL.l0 k above row o1 a c row.length) (· = o1 ++ d1) ∧ vJ (fun k => vN.l0 k above row o2 a c) (· = o2 ++ d2) ∧ ju MB d1 d2 := by
 have hl := hr.1
 intro n
 have fin : ∀ (n : Nat) (a c : Int) (o1 : List zq) (o2 : List jw), (¬ a < (row.length : Int) ∨ ¬ (row.length : Int) > 0) → ∃ (d1 : List zq) (d2 : List jw), d1.length ≤ n ∧ vJ (fun k => vL.l0 k above row o1 a c row.length) (· = o1 ++ d1) ∧ vJ (fun k => vN.l0 k above row o2 a c) (· = o2 ++ d2) ∧ ju MB d1 d2 := fun n a c o1 o2 h => by
  refine ⟨[], [], Nat.zero_le _, ?_, ?_, .nil⟩
  ·rw [List.append_nil]
   have no : vJ (fun k => vL.j1 k above row o1 a c row.length false) (· = o1) := vJ.step (fun k => by rw [vL.j1]) (vJ.neg (by decide) (vJ.ret rfl))
   refine vJ.step (fun k => by rw [vL.l0]) (vJ.ite (fun z => ?_) (fun _ => no))
   rw [decide_eq_false (h.resolve_left (fun y => y z))]
   exact no
  ·rw [List.append_nil]
   refine vJ.step (fun k => by rw [vN.l0]) (vJ.ite (fun z => vJ.neg (h.resolve_right (fun y => y z)) (vJ.ret rfl)) (fun _ => vJ.ret rfl))
 induction n with
 | zero => exact fun a c o1 o2 a0 a1 hc hn _ _ => fin _ a c o1 o2 (by omega)
 | succ n ih =>
  intro a c o1 o2 a0 a1 hc hn n1 n2
  by_cases h : a < (row.length : Int) ∧ (row.length : Int) > 0
  ·obtain ⟨b, b2, g1, g2, g3, g4, g5, g6, g7⟩ := marks_is ha c a a0 (by omega)
   rw [he] at g2 g3 g4
   obtain ⟨x, x1, x2, x3, x4⟩ := jt hr (1 - c) a a0 (by omega)
   have ex : a < x := by omega
   have e256 : (1 - c) % 256 = 1 - c := by omega
   have c64 : wrap64 (1 - c) = 1 - c := zx (by omega) (by omega)
   have cc : wrap64 c = c := zx (by omega) (by omega)
   have d64 : wrap64 (x - b) = x - b := zx (by omega) (by omega)
   have round : ∀ (m1 : zq) (m2 : jw) (a' c' : Int), a < a' → a' ≤ row.length → (c' = 0 ∨ c' = 1) → MB m1 m2 →
     (∀ P : List zq → Prop, vJ (fun k => if o1.length < 2932031007402 then vL.l0 k above row (o1 ++ [m1]) a' c' row.length else none) P → vJ (fun k => vL.l0 k above row o1 a c row.length) P) →
     (∀ P : List jw → Prop, vJ (fun k => if o2.length < 2513169434916 then vN.l0 k above row (o2 ++ [m2]) a' c' else none) P → vJ (fun k => vN.l0 k above row o2 a c) P) →
     ∃ (d1 : List zq) (d2 : List jw), d1.length ≤ n + 1 ∧ vJ (fun k => vL.l0 k above row o1 a c row.length) (· = o1 ++ d1) ∧ vJ (fun k => vN.l0 k above row o2 a c) (· = o2 ++ d2) ∧ ju MB d1 d2 := by
    intro m1 m2 a' c' h1 h2 h3 h4 p1 p2
    obtain ⟨d1, d2, q1, q2, q3, q4⟩ := ih a' c' (o1 ++ [m1]) (o2 ++ [m2]) (by omega) h2 h3 (by omega) (by rw [List.length_append]; show o1.length + 1 + n ≤ 500; omega) (by rw [List.length_append]; show o2.length + 1 + n ≤ 500; omega)
    refine ⟨m1 :: d1, m2 :: d2, Nat.succ_le_succ q1, p1 _ (vJ.pos (by omega) ?_), p2 _ (vJ.pos (by omega) ?_), .cons h4 q4⟩
    ·rw [show o1 ++ m1 :: d1 = o1 ++ [m1] ++ d1 by simp]
     exact q2
    ·rw [show o2 ++ m2 :: d2 = o2 ++ [m2] ++ d2 by simp]
     exact q3
   have prog : ∀ (P : List zq → Prop), vJ (fun k => if b2 < x then (if o1.length < 2932031007402 then (vL.l0 k above row (o1 ++ [(⟨(⟨#[112, 97, 115, 115]⟩ : ByteArray), 0, (⟨0, 0⟩ : jy), 0⟩ : zq)]) b2 c row.length) else (none)) else (if x - b ≥ (-3) then (if x - b ≤ 3 then (if o1.length < 2932031007402 then (vL.l0 k above row (o1 ++ [(⟨(⟨#[117, 112]⟩ : ByteArray), x - b, (⟨0, 0⟩ : jy), 0⟩ : zq)]) x (1 - c) row.length) else (none)) else ((wa.f k row x c).bind fun t229 => (if o1.length < 2932031007402 then (vL.l0 k above row (o1 ++ [(⟨(⟨#[102, 108, 97, 116]⟩ : ByteArray), 0, (⟨wrap64 (x - (mx a 0)), wrap64 (t229 - x)⟩ : jy), wrap64 (c)⟩ : zq)]) t229 c row.length) else (none)))) else ((wa.f k row x c).bind fun t233 => (if o1.length < 2932031007402 then (vL.l0 k above row (o1 ++ [(⟨(⟨#[102, 108, 97, 116]⟩ : ByteArray), 0, (⟨wrap64 (x - (mx a 0)), wrap64 (t233 - x)⟩ : jy), wrap64 (c)⟩ : zq)]) t233 c row.length) else (none))))) P → vJ (fun k => vL.l0 k above row o1 a c row.length) P := by
    intro P hp
    refine vJ.step (fun k => by rw [vL.l0]) (vJ.pos h.1 ?_)
    refine vJ.step (fun k => by rw [vL.j1]) (vJ.pos (decide_eq_true h.2) ?_)
    refine vJ.bind g5 ?_
    rintro _ rfl
    rw [e256]
    refine vJ.bind x3 ?_
    rintro _ rfl
    rw [d64]
    exact hp
   have ref : ∀ (m : jw) (P : List jw → Prop), vJ (fun k => vQ.f k above row a c) (· = (m.f0, m.f1, m.f2, m.f3)) → vJ (fun k => if o2.length < 2513169434916 then vN.l0 k above row (o2 ++ [m]) m.f2 m.f3 else none) P → vJ (fun k => vN.l0 k above row o2 a c) P := by
    intro m P hm hp
    refine vJ.step (fun k => by rw [vN.l0]) (vJ.pos h.2 (vJ.pos h.1 ?_))
    refine vJ.bind hm ?_
    rintro _ rfl
    exact hp
   have choice : ∀ (P : ByteArray × List Int × Int × Int → Prop), vJ (fun k => if b2 < x then ((vC.f k (⟨#[48, 48, 48, 49]⟩ : ByteArray)).bind fun t358 => (some ((⟨#[112, 97, 115, 115]⟩ : ByteArray), t358, b2, c))) else (if x - b ≥ (-3) then (vQ.j0 k row a c x (x - b) (decide (x - b ≤ 3))) else (vQ.j0 k row a c x (x - b) false))) P → vJ (fun k => vQ.f k above row a c) P := by
    intro P hp
    unfold vQ.f
    refine vJ.bind g6 ?_
    rintro _ rfl
    refine vJ.bind g7 ?_
    rintro _ rfl
    rw [c64]
    refine vJ.bind x4 ?_
    rintro _ rfl
    rw [d64]
    exact hp
   by_cases k1 : b2 < x
   ·refine round (⟨(⟨#[112, 97, 115, 115]⟩ : ByteArray), 0, (⟨0, 0⟩ : jy), 0⟩ : zq) (⟨(⟨#[112, 97, 115, 115]⟩ : ByteArray), [0, 0, 0, 1], b2, c⟩ : jw) b2 c (by omega) g4 hc ⟨vJ.of (fun k => ww.mono _ _ _ _ _ k) Vh, show ([0, 0, 0, 1] : List Int).length ≤ 200 from by decide, show ∀ b ∈ ([0, 0, 0, 1] : List Int), b = 0 ∨ b = 1 from by decide⟩ (fun P hp => prog P (vJ.pos k1 hp)) (fun P hp => ref _ P ?_ hp)
    refine choice _ (vJ.pos k1 ?_)
    refine vJ.bind bits_pass ?_
    rintro _ rfl
    exact vJ.ret rfl
   ·by_cases k2 : x - b ≥ -3 ∧ x - b ≤ 3
    ·obtain ⟨u1, u2⟩ := mbits_up k2.1 k2.2
     obtain ⟨nm, hnm⟩ : ∃ s, yw.f (x - b) = some s := by
      unfold yw.f
      repeat' split
      all_goals exact ⟨_, rfl⟩
     refine round (⟨(⟨#[117, 112]⟩ : ByteArray), x - b, (⟨0, 0⟩ : jy), 0⟩ : zq) (⟨nm, upB (x - b), x, 1 - c⟩ : jw) x (1 - c) ex x2 (by omega) ⟨vJ.of (fun k => ww.mono _ _ _ _ _ k) u1, by have := (upB_is k2.1 k2.2).2; show (upB (x - b)).length ≤ 200; omega, u2⟩ (fun P hp => prog P (vJ.neg k1 (vJ.pos k2.1 (vJ.pos k2.2 hp)))) (fun P hp => ref _ P ?_ hp)
     refine choice _ (vJ.neg k1 (vJ.pos k2.1 ?_))
     rw [decide_eq_true k2.2]
     refine vJ.step (fun k => by rw [vQ.j0]) (vJ.pos rfl (vJ.zL hnm ?_))
     obtain ⟨s, hs, hb⟩ := Option.bind_eq_some_iff.mp (upB_is k2.1 k2.2).1
     refine vJ.zL hs ?_
     refine vJ.bind (vJ.of (fun k => vC.mono _ k) hb) ?_
     rintro _ rfl
     rw [c64]
     exact vJ.ret rfl
    ·obtain ⟨y, y1, y2, y3, y4⟩ := jt hr c x (by omega) x2
     have hm : mx a 0 = max a 0 := by unfold mx; omega
     have w1 : wrap64 (x - max a 0) = x - max a 0 := zx (by omega) (by omega)
     have w2 : wrap64 (y - x) = y - x := zx (by omega) (by omega)
     have l1 := (jW (n := x - max a 0) (c := c) (by omega) (by omega) hc).2
     have l2 := (jW (n := y - x) (c := 1 - c) (by omega) (by omega) (by omega)).2
     refine round (⟨(⟨#[102, 108, 97, 116]⟩ : ByteArray), 0, (⟨x - max a 0, y - x⟩ : jy), c⟩ : zq) (⟨(⟨#[102, 108, 97, 116]⟩ : ByteArray), ([0, 0, 1] ++ kX (x - max a 0) c) ++ kX (y - x) (1 - c), y, c⟩ : jw) y c (by omega) y2 hc ⟨Vc (n := x - max a 0) (m := y - x) (c := c) (by omega) (by omega) (by omega) (by omega) hc, ?_, ?_⟩ (fun P hp => prog P (vJ.neg k1 ?_)) (fun P hp => ref _ P ?_ hp)
     ·show (([0, 0, 1] ++ kX (x - max a 0) c) ++ kX (y - x) (1 - c)).length ≤ 200
      rw [List.length_append, List.length_append]
      show 3 + _ + _ ≤ 200
      omega
     ·intro z hz
      rcases List.mem_append.mp hz with hz | hz
      ·rcases List.mem_append.mp hz with hz | hz
       ·exact (show ∀ z ∈ ([0, 0, 1] : List Int), z = 0 ∨ z = 1 by decide) z hz
       ·exact rbT_01 (by omega) (by omega) hc z hz
      ·exact rbT_01 (by omega) (by omega) (by omega) z hz
     ·have go : vJ (fun k => (wa.f k row x c).bind fun t229 => (if o1.length < 2932031007402 then (vL.l0 k above row (o1 ++ [(⟨(⟨#[102, 108, 97, 116]⟩ : ByteArray), 0, (⟨wrap64 (x - (mx a 0)), wrap64 (t229 - x)⟩ : jy), wrap64 (c)⟩ : zq)]) t229 c row.length) else (none))) P := by
       refine vJ.bind y3 ?_
       rintro _ rfl
       rw [hm, w1, w2, cc]
       exact hp
      exact vJ.ite (fun z => vJ.neg (fun w => k2 ⟨z, w⟩) go) (fun _ => go)
     ·refine choice _ (vJ.neg k1 ?_)
      have go : vJ (fun k => vQ.j0 k row a c x (x - b) false) (· = ((⟨#[102, 108, 97, 116]⟩ : ByteArray), ([0, 0, 1] ++ kX (x - max a 0) c) ++ kX (y - x) (1 - c), y, c)) := by
       refine vJ.step (fun k => by rw [vQ.j0]) (vJ.neg (by decide) ?_)
       refine vJ.bind y4 ?_
       intro r_ hr_
       rw [show r_ = y from hr_]
       clear hr_
       refine vJ.bind bits_flat ?_
       rintro _ rfl
       rw [hm, w1, w2, c64]
       refine vJ.bind (jF (by omega) (by omega) hc) ?_
       rintro _ rfl
       refine vJ.pos (by simp; omega) (vJ.zL rfl ?_)
       refine vJ.bind (jF (by omega) (by omega) (by omega)) ?_
       rintro _ rfl
       exact vJ.pos (by simp; omega) (vJ.ret rfl)
      refine vJ.ite (fun z => ?_) (fun _ => go)
      rw [decide_eq_false (fun w => k2 ⟨z, w⟩)]
      exact go
  ·exact fin _ a c o1 o2 (by omega)
theorem modes_both {above row : List Int} (ha : Px above) (hr : Px row) (he : above.length = row.length) : ∃ (d1 : List zq) (d2 : List jw), d1.length ≤ 201 ∧ vJ (fun k => vL.f k above row) (· = d1) ∧ vJ (fun k => vN.f k above row) (· = d2) ∧ ju MB d1 d2 := by
 have := hr.1
 obtain ⟨d1, d2, q1, q2, q3, q4⟩ := modesB ha hr he 201 (-1) 0 [] [] (by omega) (by omega) (.inl rfl) (by omega) (by decide) (by decide)
 exact ⟨d1, d2, q1, by unfold vL.f; exact q2, by unfold vN.f; exact q3, q4⟩
theorem upW : (List.range 7).all (fun n => decide (upB ((n : Int) - 3) = wcs.getD (n + 2) [])) = true := by decide +kernel
theorem upW_is {d : Int} (d0 : -3 ≤ d) (d1 : d ≤ 3) : upB d = wcs.getD (d + 5).toNat [] := by
 have g := List.all_eq_true.mp upW (d + 3).toNat (List.mem_range.mpr (by omega))
 rw [decide_eq_true_iff, show (((d + 3).toNat : Nat) : Int) - 3 = d by omega, show (d + 3).toNat + 2 = (d + 5).toNat by omega] at g
 exact g
theorem rbP_rbT {n c : Int} (n0 : 0 ≤ n) (n1 : n ≤ 200) (hc : c = 0 ∨ c = 1) : rbP n c = kX n c := vJ.det (rbP_is n0 n1 hc).1 (qj n0 n1 hc)
def MBR (m : zq) (bs : List Int) : Prop := vJ (fun k => ww.f k m.f0 m.f1 m.f2.f0 m.f2.f1 m.f3) (· = bs) ∧ bs.length ≤ 200 ∧ ∀ b ∈ bs, b = 0 ∨ b = 1
def Rd06 (above row : List Int) (a c : Int) (bs : List Int) (a' c' : Int) : Prop := ∀ (l : List Int) (p q : Int), zm l → 0 ≤ p → q ≤ en l → p ≤ q → Are l p q bs → vJ (fun k => xN.f k l p true row.length a c above (row.take (max a 0).toNat)) (· = (0, q, true, a', c', row.take (max a' 0).toNat))
section
variable {above row : List Int} (hr : Px row) {a c b b2 : Int} (a0 : -1 ≤ a) (a1 : a < row.length) (hc : c = 0 ∨ c = 1) (g5 : vJ (fun k => wO.f k above a c) (· = (b, b2)))
include hr a0 a1 hc g5
theorem rdPass (h : a < b2) (hb : b2 < row.length) (same : ∀ j, max a 0 ≤ j → j < b2 → rd row j = c) : Rd06 above row a c [0, 0, 0, 1] b2 c := by
 intro l p q hb' p0 hq hpq hB
 have hl := hr.1
 have hout : ((row.take (max a 0).toNat).length : Int) = max a 0 := take_len (by omega) (by omega)
 have w := Vb (i := 0) (by decide) hB hq
 have := modePass hb' (w := row.length) hl p0 (by omega) hc g5 w (out := row.take (max a 0).toNat) (by omega) hb
 rw [kf (by omega) (by omega) (by omega) same] at this
 rw [show max b2 0 = b2 by omega]
 exact this
theorem rdUp {x : Int} (d0 : x - b ≥ -3) (d1 : x - b ≤ 3) (h : a < x) (x2 : x ≤ row.length) (same : ∀ j, max a 0 ≤ j → j < x → rd row j = c) : Rd06 above row a c (upB (x - b)) x (1 - c) := by
 intro l p q hb' p0 hq hpq hB
 have hl := hr.1
 have hout : ((row.take (max a 0).toNat).length : Int) = max a 0 := take_len (by omega) (by omega)
 rw [upW_is d0 d1] at hB
 have w := Vb (i := (x - b + 5).toNat) (by omega) hB hq
 rw [show (((x - b + 5).toNat : Nat) : Int) = x - b + 5 by omega] at w
 have := modeUp hb' (w := row.length) hl p0 (by omega) hc g5 d0 d1 w (out := row.take (max a 0).toNat) (by omega) (by omega) (by omega) (by omega) (by omega)
 rw [show b + (x - b) = x by omega, kf (by omega) (by omega) x2 same] at this
 rw [show max x 0 = x by omega]
 exact this
theorem rdFlat {x y : Int} (h : a < x) (x2 : x ≤ row.length) (hy : x < y ∨ y = row.length) (y2 : y ≤ row.length) (same : ∀ j, max a 0 ≤ j → j < x → rd row j = c) (same2 : ∀ j, x ≤ j → j < y → rd row j = 1 - c) : Rd06 above row a c (([0, 0, 1] ++ kX (x - max a 0) c) ++ kX (y - x) (1 - c)) y c := by
 intro l p q hb' p0 hq hpq hB
 have hl := hr.1
 have hout : ((row.take (max a 0).toNat).length : Int) = max a 0 := take_len (by omega) (by omega)
 rw [← rbP_rbT (by omega) (by omega) hc, ← rbP_rbT (n := y - x) (by omega) (by omega) (by omega)] at hB
 generalize hR1 : rbP (x - max a 0) c = R1 at hB
 generalize hR2 : rbP (y - x) (1 - c) = R2 at hB
 obtain ⟨B12, B3⟩ := hB.parts
 obtain ⟨B1, B2⟩ := B12.parts
 have e3 := B3.len
 have e2 := B2.len
 have e1 := B1.len
 have w := Vb (i := 1) (by decide) B1 (by omega)
 have r1 := run_fwd (n := x - max a 0) (by omega) (by omega) hc (by rw [hR1]; exact B2) (by omega)
 have r2 := run_fwd (n := y - x) (c := 1 - c) (by omega) (by omega) (by omega) (by rw [hR2]; exact B3) hq
 have := modeFlat hb' (w := row.length) hl p0 (by omega) hc g5 w (by omega) (by omega) r1 r2 (out := row.take (max a 0).toNat) (by omega) (by omega) (by omega)
 rw [hout, show max a 0 + (x - max a 0) = x by omega, show x + (y - x) = y by omega, kf (by omega) (by omega) x2 same, kf (by omega) (by omega) y2 same2] at this
 rw [show max y 0 = y by omega]
 exact this
end
theorem modesF {above row : List Int} (ha : Px above) (hr : Px row) (he : above.length = row.length) : ∀ (n : Nat) (a c : Int) (o1 : List zq), At06 row a c → (row.length : Int) - a ≤ n → o1.length + n ≤ 500 →
  ∃ (d1 : List zq) (bss : List (List Int)), d1.length ≤ n ∧ vJ (fun k => vL.l0 k above row o1 a c row.length) (· = o1 ++ d1) ∧ ju MBR d1 bss ∧ ∀ (l : List Int) (p q : Int), zm l → 0 ≤ p → q ≤ en l → Are l p q bss.flatten → vJ (fun k => wM.l0 k l row.length above p true a c (row.take (max a 0).toNat)) (· = (row, 0, q, true)) := by
 have hl := hr.1
 intro n
 have fin : ∀ (n : Nat) (a c : Int) (o1 : List zq), At06 row a c → (¬ a < (row.length : Int) ∨ ¬ (row.length : Int) > 0) → ∃ (d1 : List zq) (bss : List (List Int)), d1.length ≤ n ∧ vJ (fun k => vL.l0 k above row o1 a c row.length) (· = o1 ++ d1) ∧ ju MBR d1 bss ∧ ∀ (l : List Int) (p q : Int), zm l → 0 ≤ p → q ≤ en l → Are l p q bss.flatten → vJ (fun k => wM.l0 k l row.length above p true a c (row.take (max a 0).toNat)) (· = (row, 0, q, true)) := by
  intro n a c o1 hA h
  have full : row.take (max a 0).toNat = row := List.take_of_length_le (by omega)
  refine ⟨[], [], Nat.zero_le _, ?_, .nil, fun l p q hb p0 hq hA' => ?_⟩
  ·rw [List.append_nil]
   have no : vJ (fun k => vL.j1 k above row o1 a c row.length false) (· = o1) := vJ.step (fun k => by rw [vL.j1]) (vJ.neg (by decide) (vJ.ret rfl))
   refine vJ.step (fun k => by rw [vL.l0]) (vJ.ite (fun z => ?_) (fun _ => no))
   rw [decide_eq_false (h.resolve_left (fun y => y z))]
   exact no
  ·have hq' := hA'.len
   simp only [List.flatten_nil, List.length_nil] at hq'
   have e : p = q := by omega
   subst e
   rw [full]
   exact vJ.step (fun k => by rw [wM.l0]) (vJ.ite (fun z => vJ.neg (h.resolve_left (fun y => y z)) (vJ.ret rfl)) (fun _ => vJ.ret rfl))
 induction n with
 | zero => exact fun a c o1 hA hn _ => fin _ a c o1 hA (by omega)
 | succ n ih =>
  intro a c o1 hA hn n1
  by_cases h : a < (row.length : Int) ∧ (row.length : Int) > 0
  ·obtain ⟨a0, a1, hc, hrow⟩ := id hA
   obtain ⟨b, b2, g1, g2, g3, g4, g5, g6, g7⟩ := marks_is ha c a a0 (by omega)
   rw [he] at g2 g3 g4
   obtain ⟨x, x1, x2, x3, x4, x5⟩ := chg_is hr (1 - c) a a0 (by omega)
   have ex : a < x := by omega
   have e256 : (1 - c) % 256 = 1 - c := by omega
   have cc : wrap64 c = c := zx (by omega) (by omega)
   have d64 : wrap64 (x - b) = x - b := zx (by omega) (by omega)
   have same : ∀ j, max a 0 ≤ j → j < x → rd row j = c := fun j j0 j1 => by
    by_cases z : j = a
    ·subst z; exact hrow (by omega) h.1
    ·have q1 := x3 j (by omega) j1
     have q2 := hr.at (i := j) (by omega) (by omega)
     omega
   have round : ∀ (m1 : zq) (bs : List Int) (a' c' : Int), a < a' → At06 row a' c' → MBR m1 bs →
     Rd06 above row a c bs a' c' →
     (∀ P : List zq → Prop, vJ (fun k => if o1.length < 2932031007402 then vL.l0 k above row (o1 ++ [m1]) a' c' row.length else none) P → vJ (fun k => vL.l0 k above row o1 a c row.length) P) →
     ∃ (d1 : List zq) (bss : List (List Int)), d1.length ≤ n + 1 ∧ vJ (fun k => vL.l0 k above row o1 a c row.length) (· = o1 ++ d1) ∧ ju MBR d1 bss ∧ ∀ (l : List Int) (p q : Int), zm l → 0 ≤ p → q ≤ en l → Are l p q bss.flatten → vJ (fun k => wM.l0 k l row.length above p true a c (row.take (max a 0).toNat)) (· = (row, 0, q, true)) := by
    intro m1 bs a' c' h1 h2 h3 h4 p1
    obtain ⟨d1, bss, q1, q2, q3, q4⟩ := ih a' c' (o1 ++ [m1]) h2 (by omega) (by rw [List.length_append]; show o1.length + 1 + n ≤ 500; omega)
    refine ⟨m1 :: d1, bs :: bss, Nat.succ_le_succ q1, p1 _ (vJ.pos (by omega) ?_), .cons h3 q3, fun l p q hb p0 hq hB => ?_⟩
    ·rw [show o1 ++ m1 :: d1 = o1 ++ [m1] ++ d1 by simp]
     exact q2
    ·rw [List.flatten_cons] at hB
     obtain ⟨B1, B2⟩ := hB.parts
     have l2 := B2.len
     refine vJ.step (fun k => by rw [wM.l0]) (vJ.pos h.1 (vJ.pos h.2 ?_))
     refine vJ.bind (h4 l p _ hb p0 (by omega) (by omega) B1) ?_
     rintro _ rfl
     exact vJ.pos rfl (q4 l _ q hb (show 0 ≤ p + (bs.length : Int) by omega) hq B2)
   have prog : ∀ (P : List zq → Prop), vJ (fun k => if b2 < x then (if o1.length < 2932031007402 then (vL.l0 k above row (o1 ++ [(⟨(⟨#[112, 97, 115, 115]⟩ : ByteArray), 0, (⟨0, 0⟩ : jy), 0⟩ : zq)]) b2 c row.length) else (none)) else (if x - b ≥ (-3) then (if x - b ≤ 3 then (if o1.length < 2932031007402 then (vL.l0 k above row (o1 ++ [(⟨(⟨#[117, 112]⟩ : ByteArray), x - b, (⟨0, 0⟩ : jy), 0⟩ : zq)]) x (1 - c) row.length) else (none)) else ((wa.f k row x c).bind fun t229 => (if o1.length < 2932031007402 then (vL.l0 k above row (o1 ++ [(⟨(⟨#[102, 108, 97, 116]⟩ : ByteArray), 0, (⟨wrap64 (x - (mx a 0)), wrap64 (t229 - x)⟩ : jy), wrap64 (c)⟩ : zq)]) t229 c row.length) else (none)))) else ((wa.f k row x c).bind fun t233 => (if o1.length < 2932031007402 then (vL.l0 k above row (o1 ++ [(⟨(⟨#[102, 108, 97, 116]⟩ : ByteArray), 0, (⟨wrap64 (x - (mx a 0)), wrap64 (t233 - x)⟩ : jy), wrap64 (c)⟩ : zq)]) t233 c row.length) else (none))))) P → vJ (fun k => vL.l0 k above row o1 a c row.length) P := by
    intro P hp
    refine vJ.step (fun k => by rw [vL.l0]) (vJ.pos h.1 ?_)
    refine vJ.step (fun k => by rw [vL.j1]) (vJ.pos (decide_eq_true h.2) ?_)
    refine vJ.bind g5 ?_
    rintro _ rfl
    rw [e256]
    refine vJ.bind x5 ?_
    rintro _ rfl
    rw [d64]
    exact hp
   have at_x : At06 row x (1 - c) := ⟨by omega, x2, by omega, fun _ z => x4 z⟩
   by_cases k1 : b2 < x
   ·refine round (⟨(⟨#[112, 97, 115, 115]⟩ : ByteArray), 0, (⟨0, 0⟩ : jy), 0⟩ : zq) [0, 0, 0, 1] b2 c (by omega) ⟨by omega, g4, hc, fun q0 _ => same b2 (by omega) k1⟩ ⟨vJ.of (fun k => ww.mono _ _ _ _ _ k) Vh, show ([0, 0, 0, 1] : List Int).length ≤ 200 from by decide, show ∀ b ∈ ([0, 0, 0, 1] : List Int), b = 0 ∨ b = 1 from by decide⟩ (rdPass hr a0 h.1 hc g5 (by omega) (by omega) (fun j j0 j1 => same j j0 (by omega))) (fun P hp => prog P (vJ.pos k1 hp))
   ·by_cases k2 : x - b ≥ -3 ∧ x - b ≤ 3
    ·obtain ⟨u1, u2⟩ := mbits_up k2.1 k2.2
     refine round (⟨(⟨#[117, 112]⟩ : ByteArray), x - b, (⟨0, 0⟩ : jy), 0⟩ : zq) (upB (x - b)) x (1 - c) ex at_x ⟨vJ.of (fun k => ww.mono _ _ _ _ _ k) u1, by have := (upB_is k2.1 k2.2).2; omega, u2⟩ (rdUp hr a0 h.1 hc g5 k2.1 k2.2 ex x2 same) (fun P hp => prog P (vJ.neg k1 (vJ.pos k2.1 (vJ.pos k2.2 hp))))
    ·obtain ⟨y, y1, y2, y3, y4, y5⟩ := chg_is hr c x (by omega) x2
     have same2 : ∀ j, x ≤ j → j < y → rd row j = 1 - c := fun j j0 j1 => by
      by_cases z : j = x
      ·subst z; exact x4 (by omega)
      ·have q1 := y3 j (by omega) j1
       have q2 := hr.at (i := j) (by omega) (by omega)
       omega
     have hm : mx a 0 = max a 0 := by unfold mx; omega
     have w1 : wrap64 (x - max a 0) = x - max a 0 := zx (by omega) (by omega)
     have w2 : wrap64 (y - x) = y - x := zx (by omega) (by omega)
     have l1 := (jW (n := x - max a 0) (c := c) (by omega) (by omega) hc).2
     have l2 := (jW (n := y - x) (c := 1 - c) (by omega) (by omega) (by omega)).2
     refine round (⟨(⟨#[102, 108, 97, 116]⟩ : ByteArray), 0, (⟨x - max a 0, y - x⟩ : jy), c⟩ : zq) (([0, 0, 1] ++ kX (x - max a 0) c) ++ kX (y - x) (1 - c)) y c (by omega) ⟨by omega, y2, hc, fun _ z => y4 z⟩ ⟨Vc (n := x - max a 0) (m := y - x) (c := c) (by omega) (by omega) (by omega) (by omega) hc, ?_, ?_⟩ (rdFlat hr a0 h.1 hc g5 ex x2 y1 y2 same same2) (fun P hp => prog P (vJ.neg k1 ?_))
     ·rw [List.length_append, List.length_append]
      show 3 + _ + _ ≤ 200
      omega
     ·intro z hz
      rcases List.mem_append.mp hz with hz | hz
      ·rcases List.mem_append.mp hz with hz | hz
       ·exact (show ∀ z ∈ ([0, 0, 1] : List Int), z = 0 ∨ z = 1 by decide) z hz
       ·exact rbT_01 (by omega) (by omega) hc z hz
      ·exact rbT_01 (by omega) (by omega) (by omega) z hz
     ·have go : vJ (fun k => (wa.f k row x c).bind fun t229 => (if o1.length < 2932031007402 then (vL.l0 k above row (o1 ++ [(⟨(⟨#[102, 108, 97, 116]⟩ : ByteArray), 0, (⟨wrap64 (x - (mx a 0)), wrap64 (t229 - x)⟩ : jy), wrap64 (c)⟩ : zq)]) t229 c row.length) else (none))) P := by
       refine vJ.bind y5 ?_
       rintro _ rfl
       rw [hm, w1, w2, cc]
       exact hp
      exact vJ.ite (fun z => vJ.neg (fun w => k2 ⟨z, w⟩) go) (fun _ => go)
  ·exact fin _ a c o1 hA (by omega)
def Byt (p : List Int) : Prop := ∀ x ∈ p, 0 ≤ x ∧ x ≤ 255
theorem wf_byt {p : List Int} (h : ∀ y ∈ p, (Lit.int .u8 y).wf = true) : Byt p := fun x hx => by
 have h1 : (decide (IntKind.u8.min ≤ x) && decide (x ≤ IntKind.u8.max)) = true := h x hx
 obtain ⟨a, b⟩ := Bool.and_eq_true_iff.mp h1
 exact ⟨of_decide_eq_true a, of_decide_eq_true b⟩
def rl (c : Int) : List Int → Nat
 | [] => 0
 | x :: xs => if x = c then rl c xs + 1 else 0
def jZ : Nat → Int → List Int → List Int
 | 0, _, _ => []
 | _ + 1, _, [] => []
 | n + 1, c, x :: xs => (rl c (x :: xs) : Int) :: jZ n ((1 - c) % 256) ((x :: xs).drop (rl c (x :: xs)))
theorem rl_le (c : Int) : ∀ l : List Int, rl c l ≤ l.length
 | [] => Nat.le_refl _
 | x :: xs => by
  have ih := rl_le c xs
  unfold rl
  split
  ·rw [List.length_cons]; omega
  ·exact Nat.zero_le _
theorem rl_take (c : Int) : ∀ l : List Int, l.take (rl c l) = List.replicate (rl c l) c
 | [] => rfl
 | x :: xs => by
  unfold rl
  split
  ·next h => rw [List.take_succ_cons, List.replicate_succ, rl_take c xs, h]
  ·rfl
theorem rl_at (c : Int) : ∀ l : List Int, ∀ x t, l.drop (rl c l) = x :: t → x ≠ c
 | [], x, t, h => by cases h
 | y :: ys, x, t, h => by
  unfold rl at h
  split at h
  ·exact rl_at c ys x t h
  ·next g => rw [← (List.cons.inj h).1]; exact g
theorem rl_end {p : List Int} {c i : Int} (h : (p.length : Int) ≤ i) : rl c (p.drop i.toNat) = 0 := by rw [drop_end h]; rfl
theorem rl_hit {p : List Int} {c i : Int} (i0 : 0 ≤ i) (i1 : i < (p.length : Int)) (h : rd p i = c) : rl c (p.drop i.toNat) = rl c (p.drop (i + 1).toNat) + 1 := by
 rw [kn i0 i1]
 show (if _ then _ else _) = _
 rw [if_pos h]
theorem rl_miss {p : List Int} {c i : Int} (i0 : 0 ≤ i) (i1 : i < (p.length : Int)) (h : ¬ rd p i = c) : rl c (p.drop i.toNat) = 0 := by
 rw [kn i0 i1]
 show (if _ then _ else _) = _
 rw [if_neg h]
theorem drop2 {p : List Int} {i : Int} {n : Nat} (i0 : 0 ≤ i) : (p.drop i.toNat).drop n = p.drop (i + n).toNat := by
 rw [List.drop_drop]
 congr 1
 omega
theorem rle_nil (n : Nat) (c : Int) : jZ n c [] = [] := by cases n <;> rfl
def left (c : Int) : List Int → Nat
 | [] => 0
 | x :: xs => xs.length + 1 + if x = c then 0 else 1
theorem left_nil {c : Int} {l : List Int} (h : left c l ≤ 0) : l = [] := by
 cases l with
 | nil => rfl
 | cons x xs =>
  exfalso
  have h : xs.length + 1 + (if x = c then 0 else 1) ≤ 0 := h
  omega
theorem left_le (c : Int) (l : List Int) : left c l ≤ l.length + 1 := by
 cases l with
 | nil => exact Nat.zero_le _
 | cons x xs =>
  show xs.length + 1 + (if x = c then 0 else 1) ≤ (x :: xs).length + 1
  rw [List.length_cons]
  split <;> omega
theorem left_step {c : Int} {x : Int} {xs : List Int} (hc : c = 0 ∨ c = 1) (h01 : ∀ y ∈ x :: xs, y = 0 ∨ y = 1) : left ((1 - c) % 256) ((x :: xs).drop (rl c (x :: xs))) + 1 ≤ left c (x :: xs) := by
 have hle := rl_le c (x :: xs)
 cases e : (x :: xs).drop (rl c (x :: xs)) with
 | nil =>
  show 0 + 1 ≤ xs.length + 1 + _
  omega
 | cons y ys =>
  have hy := rl_at c _ y ys e
  have hm : y ∈ x :: xs := List.mem_of_mem_drop (show y ∈ (x :: xs).drop (rl c (x :: xs)) by rw [e]; exact List.mem_cons_self ..)
  have hy01 := h01 y hm
  have hyc : y = (1 - c) % 256 := by omega
  have hl : ys.length + 1 = (x :: xs).length - rl c (x :: xs) := by rw [← List.length_drop, e]; rfl
  rw [List.length_cons] at hl hle
  show ys.length + 1 + (if y = (1 - c) % 256 then 0 else 1) + 1 ≤ xs.length + 1 + (if x = c then 0 else 1)
  rw [if_pos hyc]
  by_cases z : x = c
  ·rw [if_pos z]
   have : rl c (x :: xs) = rl c xs + 1 := by
    show (if x = c then _ else _) = _
    rw [if_pos z]
   omega
  ·rw [if_neg z]
   omega
theorem flip01 {c : Int} (hc : c = 0 ∨ c = 1) : (1 - c) % 256 = 0 ∨ (1 - c) % 256 = 1 := by omega
instance (w h : Int) (p : List Int) : Decidable (Val w h p) := by unfold Val; exact inferInstance
theorem kp {w h : Int} (hw : 0 ≤ w) (hh : 0 ≤ h) (hw' : w ≤ 200) (hh' : h ≤ 200) : 0 ≤ w * h ∧ w * h ≤ 40000 := by
 have h1 : 0 ≤ w * h := Int.mul_nonneg hw hh
 have h2 : w * h ≤ 200 * h := Int.mul_le_mul_of_nonneg_right hw' hh
 omega
theorem fits_is (w h : Int) : yU.f w h = some (decide (Sid w h)) := by
 unfold yU.f
 by_cases h1 : 0 ≤ w ∧ 0 ≤ h ∧ w ≤ 200 ∧ h ≤ 200
 ·obtain ⟨a, b, c, d⟩ := h1
  have := kp a b c d
  rw [if_pos (by omega), if_pos (by omega), if_pos c, if_pos d, zx (by omega) (by omega)]
  simp [Sid, a, b, c, d]
 ·have h2 : ¬ Sid w h := fun s => h1 ⟨s.1, s.2.1, s.2.2.1, s.2.2.2.1⟩
  simp only [h2, decide_false]
  split
  ·split
   ·split
    ·split
     ·omega
     ·rfl
    ·rfl
   ·rfl
  ·rfl
theorem Valid_l0 (p : List Int) (hl : (p.length : Int) ≤ 9223372036854775807) : vJ (fun k => wx.l0 k p (p.length : Int) 0) (· = decide (∀ x ∈ p, x ≤ 1)) := by
 refine vJ.up (L := fun k i (_ : Unit) => wx.l0 k p (p.length : Int) i) (fun i _ => 0 ≤ i ∧ ∀ j, 0 ≤ j → j < i → rd p j ≤ 1) p.length ?_ 0 () (by omega) ⟨by omega, fun j _ _ => by omega⟩
 intro i _ ⟨h0, hb⟩ hi ih
 refine vJ.step (fun k => by rw [wx.l0]) ?_
 refine vJ.ite (fun h1 => ?_) (fun h1 => ?_)
 ·refine vJ.pos h0 (vJ.pos h1 (vJ.ite (fun h2 => vJ.ret ?_) (fun h2 => ?_)))
  ·symm
   rw [decide_eq_false_iff_not]
   intro hall
   have := hall _ (kA h0 h1)
   omega
  ·rw [zx (by omega) (by omega)]
   refine ih () h1 ⟨by omega, fun j hj hj' => ?_⟩
   rcases Int.lt_or_le j i with hji | hji
   ·exact hb j hj hji
   ·have : j = i := by omega
    subst this
    omega
 ·refine vJ.ret ?_
  symm
  rw [decide_eq_true_iff]
  intro x hx
  obtain ⟨n, hn, rfl⟩ := List.getElem_of_mem hx
  have := hb (n : Int) (by omega) (by omega)
  rwa [kY p n hn] at this
theorem Valid_is (w h : Int) (p : List Int) (hp : ∀ x ∈ p, 0 ≤ x) (hl : (p.length : Int) ≤ 9223372036854775807) : vJ (fun k => wx.f k w h p) (· = decide (Val w h p)) := by
 unfold wx.f
 refine vJ.zL (fits_is w h) ?_
 refine vJ.ite (fun h1 => ?_) (fun h1 => ?_)
 ·rw [decide_eq_true_iff] at h1
  have hm := kp h1.1 h1.2.1 h1.2.2.1 h1.2.2.2.1
  rw [zx (by omega) (by omega)]
  refine vJ.step (fun k => by rw [wx.j0]) ?_
  refine vJ.ite (fun h2 => vJ.ret ?_) (fun h2 => ?_)
  ·symm
   rw [decide_eq_false_iff_not]
   intro v
   simp [v.2.2.2.2.2.1] at h2
  ·refine (Valid_l0 p hl).mono ?_
   rintro r rfl
   have e : (p.length : Int) = w * h := by simpa using h2
   apply decide_eq_decide.mpr
   constructor
   ·intro hall
    exact ⟨h1.1, h1.2.1, h1.2.2.1, h1.2.2.2.1, h1.2.2.2.2, e, fun x hx => ⟨hp x hx, hall x hx⟩⟩
   ·intro v x hx
    exact (v.2.2.2.2.2.2 x hx).2
 ·refine vJ.step (fun k => by rw [wx.j0]) ?_
  refine vJ.pos rfl (vJ.ret ?_)
  symm
  rw [decide_eq_false_iff_not]
  intro v
  exact h1 (decide_eq_true v.sid)
def rowAt (w : Int) (p : List Int) (y : Int) : List Int := (p.take ((y + 1) * w).toNat).drop (y * w).toNat
theorem jj {w h : Int} {p : List Int} (v : Val w h p) {y : Int} (y0 : 0 ≤ y) (y1 : y < h) : Px (rowAt w p y) ∧ ((rowAt w p y).length : Int) = w := by
 obtain ⟨w0, h0, w1, h1, _, hl, hp⟩ := v
 have a : 0 ≤ y * w := Int.mul_nonneg y0 w0
 have b : (y + 1) * w ≤ h * w := Int.mul_le_mul_of_nonneg_right (by omega) w0
 have c : (y + 1) * w = y * w + w := by rw [Int.add_mul, Int.one_mul]
 have hlen : ((rowAt w p y).length : Int) = w := by
  unfold rowAt
  rw [List.length_drop, List.length_take]
  rw [Int.mul_comm h w] at b
  omega
 refine ⟨⟨by omega, fun z hz => ?_⟩, hlen⟩
 have := hp z (List.mem_of_mem_take (List.mem_of_mem_drop hz))
 omega
theorem mulB {w h y : Int} {p : List Int} (v : Val w h p) (y0 : 0 ≤ y) (y1 : y < h) : 0 ≤ y * w ∧ y * w ≤ (y + 1) * w ∧ (y + 1) * w ≤ (p.length : Int) ∧ (p.length : Int) ≤ 8192 := by
 obtain ⟨w0, h0, w1, h1, hm, hl, hp⟩ := v
 have a : 0 ≤ y * w := Int.mul_nonneg y0 w0
 have b : (y + 1) * w ≤ h * w := Int.mul_le_mul_of_nonneg_right (by omega) w0
 have c : (y + 1) * w = y * w + w := by rw [Int.add_mul, Int.one_mul]
 rw [Int.mul_comm h w] at b
 omega
theorem lines_is {w h : Int} {p : List Int} (v : Val w h p) : vJ (fun k => xg.f k w h p) (· = (List.range h.toNat).map fun y : Nat => rowAt w p y) := by
 have hh := v.2.1
 have hh2 := v.2.2.2.1
 unfold xg.f
 refine vJ.up (L := fun k i (s : List (List Int)) => xg.l0 k s h i w h p) (fun i s => 0 ≤ i ∧ s = (List.range i.toNat).map fun y : Nat => rowAt w p y) h ?_ 0 [] hh ⟨Int.le_refl _, rfl⟩
 intro i s ⟨i0, hs⟩ hn ih
 refine vJ.step (fun k => by rw [xg.l0]) (vJ.ite (fun i1 => ?_) (fun i1 => vJ.ret ?_))
 ·obtain ⟨a, b, c, d⟩ := mulB v i0 i1
  have wi : wrap64 (i + 1) = i + 1 := zx (by omega) (by omega)
  have w1 : wrap64 (i * w) = i * w := zx (by omega) (by omega)
  have w2 : wrap64 ((i + 1) * w) = (i + 1) * w := zx (by omega) (by omega)
  rw [wi, w1, w2]
  refine vJ.pos a (vJ.pos b (vJ.pos c (vJ.pos (by rw [hs, List.length_map, List.length_range]; omega) ?_)))
  refine ih _ i1 ⟨by omega, ?_⟩
  rw [hs, show (i + 1).toNat = i.toNat + 1 by omega, List.range_succ, List.map_append, List.map_singleton, show ((i.toNat : Nat) : Int) = i by omega]
  rfl
 ·rw [hs, show i = h by omega]
def B01 (l : List Int) : Prop := ∀ b ∈ l, b = 0 ∨ b = 1
theorem B01.app {l m : List Int} (h : B01 l) (k : B01 m) : B01 (l ++ m) := fun b hb => (List.mem_append.mp hb).elim (h b) (k b)
theorem qH : ∀ (n : Nat) (c : Int) (l : List Int), (jZ n c l).length ≤ n := by
 intro n
 induction n with
 | zero => intro c l; exact Nat.le_refl _
 | succ n ih =>
  intro c l
  cases l with
  | nil => exact Nat.zero_le _
  | cons x xs => exact Nat.succ_le_succ (ih _ _)
theorem rle_in : ∀ (n : Nat) (c : Int) (l : List Int), (l.length : Int) ≤ 200 → ∀ x ∈ jZ n c l, 0 ≤ x ∧ x ≤ 200 := by
 intro n
 induction n with
 | zero => intro c l hl x hx; cases hx
 | succ n ih =>
  intro c l hl x hx
  cases l with
  | nil => cases hx
  | cons z zs =>
   have hle := rl_le c (z :: zs)
   rcases List.mem_cons.mp hx with rfl | hx
   ·omega
   ·exact ih _ _ (by rw [List.length_drop]; omega) x hx
theorem rd_lines {w h : Int} {p : List Int} {i : Int} (i0 : 0 ≤ i) (i1 : i < h) : zc ((List.range h.toNat).map fun y : Nat => rowAt w p y) i = rowAt w p i := by
 have hi : i.toNat < h.toNat := by omega
 simp [zc, List.getD, List.getElem?_map, List.getElem?_range hi, show ((i.toNat : Nat) : Int) = i by omega]
theorem qQ {w h : Int} {p : List Int} (v : Val w h p) {y : Int} (y0 : 0 ≤ y) (y1 : y < h) : xm.f w h p y = some (rowAt w p y) := by
 obtain ⟨a, b, c, d⟩ := mulB v y0 y1
 have hy := v.2.2.2.1
 have wi : wrap64 (y + 1) = y + 1 := zx (by omega) (by omega)
 have w1 : wrap64 (y * w) = y * w := zx (by omega) (by omega)
 have w2 : wrap64 ((y + 1) * w) = (y + 1) * w := zx (by omega) (by omega)
 have hl := (jj v y0 y1).2
 have hw := v.2.2.1
 have hl2 : ((List.drop (y * w).toNat (List.take ((y + 1) * w).toNat p)).length : Int) = w := hl
 unfold xm.f
 rw [if_neg (by omega), Option.bind_some, wi, w1, w2, if_pos a, if_pos b, if_pos c, if_pos (by show 0 + _ < _; omega), List.nil_append]
 rfl
theorem rowOf_first {w h : Int} {p : List Int} (w0 : 0 ≤ w) (w1 : w ≤ 200) : xm.f w h p (-1) = some (List.replicate w.toNat 0) := by
 unfold xm.f
 rw [if_pos (by decide), if_pos w0, if_pos (by omega)]
def qc (w : Int) (p : List Int) (y : Int) : List Int := if y = 0 then List.replicate w.toNat 0 else rowAt w p (y - 1)
theorem upAt_is {w h : Int} {p : List Int} (v : Val w h p) {y : Int} (y0 : 0 ≤ y) (y1 : y < h) : Px (qc w p y) ∧ ((qc w p y).length : Int) = w ∧ xm.f w h p (y - 1) = some (qc w p y) := by
 have w0 := v.1
 have w1 := v.2.2.1
 unfold qc
 by_cases z : y = 0
 ·rw [if_pos z, z]
  refine ⟨⟨by rw [List.length_replicate]; omega, fun x hx => .inl (List.eq_of_mem_replicate hx)⟩, by rw [List.length_replicate]; omega, rowOf_first w0 w1⟩
 ·rw [if_neg z]
  obtain ⟨a, b⟩ := jj v (y := y - 1) (by omega) (by omega)
  exact ⟨a, b, qQ v (by omega) (by omega)⟩
theorem orShl_good : (List.range 256).all (fun v => (List.range 8).all fun j => v % 2 ^ (8 - j) != 0 || ((List.range 2).all fun b =>
  decide (Go.bits .or .u8 (v : Int) (shl .u8 (b : Int) (7 - (j : Int))) = ((v : Int) + shl .u8 (b : Int) (7 - (j : Int))) % 256) && decide (((v : Int) + shl .u8 (b : Int) (7 - (j : Int))) % 256 % (2 ^ (7 - j) : Nat) = 0))) = true := by decide +kernel
theorem orShl {v b : Int} {j : Nat} (v0 : 0 ≤ v) (v1 : v ≤ 255) (hj : j < 8) (hb : b = 0 ∨ b = 1) (hz : v % (2 ^ (8 - j) : Nat) = 0) :
  Go.bits .or .u8 v (shl .u8 b (7 - (j : Int))) = (v + shl .u8 b (7 - (j : Int))) % 256 ∧ (v + shl .u8 b (7 - (j : Int))) % 256 % (2 ^ (7 - j) : Nat) = 0 := by
 have g := List.all_eq_true.mp (List.all_eq_true.mp orShl_good v.toNat (List.mem_range.mpr (by omega))) j (List.mem_range.mpr hj)
 obtain ⟨n, rfl⟩ : ∃ n : Nat, v = n := ⟨v.toNat, by omega⟩
 rw [Int.toNat_natCast, Bool.or_eq_true] at g
 have hz' : n % 2 ^ (8 - j) = 0 := by exact_mod_cast hz
 rcases g with g | g
 ·simp [hz'] at g
 ·obtain ⟨m, rfl⟩ : ∃ m : Nat, b = m := ⟨b.toNat, by omega⟩
  have g := List.all_eq_true.mp g m (List.mem_range.mpr (by omega))
  rw [Bool.and_eq_true, decide_eq_true_iff, decide_eq_true_iff] at g
  exact g
theorem packBit_good : (List.range 256).all (fun v => (List.range 8).all fun m => v % 2 ^ (8 - m) != 0 || ((List.range 2).all fun b => (List.range 8).all fun j =>
  let u := ((v : Int) + shl .u8 (b : Int) (7 - (m : Int))) % 256
  decide (m < j) || decide (Int.tmod (shr .u8 u (7 - (j : Int))) 2 = if j = m then (b : Int) else Int.tmod (shr .u8 (v : Int) (7 - (j : Int))) 2))) = true := by decide +kernel
theorem packBit {v b : Int} {m j : Nat} (v0 : 0 ≤ v) (v1 : v ≤ 255) (hm : m < 8) (hj : j ≤ m) (hb : b = 0 ∨ b = 1) (hz : v % (2 ^ (8 - m) : Nat) = 0) :
  Int.tmod (shr .u8 ((v + shl .u8 b (7 - (m : Int))) % 256) (7 - (j : Int))) 2 = if j = m then b else Int.tmod (shr .u8 v (7 - (j : Int))) 2 := by
 have g := List.all_eq_true.mp (List.all_eq_true.mp packBit_good v.toNat (List.mem_range.mpr (by omega))) m (List.mem_range.mpr hm)
 obtain ⟨n, rfl⟩ : ∃ n : Nat, v = n := ⟨v.toNat, by omega⟩
 rw [Int.toNat_natCast, Bool.or_eq_true] at g
 have hz' : n % 2 ^ (8 - m) = 0 := by exact_mod_cast hz
 rcases g with g | g
 ·simp [hz'] at g
 ·obtain ⟨q, rfl⟩ : ∃ q : Nat, b = q := ⟨b.toNat, by omega⟩
  have g := List.all_eq_true.mp (List.all_eq_true.mp g q (List.mem_range.mpr (by omega))) j (List.mem_range.mpr (by omega))
  simp only [Bool.or_eq_true, decide_eq_true_iff] at g
  rcases g with g | g
  ·omega
  ·exact g
theorem packP_l0 (bs : List Int) (hb : ∀ b ∈ bs, b = 0 ∨ b = 1) (hl : (bs.length : Int) ≤ 100000000) : ∀ (n : Nat) (i : Int) (x : List Int), 0 ≤ i → (bs.length : Int) - i = n → (x.length : Int) = ((bs.length : Int) + 7) / 8 → (∀ j, 0 ≤ j → j < (x.length : Int) → 0 ≤ rd x j ∧ rd x j ≤ 255) →
  (∀ j, i / 8 < j → j < (x.length : Int) → rd x j = 0) → (i / 8 < (x.length : Int) → rd x (i / 8) % (2 ^ (8 - (i % 8).toNat) : Nat) = 0) → (∀ j, 0 ≤ j → j < i → jq x j = rd bs j) →
  ∃ r : List Int, vJ (fun k => wS.l0 k x bs (bs.length : Int) i) (· = (r, 0)) ∧ r.length = x.length ∧ (∀ j, 0 ≤ j → j < (r.length : Int) → 0 ≤ rd r j ∧ rd r j ≤ 255) ∧ (∀ j, 0 ≤ j → j < (bs.length : Int) → jq r j = rd bs j) := by
 intro n
 induction n with
 | zero =>
  intro i x i0 hn hx h1 h2 h3 h4
  exact ⟨x, vJ.step (fun k => by rw [wS.l0]) (vJ.neg (by omega) (vJ.ret rfl)), rfl, h1, fun j a b => h4 j a (by omega)⟩
 | succ n ih =>
  intro i x i0 hn hx h1 h2 h3 h4
  have i1 : i < (bs.length : Int) := by omega
  have q1 : i / 8 < (x.length : Int) := by omega
  have q0 : 0 ≤ i / 8 := by omega
  have hbi := hb _ (kA i0 i1)
  obtain ⟨v0, v1⟩ := h1 (i / 8) q0 q1
  have e7 : 7 - i % 8 = 7 - (((i % 8).toNat : Nat) : Int) := by omega
  obtain ⟨g1, g2⟩ := orShl v0 v1 (j := (i % 8).toNat) (by omega) hbi (h3 q1)
  rw [← e7] at g1 g2
  have ed : Int.tdiv i 8 = i / 8 := Int.tdiv_eq_ediv_of_nonneg i0
  have em : Int.tmod i 8 = i % 8 := Int.tmod_eq_emod_of_nonneg i0
  have wd : wrap64 (i / 8) = i / 8 := zx (by omega) (by omega)
  have wm : wrap64 (7 - i % 8) = 7 - i % 8 := zx (by omega) (by omega)
  have wi : wrap64 (i + 1) = i + 1 := zx (by omega) (by omega)
  obtain ⟨r, r1, r3, r4, r5⟩ := ih (i + 1) (x.set (i / 8).toNat ((rd x (i / 8) + shl .u8 (rd bs i) (7 - i % 8)) % 256)) (by omega) (by omega) (by rw [List.length_set]; exact hx)
   (fun j j0 j1 => by
    rw [List.length_set] at j1
    rw [kT x (i / 8) j _ q0 q1 j0]
    split
    ·omega
    ·exact h1 j j0 j1)
   (fun j j0 j1 => by
    rw [List.length_set] at j1
    rw [kT x (i / 8) j _ q0 q1 (by omega), if_neg (by omega)]
    exact h2 j (by omega) j1)
   (fun j1 => by
    rw [List.length_set] at j1
    rw [kT x (i / 8) _ _ q0 q1 (by omega)]
    by_cases z : (i + 1) / 8 = i / 8
    ·rw [if_pos z, show 8 - ((i + 1) % 8).toNat = 7 - (i % 8).toNat by omega]
     exact g2
    ·rw [if_neg z, h2 _ (by omega) j1]
     exact Int.zero_emod _)
   (fun j j0 j1 => by
    unfold jq
    rw [kT x (i / 8) (j / 8) _ q0 q1 (by omega)]
    by_cases z : j / 8 = i / 8
    ·rw [if_pos z]
     have pb := packBit (v := rd x (i / 8)) (b := rd bs i) (m := (i % 8).toNat) (j := (j % 8).toNat) v0 v1 (by omega) (by omega) hbi (h3 q1)
     rw [show (((i % 8).toNat : Nat) : Int) = i % 8 by omega, show (((j % 8).toNat : Nat) : Int) = j % 8 by omega] at pb
     rw [pb]
     by_cases y : j = i
     ·rw [if_pos (by omega), y]
     ·rw [if_neg (by omega), ← z]
      exact h4 j j0 (by omega)
    ·rw [if_neg z]
     exact h4 j j0 (by omega))
  rw [List.length_set] at r3
  refine ⟨r, ?_, r3, r4, r5⟩
  refine vJ.step (fun k => by rw [wS.l0]) ?_
  rw [ed, em, wd, wm, wi, g1]
  exact vJ.pos i1 (vJ.pos i0 (vJ.pos i1 (vJ.neg (by omega) (vJ.pos q0 (vJ.pos q1 (vJ.pos (by omega) r1))))))
theorem packP (bs : List Int) (hb : ∀ b ∈ bs, b = 0 ∨ b = 1) (hl : (bs.length : Int) ≤ 100000000) : ∃ r : List Int, vJ (fun k => wS.f k bs) (· = (r, 0)) ∧ (r.length : Int) = ((bs.length : Int) + 7) / 8 ∧ zm r ∧ ∀ j, 0 ≤ j → j < (bs.length : Int) → jq r j = rd bs j := by
 have w1 : wrap64 ((bs.length : Int) + 7) = (bs.length : Int) + 7 := zx (by omega) (by omega)
 have ed : Int.tdiv ((bs.length : Int) + 7) 8 = ((bs.length : Int) + 7) / 8 := Int.tdiv_eq_ediv_of_nonneg (by omega)
 have w2 : wrap64 (((bs.length : Int) + 7) / 8) = ((bs.length : Int) + 7) / 8 := zx (by omega) (by omega)
 have hz : ∀ j : Int, 0 ≤ j → j < ((List.replicate (((bs.length : Int) + 7) / 8).toNat (0 : Int)).length : Int) → rd (List.replicate (((bs.length : Int) + 7) / 8).toNat (0 : Int)) j = 0 := fun j j0 j1 => by
  rw [List.length_replicate] at j1
  exact jO _ _ _ j0 j1
 obtain ⟨r, r1, r3, r4, r5⟩ := packP_l0 bs hb hl bs.length 0 (List.replicate (((bs.length : Int) + 7) / 8).toNat 0) (by omega) (by omega) (by rw [List.length_replicate]; omega) (fun j j0 j1 => by rw [hz j j0 j1]; omega) (fun j j0 j1 => hz j (by omega) j1) (fun j1 => by rw [show (0 : Int) / 8 = 0 from rfl] at *; rw [hz 0 (by omega) j1]; rfl) (fun j a b => by omega)
 rw [List.length_replicate] at r3
 refine ⟨r, ?_, by omega, ⟨fun y hy => ?_, by omega⟩, r5⟩
 ·unfold wS.f
  rw [w1, ed, w2]
  exact vJ.pos (by omega) (vJ.pos (by omega) r1)
 ·obtain ⟨i, hi, he⟩ := List.getElem_of_mem hy
  have := r4 (i : Int) (by omega) (by omega)
  rw [kY r i hi, he] at this
  exact this
theorem blank_is (w h : Int) : zA.f w h = some (if Sid w h then (w, h, tab w h (fun _ _ => 0), 0) else (0, 0, [], 4)) := by
 unfold zA.f
 rw [fits_is, Option.bind_some]
 by_cases s : Sid w h
 ·have hm := kp s.1 s.2.1 s.2.2.1 s.2.2.2.1
  rw [if_pos (decide_eq_true s), if_pos s, zx (by omega) (by omega), if_pos (by omega), if_pos (by omega), replicate_tab s.1 s.2.1]
 ·rw [if_neg (by simpa using s), if_neg s]
def newR (w h c : Int) : Int × Int × List Int × Int := if w < 0 ∨ h < 0 ∨ (c ≠ 0 ∧ c ≠ 1) then (0, 0, [], 2) else if Sid w h then (w, h, tab w h (fun _ _ => c), 0) else (0, 0, [], 4)
theorem New_j0 (w h c : Int) (b : Bool) (hb : b = true ↔ (w < 0 ∨ h < 0 ∨ (c ≠ 0 ∧ c ≠ 1))) : vJ (fun k => wN.j0 k w h c b) (· = newR w h c) := by
 refine vJ.step (fun k => by rw [wN.j0]) ?_
 refine vJ.ite (fun h1 => vJ.ret ?_) (fun h1 => ?_)
 ·unfold newR
  rw [if_pos (hb.mp h1)]
 ·have hn : ¬ (w < 0 ∨ h < 0 ∨ (c ≠ 0 ∧ c ≠ 1)) := fun q => h1 (hb.mpr q)
  unfold newR
  rw [if_neg hn]
  refine vJ.zL (blank_is w h) ?_
  by_cases s : Sid w h
  ·simp only [if_pos s]
   have hm := kp s.1 s.2.1 s.2.2.1 s.2.2.2.1
   have hlen : ((tab w h fun _ _ => (0 : Int)).length : Int) = w * h := by rw [qV]; omega
   refine vJ.fill (L := fun k i l => wN.l0 k c 0 ((tab w h fun _ _ => 0).length : Int) i w h l) (tab w h fun _ _ => 0) (fun _ => c) ?_ ?_
   ·intro i l h0 h2 hl hr hk
    refine vJ.step (fun k => by rw [wN.l0]) ?_
    refine vJ.pos h2 (vJ.pos h0 (vJ.pos (by omega) ?_))
    rw [zx (by omega) (by omega), show c % 256 = c by omega]
    exact hk
   ·refine vJ.step (fun k => by rw [wN.l0]) ?_
    refine vJ.neg (by omega) (vJ.ret ?_)
    rw [lmap_tab (w := w) (h := h) (g := fun _ _ => c) s.1 s.2.1 (by omega) (fun _ _ _ _ _ _ => rfl)]
  ·simp only [if_neg s]
   refine vJ.step (fun k => by rw [wN.l0]) ?_
   exact vJ.neg (by simp) (vJ.ret rfl)
theorem New_is (w h c : Int) : vJ (fun k => wN.f k w h c) (· = newR w h c) := by
 unfold wN.f
 refine vJ.ite (fun h1 => New_j0 w h c true (by simp [h1])) (fun h1 => ?_)
 refine vJ.ite (fun h2 => New_j0 w h c true (by simp [h2])) (fun h2 => ?_)
 refine vJ.ite (fun h3 => New_j0 w h c _ (by simp; omega)) (fun h3 => New_j0 w h c _ (by simp; omega))
theorem ju.len {α β : Type} {R : α → β → Prop} {l : List α} {m : List β} (h : ju R l m) : l.length = m.length := by
 induction h with
 | nil => rfl
 | cons _ _ ih => rw [List.length_cons, List.length_cons, ih]
def qT (above row bs : List Int) : Prop := ∃ (d1 : List zq) (bss : List (List Int)), d1.length ≤ 201 ∧ vJ (fun k => vL.f k above row) (· = d1) ∧ ju MBR d1 bss ∧ bs = bss.flatten
theorem bss_01 {d1 : List zq} {bss : List (List Int)} (h : ju MBR d1 bss) : B01 bss.flatten ∧ bss.flatten.length ≤ d1.length * 200 := by
 induction h with
 | nil => exact ⟨(fun b hb => by cases hb), Nat.le_refl _⟩
 | cons a t ih =>
  rw [List.flatten_cons, List.length_append, List.length_cons]
  exact ⟨B01.app a.2.2 ih.1, by have := a.2.1; have := ih.2; omega⟩
theorem qT.b01 {above row bs : List Int} (h : qT above row bs) : B01 bs ∧ bs.length ≤ 40200 := by
 obtain ⟨d1, bss, h1, h2, h3, rfl⟩ := h
 have := bss_01 h3
 exact ⟨this.1, by omega⟩
theorem ju.det {d1 : List zq} {b1 b2 : List (List Int)} (h : ju MBR d1 b1) : ∀ {b2 : List (List Int)}, ju MBR d1 b2 → b1 = b2 := by
 induction h with
 | nil => intro b2 k; cases k; rfl
 | cons a t ih =>
  intro b2 k
  cases k with
  | cons c u => rw [vJ.det a.1 c.1, ih u]
theorem qT.det {above row a b : List Int} (h : qT above row a) (k : qT above row b) : a = b := by
 obtain ⟨d1, bss, h1, h2, h3, rfl⟩ := h
 obtain ⟨d2, css, k1, k2, k3, rfl⟩ := k
 obtain rfl := vJ.det h2 k2
 rw [ju.det (b2 := css) h3 k3]
theorem twoP_row (above : List Int) (rows : List (List Int)) (m y : Int) (P : List Int × Int → Prop) (ds : List zq) : ∀ (d1 : List zq) (bss : List (List Int)) (i : Int) (out : List Int), ju MBR d1 bss → 0 ≤ i → ds.drop i.toNat = d1 → out.length + d1.length * 200 ≤ 50000000 → (ds.length : Int) ≤ 300 →
  vJ (fun k => xt.l0 k (out ++ bss.flatten) above rows m (wrap64 (y + 1))) P → vJ (fun k => xt.l1 k out above rows m y ds (ds.length : Int) i) P := by
 intro d1
 induction d1 with
 | nil =>
  intro bss i out h i0 hd ho hl hp
  cases h
  have : ds.length ≤ i.toNat := List.drop_eq_nil_iff.mp hd
  rw [List.flatten_nil, List.append_nil] at hp
  exact vJ.step (fun k => by rw [xt.l1]) (vJ.neg (by omega) hp)
 | cons a t ih =>
  intro bss i out h i0 hd ho hl hp
  cases h with
  | cons h1 h2 =>
   have hlt : i.toNat < ds.length := by
    rcases Nat.lt_or_ge i.toNat ds.length with z | z
    ·exact z
    ·rw [List.drop_eq_nil_of_le z] at hd
     cases hd
   rw [List.drop_eq_getElem_cons hlt] at hd
   injection hd with e1 e2
   have er : wj ds i = a := by simp [wj, List.getD, hlt, e1]
   rename_i b bs
   rw [List.length_cons] at ho
   refine vJ.step (fun k => by rw [xt.l1]) (vJ.pos (by omega) (vJ.pos i0 (vJ.pos (by omega) ?_)))
   rw [er, zx (x := i + 1) (by omega) (by omega)]
   refine vJ.bind h1.1 ?_
   intro r hr
   rw [show r = b from hr]
   have := h1.2.1
   refine vJ.pos (by omega) (ih bs (i + 1) (out ++ b) h2 (by omega) (by rw [show (i + 1).toNat = i.toNat + 1 by omega]; exact e2) (by rw [List.length_append]; omega) hl ?_)
   rw [List.flatten_cons, ← List.append_assoc] at hp
   exact hp
theorem rowF {above row : List Int} (ha : Px above) (hr : Px row) (he : above.length = row.length) : ∃ bs : List Int, qT above row bs ∧ ∀ (l : List Int) (p q : Int), zm l → 0 ≤ p → q ≤ en l → Are l p q bs → vJ (fun k => wM.f k l p true row.length above) (· = (row, 0, q, true)) := by
 have hl := hr.1
 obtain ⟨d1, bss, h1, h2, h3, h4⟩ := modesF ha hr he 201 (-1) 0 [] ⟨by omega, by omega, .inl rfl, fun z => by omega⟩ (by omega) (by decide)
 refine ⟨bss.flatten, ⟨d1, bss, h1, by unfold vL.f; exact h2, h3, rfl⟩, fun l p q hb p0 hq hA => ?_⟩
 unfold wM.f
 exact h4 l p q hb p0 hq hA
theorem twoF {w h : Int} {p : List Int} (v : Val w h p) : ∀ (n : Nat) (y : Int), 0 ≤ y → h - y = n →
  ∃ bl : List (List Int), bl.length = n ∧ (∀ i : Nat, i < n → qT (qc w p (y + i)) (rowAt w p (y + i)) (bl.getD i [])) ∧ B01 bl.flatten ∧ bl.flatten.length ≤ n * 40200 ∧
   (∀ (out : List Int) (P : List Int × Int → Prop), out.length + n * 40200 ≤ 50000000 → vJ (fun k => (wS.f k (out ++ bl.flatten)).bind fun bt => some (bt.1, bt.2)) P → vJ (fun k => xt.l0 k out (qc w p y) ((List.range h.toNat).map fun y : Nat => rowAt w p y) (((List.range h.toNat).map fun y : Nat => rowAt w p y).length : Int) y) P) ∧
   (∀ (l : List Int) (s q : Int), zm l → 0 ≤ s → q ≤ en l → Are l s q bl.flatten → vJ (fun k => xa.l0 k l w h s true (qc w p y) y (p.take (y * w).toNat)) (· = (w, h, p, q, 0))) := by
 have hh := v.2.2.2.1
 have hh0 := v.2.1
 have w0 := v.1
 have hv := v.2.2.2.2.2.1
 have hw1 := v.2.2.1
 have hlen : (((List.range h.toNat).map fun y : Nat => rowAt w p y).length : Int) = h := by rw [List.length_map, List.length_range]; omega
 intro n
 induction n with
 | zero =>
  intro y y0 hn
  refine ⟨[], rfl, (fun i hi => by omega), (fun b hb => by cases hb), Nat.le_refl _, fun out P ho hp => ?_, fun l s q hb s0 hq hA => ?_⟩
  ·rw [List.flatten_nil, List.append_nil] at hp
   exact vJ.step (fun k => by rw [xt.l0]) (vJ.neg (by omega) hp)
  ·have hq' := hA.len
   simp only [List.flatten_nil, List.length_nil] at hq'
   refine vJ.step (fun k => by rw [xa.l0]) (vJ.neg (by omega) ?_)
   refine vJ.zL (a := (s, s, true)) (by simp [yJ.f, xA.f]) (vJ.ret ?_)
   have : y = h := by omega
   rw [List.take_of_length_le (by rw [this, Int.mul_comm]; omega)]
   congr 4
   omega
 | succ n ih =>
  intro y y0 hn
  have y1 : y < h := by omega
  obtain ⟨hpx, hw⟩ := jj v y0 y1
  obtain ⟨upx, uw, _⟩ := upAt_is v y0 y1
  obtain ⟨m0, m1, m2, m3⟩ := mulB v y0 y1
  obtain ⟨bs, r1, r2⟩ := rowF upx hpx (by omega)
  obtain ⟨bl, b1, b2, b3, b4, b5, b6⟩ := ih (y + 1) (by omega) (by omega)
  have c1 := r1.b01
  have wy : wrap64 (y + 1) = y + 1 := zx (by omega) (by omega)
  have eu : qc w p (y + 1) = rowAt w p y := by
   unfold qc
   rw [if_neg (by omega), show y + 1 - 1 = y by omega]
  rw [eu] at b5 b6
  refine ⟨bs :: bl, by rw [List.length_cons, b1], fun i hi => ?_, by rw [List.flatten_cons]; exact c1.1.app b3, by rw [List.flatten_cons, List.length_append]; have := c1.2; omega, fun out P ho hp => ?_, fun l s q hb s0 hq hA => ?_⟩
  ·cases i with
   | zero => simpa using r1
   | succ i =>
    have := b2 i (by omega)
    rw [show y + 1 + (i : Int) = y + ((i + 1 : Nat) : Int) by omega] at this
    simpa using this
  ·obtain ⟨d1, bss, q1, q2, q3, q4⟩ := r1
   refine vJ.step (fun k => by rw [xt.l0]) (vJ.pos (by omega) (vJ.pos y0 (vJ.pos (by omega) ?_)))
   rw [rd_lines y0 y1]
   refine vJ.bind q2 ?_
   intro r_ hr_
   rw [show r_ = d1 from hr_]
   refine twoP_row (rowAt w p y) _ _ y P d1 d1 bss 0 out q3 (by omega) rfl (by omega) (by omega) ?_
   rw [wy]
   refine b5 _ P (by rw [List.length_append]; have := c1.2; rw [q4] at this; omega) ?_
   rw [List.flatten_cons, q4, ← List.append_assoc] at hp
   exact hp
  ·rw [List.flatten_cons] at hA
   obtain ⟨A1, A2⟩ := hA.parts
   have l2 := A2.len
   have hone := r2 l s _ hb s0 (by omega) A1
   rw [hw] at hone
   refine vJ.step (fun k => by rw [xa.l0]) (vJ.pos (by omega) ?_)
   refine vJ.bind hone ?_
   rintro _ rfl
   have hlt : ((p.take (y * w).toNat).length : Int) = y * w := by rw [List.length_take]; omega
   have hj : p.take (y * w).toNat ++ rowAt w p y = p.take ((y + 1) * w).toNat := by
    unfold rowAt
    have : p.take (y * w).toNat = (p.take ((y + 1) * w).toNat).take (y * w).toNat := by rw [List.take_take, Nat.min_eq_left (by omega)]
    rw [this, List.take_append_drop]
   refine vJ.pos rfl (vJ.pos (show (p.take (y * w).toNat).length + (rowAt w p y).length < 140737488355328 by omega) ?_)
   rw [wy, hj]
   exact b6 l _ q hb (show 0 ≤ s + (bs.length : Int) by omega) hq A2
theorem twoBack {w h : Int} {p : List Int} (v : Val w h p) : ∃ (bl : List (List Int)) (r : List Int), (bl.length : Int) = h ∧ (∀ i : Nat, (i : Int) < h → qT (qc w p i) (rowAt w p i) (bl.getD i [])) ∧ vJ (fun k => xt.f k w h p) (· = (r, 0)) ∧ zm r ∧ (r.length : Int) = ((bl.flatten.length : Int) + 7) / 8 ∧ bl.flatten.length ≤ 8040000 ∧ Are r 0 bl.flatten.length bl.flatten ∧
  ∀ (l : List Int) (q : Int), zm l → q ≤ en l → Are l 0 q bl.flatten → vJ (fun k => ze.f k l w h) (· = (w, h, p, q, 0)) := by
 obtain ⟨w0, h0, w1, h1, wh, hlen, h01⟩ := id v
 obtain ⟨bl, b1, b2, b3, b4, b5, b6⟩ := twoF v h.toNat 0 (by omega) (by omega)
 obtain ⟨r, p1, p2, p3, p4⟩ := packP bl.flatten b3 (by omega)
 rw [show qc w p 0 = List.replicate w.toNat 0 from if_pos rfl] at b5 b6
 refine ⟨bl, r, by omega, fun i hi => ?_, ?_, p3, p2, by omega, ⟨by omega, fun j j0 j1 => by rw [Int.zero_add]; exact p4 j j0 j1⟩, fun l q hb hq hA => ?_⟩
 ·have := b2 i (by omega)
  rwa [Int.zero_add] at this
 ·unfold xt.f
  refine vJ.bind (Valid_is w h p (fun x hx => (h01 x hx).1) (by have := kp w0 h0 w1 h1; omega)) ?_
  rintro _ rfl
  refine vJ.pos (decide_eq_true v) (vJ.pos v.1 (vJ.pos (by have := v.2.2.1; omega) ?_))
  refine vJ.bind (lines_is v) ?_
  rintro _ rfl
  refine b5 [] _ (by simp; omega) ?_
  rw [List.nil_append]
  refine vJ.bind p1 ?_
  rintro _ rfl
  exact vJ.ret rfl
 ·have h2 := hb.2
  unfold ze.f xa.f
  refine vJ.bind (New_is w h 0) ?_
  rintro _ rfl
  unfold newR
  rw [if_neg (by omega), if_pos v.sid]
  have := b6 l 0 q hb (by omega) hq hA
  rw [show ((0 : Int) * w).toNat = 0 by simp, List.take_zero] at this
  exact vJ.pos rfl (vJ.pos w0 (vJ.pos (by omega) (vJ.pos (by omega) this)))
theorem ju.snd {d1 : List zq} {d2 : List jw} (h : ju MB d1 d2) : ju MBR d1 (d2.map (·.f1)) := by
 induction h with
 | nil => exact .nil
 | cons a t ih => exact .cons ⟨a.1, a.2.1, a.2.2⟩ ih
theorem refTwo_row (y w h : Int) (p : List Int) (P : List Int → Prop) (ds : List jw) (hl : ds.length ≤ 300) (hb : ∀ m ∈ ds, m.f1.length ≤ 200) : ∀ (n : Nat) (i : Int) (out : List Int), 0 ≤ i → (ds.length : Int) - i = n → out.length + n * 200 ≤ 50000000 →
  vJ (fun k => vv.l0 k (out ++ ((ds.drop i.toNat).map (·.f1)).flatten) (wrap64 (y + 1)) w h p) P → vJ (fun k => vv.l1 k out y ds (ds.length : Int) i w h p) P := by
 intro n
 induction n with
 | zero =>
  intro i out i0 hn ho hp
  rw [List.drop_eq_nil_of_le (by omega)] at hp
  simp only [List.map_nil, List.flatten_nil, List.append_nil] at hp
  exact vJ.step (fun k => by rw [vv.l1]) (vJ.neg (by omega) hp)
 | succ n ih =>
  intro i out i0 hn ho hp
  have hlt : i.toNat < ds.length := by omega
  have e : xY ds i = ds[i.toNat] := by simp [xY, List.getD, hlt]
  have := hb _ (List.getElem_mem hlt)
  rw [List.drop_eq_getElem_cons hlt, List.map_cons, List.flatten_cons, ← List.append_assoc] at hp
  refine vJ.step (fun k => by rw [vv.l1]) (vJ.pos (by omega) (vJ.pos i0 (vJ.pos (by omega) ?_)))
  rw [e, zx (x := i + 1) (by omega) (by omega)]
  refine vJ.pos (by omega) (ih (i + 1) _ (by omega) (by omega) (by rw [List.length_append]; omega) ?_)
  rw [show (i + 1).toNat = i.toNat + 1 by omega]
  exact hp
def kC (c : Int) : List Int → List Int
 | [] => []
 | n :: ns => List.replicate n.toNat c ++ kC (1 - c) ns
def ka (c : Int) : List Int → List Int
 | [] => []
 | n :: ns => rbP n c ++ ka (1 - c) ns
theorem row_in (p : List Int) (out : List Int) (c a : Int) (P : List Int → Prop) (ho : (out.length : Int) ≤ 300) (hp : (p.length : Int) ≤ 200) (a0 : 0 ≤ a) (a1 : a ≤ p.length)
  (h : vJ (fun k => xd.l0 k p (out ++ [((rl c (p.drop a.toNat) : Nat) : Int)]) ((1 - c) % 256) (a + (rl c (p.drop a.toNat) : Nat))) P) : vJ (fun k => xd.l1 k p out c a a) P := by
 refine vJ.up (L := fun k j (_ : Unit) => xd.l1 k p out c j a) (fun j _ => a ≤ j ∧ j + (rl c (p.drop j.toNat) : Nat) = a + (rl c (p.drop a.toNat) : Nat)) p.length ?_ a () a1 ⟨Int.le_refl _, rfl⟩
 intro j _ ⟨j0, hj⟩ hn ih
 refine vJ.step (fun k => by rw [xd.l1]) ?_
 have out1 : (rl c (p.drop j.toNat) : Nat) = 0 → vJ (fun k => if out.length < 17592186044416 then xd.l0 k p (out ++ [wrap64 (j - a)]) ((1 - c) % 256) j else none) P := fun z => by
  refine vJ.pos (by omega) ?_
  rw [zx (by omega) (by omega), show j - a = ((rl c (p.drop a.toNat) : Nat) : Int) by omega]
  rw [show j = a + (rl c (p.drop a.toNat) : Nat) by omega]
  exact h
 refine vJ.ite (fun j1 => vJ.pos (by omega) (vJ.ite (fun e => ?_) (fun e => out1 (rl_miss (by omega) j1 e)))) (fun j1 => out1 (rl_end (by omega)))
 have := rl_hit (by omega) j1 e
 rw [zx (x := j + 1) (by omega) (by omega)]
 exact ih () j1 ⟨by omega, by omega⟩
theorem rowP_is (p : List Int) (hp : (p.length : Int) ≤ 200) (h01 : ∀ y ∈ p, y = 0 ∨ y = 1) : ∀ (n : Nat) (out : List Int) (c a : Int), (c = 0 ∨ c = 1) → 0 ≤ a → a ≤ p.length → out.length + n ≤ 300 → left c (p.drop a.toNat) ≤ n →
  vJ (fun k => xd.l0 k p out c a) (· = out ++ jZ n c (p.drop a.toNat)) := by
 intro n
 induction n with
 | zero =>
  intro out c a hc a0 a1 ho hn
  have e : ¬ a < (p.length : Int) := fun z => by
   have := congrArg List.length (left_nil hn)
   rw [List.length_drop] at this
   have : p.length - a.toNat = 0 := this
   omega
  refine vJ.step (fun k => by rw [xd.l0]) ?_
  refine vJ.neg e (vJ.ret ?_)
  rw [jZ, List.append_nil]
 | succ n ih =>
  intro out c a hc a0 a1 ho hn
  by_cases e : a < (p.length : Int)
  ·have hd := kn a0 e
   have hle := rl_le c (p.drop a.toNat)
   rw [List.length_drop] at hle
   have hs := left_step (c := c) (x := rd p a) (xs := p.drop (a + 1).toNat) hc (fun y hy => h01 y (List.mem_of_mem_drop (show y ∈ p.drop a.toNat by rw [hd]; exact hy)))
   rw [← hd, drop2 a0] at hs
   have er : jZ (n + 1) c (p.drop a.toNat) = ((rl c (p.drop a.toNat) : Nat) : Int) :: jZ n ((1 - c) % 256) (p.drop (a + (rl c (p.drop a.toNat) : Nat)).toNat) := by
    rw [← drop2 a0, hd]
    rfl
   have i1 := ih (out ++ [((rl c (p.drop a.toNat) : Nat) : Int)]) ((1 - c) % 256) (a + (rl c (p.drop a.toNat) : Nat)) (flip01 hc) (by omega) (by omega) (by rw [List.length_append]; show out.length + 1 + n ≤ 300; omega) (by omega)
   rw [List.append_assoc] at i1
   rw [er]
   refine vJ.step (fun k => by rw [xd.l0]) ?_
   refine vJ.pos e ?_
   exact row_in p out c a _ (by omega) hp a0 a1 i1
  ·refine vJ.step (fun k => by rw [xd.l0]) ?_
   refine vJ.neg e (vJ.ret ?_)
   rw [drop_end (by omega), rle_nil, List.append_nil]
theorem cods_01 : ∀ (ns : List Int) (c : Int), (c = 0 ∨ c = 1) → (∀ n ∈ ns, 0 ≤ n ∧ n ≤ 200) → B01 (ka c ns) ∧ (ka c ns).length ≤ 64 * ns.length := by
 intro ns
 induction ns with
 | nil => intro c hc h; exact ⟨(fun b hb => by cases hb), by simp [ka]⟩
 | cons n ns ih =>
  intro c hc h
  obtain ⟨n0, n1⟩ := h n List.mem_cons_self
  obtain ⟨_, _, r3, r4⟩ := rbP_is n0 n1 hc
  obtain ⟨i1, i2⟩ := ih (1 - c) (by omega) (fun m hm => h m (List.mem_cons_of_mem _ hm))
  refine ⟨B01.app r4 i1, ?_⟩
  simp only [ka, List.length_append, List.length_cons]
  omega
theorem oneP_row (rs : List Int) (hr : ∀ x ∈ rs, 0 ≤ x ∧ x ≤ 200) (hl : rs.length ≤ 201) (rows : List (List Int)) (m y : Int) (P : List Int × Int → Prop) : ∀ (n : Nat) (i : Int) (out : List Int), 0 ≤ i → (rs.length : Int) - i = n → out.length + n * 64 ≤ 5000000 →
  vJ (fun k => xw.l0 k (out ++ ka (i % 2) (rs.drop i.toNat)) rows m (wrap64 (y + 1))) P → vJ (fun k => xw.l1 k out rows m y rs (rs.length : Int) i) P := by
 intro n
 induction n with
 | zero =>
  intro i out i0 hn ho hP
  rw [List.drop_of_length_le (by omega), ka, List.append_nil] at hP
  exact vJ.step (fun k => by rw [xw.l1]) (vJ.neg (by omega) hP)
 | succ n ih =>
  intro i out i0 hn ho hP
  have i1 : i < (rs.length : Int) := by omega
  obtain ⟨x0, x1⟩ := hr _ (kA i0 i1)
  have hp2 : i % 2 = 0 ∨ i % 2 = 1 := by omega
  obtain ⟨r1, _, r3, r4⟩ := rbP_is x0 x1 hp2
  rw [kn i0 i1] at hP
  simp only [ka] at hP
  rw [← List.append_assoc, show 1 - i % 2 = (i + 1) % 2 by omega] at hP
  refine vJ.step (fun k => by rw [xw.l1]) (vJ.pos i1 (vJ.pos i0 (vJ.pos i1 ?_)))
  rw [kF i0, zx (x := i + 1) (by omega) (by omega)]
  refine vJ.bind r1 ?_
  rintro _ rfl
  refine vJ.pos (by omega) ?_
  exact ih (i + 1) (out ++ rbP (rd rs i) (i % 2)) (by omega) (by omega) (by rw [List.length_append]; omega) hP
theorem runsP_is {l : List Int} (h : Px l) : vJ (fun k => xd.f k l) (· = jZ 201 0 l) := by
 have hleft : left 0 l ≤ 201 := by
  have := h.1
  have := left_le 0 l
  omega
 have r1 := rowP_is l h.1 h.2 201 [] 0 0 (.inl rfl) (by omega) (by omega) (by decide) hleft
 rw [List.nil_append, show l.drop ((0 : Int)).toNat = l from rfl] at r1
 unfold xd.f
 exact r1
def allB (w : Int) (p : List Int) (y : Int) : Nat → List Int
 | 0 => []
 | n + 1 => ka 0 (jZ 201 0 (rowAt w p y)) ++ allB w p (y + 1) n
theorem oneP_all {w h : Int} {p : List Int} (v : Val w h p) (P : List Int × Int → Prop) : ∀ (n : Nat) (y : Int) (out : List Int), 0 ≤ y → h - y = n → out.length + n * 12864 ≤ 5000000 →
  vJ (fun k => (wS.f k (out ++ allB w p y n)).bind fun bt => some (bt.1, bt.2)) P → vJ (fun k => xw.l0 k out ((List.range h.toNat).map fun y : Nat => rowAt w p y) (((List.range h.toNat).map fun y : Nat => rowAt w p y).length : Int) y) P := by
 have hh := v.2.2.2.1
 have hh0 := v.2.1
 have hlen : (((List.range h.toNat).map fun y : Nat => rowAt w p y).length : Int) = h := by rw [List.length_map, List.length_range]; omega
 intro n
 induction n with
 | zero =>
  intro y out y0 hn ho hP
  rw [allB, List.append_nil] at hP
  exact vJ.step (fun k => by rw [xw.l0]) (vJ.neg (by omega) hP)
 | succ n ih =>
  intro y out y0 hn ho hP
  have y1 : y < h := by omega
  obtain ⟨hpx, hw⟩ := jj v y0 y1
  have wy : wrap64 (y + 1) = y + 1 := zx (by omega) (by omega)
  have hrl := qH 201 0 (rowAt w p y)
  have hri := rle_in 201 0 _ hpx.1
  have hcl := (cods_01 (jZ 201 0 (rowAt w p y)) 0 (.inl rfl) hri).2
  rw [allB, ← List.append_assoc] at hP
  refine vJ.step (fun k => by rw [xw.l0]) (vJ.pos (by omega) (vJ.pos y0 (vJ.pos (by omega) ?_)))
  rw [rd_lines y0 y1]
  refine vJ.bind (runsP_is hpx) ?_
  rintro _ rfl
  refine oneP_row (jZ 201 0 (rowAt w p y)) hri hrl _ _ y P (jZ 201 0 (rowAt w p y)).length 0 out (by omega) (by omega) (by omega) ?_
  rw [wy, show (0 : Int) % 2 = 0 from rfl, show ((0 : Int)).toNat = 0 from rfl, List.drop_zero]
  exact ih (y + 1) _ (by omega) (by omega) (by rw [List.length_append]; omega) hP
theorem allB_01 {w h : Int} {p : List Int} (v : Val w h p) : ∀ (n : Nat) (y : Int), 0 ≤ y → h - y = n → B01 (allB w p y n) ∧ (allB w p y n).length ≤ n * 12864 := by
 intro n
 induction n with
 | zero => intro y y0 hn; exact ⟨(fun b hb => by cases hb), by simp [allB]⟩
 | succ n ih =>
  intro y y0 hn
  obtain ⟨hpx, hw⟩ := jj v y0 (show y < h by omega)
  have hrl := qH 201 0 (rowAt w p y)
  obtain ⟨c1, c2⟩ := cods_01 (jZ 201 0 (rowAt w p y)) 0 (.inl rfl) (rle_in 201 0 _ hpx.1)
  obtain ⟨i1, i2⟩ := ih (y + 1) (by omega) (by omega)
  refine ⟨B01.app c1 i1, ?_⟩
  rw [allB, List.length_append]
  omega
theorem oneP_is {w h : Int} {p : List Int} (v : Val w h p) (hl : (p.length : Int) ≤ 9223372036854775806) : ∃ r : List Int, vJ (fun k => xw.f k w h p) (· = (r, 0)) ∧ (r.length : Int) = (((allB w p 0 h.toNat).length : Int) + 7) / 8 ∧ zm r ∧ (∀ j, 0 ≤ j → j < ((allB w p 0 h.toNat).length : Int) → jq r j = rd (allB w p 0 h.toNat) j) := by
 obtain ⟨b1, b2⟩ := allB_01 v h.toNat 0 (by omega) (by have := v.2.1; omega)
 have hh := v.2.2.2.1
 obtain ⟨r, r1, r2, r3, r4⟩ := packP (allB w p 0 h.toNat) b1 (by omega)
 refine ⟨r, ?_, r2, r3, r4⟩
 unfold xw.f
 refine vJ.bind (Valid_is w h p (fun x hx => (v.2.2.2.2.2.2 x hx).1) (by omega)) ?_
 rintro _ rfl
 refine vJ.pos (decide_eq_true v) ?_
 refine vJ.bind (lines_is v) ?_
 rintro _ rfl
 refine oneP_all v _ h.toNat 0 [] (by omega) (by have := v.2.1; omega) (by show 0 + _ ≤ _; omega) ?_
 rw [List.nil_append]
 refine vJ.bind r1 ?_
 rintro _ rfl
 exact vJ.ret rfl
theorem refRow_in (p : List Int) (out : List Int) (c a : Int) (P : List Int → Prop) (ho : (out.length : Int) ≤ 300) (hp : (p.length : Int) ≤ 200) (a0 : 0 ≤ a) (a1 : a ≤ p.length)
  (h : vJ (fun k => vB.l0 k p (out ++ [((rl c (p.drop a.toNat) : Nat) : Int)]) ((1 - c) % 256) (a + (rl c (p.drop a.toNat) : Nat))) P) : vJ (fun k => vB.l1 k p out c a 0) P := by
 refine vJ.up (L := fun k j (_ : Unit) => vB.l1 k p out c a j) (fun j _ => 0 ≤ j ∧ j + (rl c (p.drop (a + j).toNat) : Nat) = (rl c (p.drop a.toNat) : Nat)) (p.length - a) ?_ 0 () (by omega) ⟨Int.le_refl _, by rw [Int.add_zero, Int.zero_add]⟩
 intro j _ ⟨j0, hj⟩ hn ih
 refine vJ.step (fun k => by rw [vB.l1]) ?_
 rw [zx (x := a + j) (by omega) (by omega)]
 have out1 : (rl c (p.drop (a + j).toNat) : Nat) = 0 → vJ (fun k => if out.length < 17592186044416 then vB.l0 k p (out ++ [j]) ((1 - c) % 256) (a + j) else none) P := fun z => by
  refine vJ.pos (by omega) ?_
  rw [show j = ((rl c (p.drop a.toNat) : Nat) : Int) by omega]
  exact h
 refine vJ.ite (fun j1 => vJ.pos (by omega) (vJ.ite (fun e => ?_) (fun e => out1 (rl_miss (by omega) j1 e)))) (fun j1 => out1 (rl_end (by omega)))
 have := rl_hit (by omega) j1 e
 rw [zx (x := j + 1) (by omega) (by omega)]
 refine ih () (by omega) ⟨by omega, ?_⟩
 rw [show a + (j + 1) = a + j + 1 by omega]
 omega
theorem row_is (p : List Int) (hp : (p.length : Int) ≤ 200) (h01 : ∀ y ∈ p, y = 0 ∨ y = 1) : ∀ (n : Nat) (out : List Int) (c a : Int), (c = 0 ∨ c = 1) → 0 ≤ a → a ≤ p.length → out.length + n ≤ 300 → left c (p.drop a.toNat) ≤ n →
  (vJ (fun k => xd.l0 k p out c a) (· = out ++ jZ n c (p.drop a.toNat))) ∧ (vJ (fun k => vB.l0 k p out c a) (· = out ++ jZ n c (p.drop a.toNat))) := by
 intro n
 induction n with
 | zero =>
  intro out c a hc a0 a1 ho hn
  have e : ¬ a < (p.length : Int) := fun z => by
   have := congrArg List.length (left_nil hn)
   rw [List.length_drop] at this
   have : p.length - a.toNat = 0 := this
   omega
  refine ⟨?_, ?_⟩
  ·refine vJ.step (fun k => by rw [xd.l0]) ?_
   refine vJ.neg e (vJ.ret ?_)
   rw [jZ, List.append_nil]
  ·refine vJ.step (fun k => by rw [vB.l0]) ?_
   refine vJ.neg e (vJ.ret ?_)
   rw [jZ, List.append_nil]
 | succ n ih =>
  intro out c a hc a0 a1 ho hn
  by_cases e : a < (p.length : Int)
  ·have hd := kn a0 e
   have hle := rl_le c (p.drop a.toNat)
   rw [List.length_drop] at hle
   have hs := left_step (c := c) (x := rd p a) (xs := p.drop (a + 1).toNat) hc (fun y hy => h01 y (List.mem_of_mem_drop (show y ∈ p.drop a.toNat by rw [hd]; exact hy)))
   rw [← hd, drop2 a0] at hs
   have er : jZ (n + 1) c (p.drop a.toNat) = ((rl c (p.drop a.toNat) : Nat) : Int) :: jZ n ((1 - c) % 256) (p.drop (a + (rl c (p.drop a.toNat) : Nat)).toNat) := by
    rw [← drop2 a0, hd]
    rfl
   obtain ⟨i1, i2⟩ := ih (out ++ [((rl c (p.drop a.toNat) : Nat) : Int)]) ((1 - c) % 256) (a + (rl c (p.drop a.toNat) : Nat)) (flip01 hc) (by omega) (by omega) (by rw [List.length_append]; show out.length + 1 + n ≤ 300; omega) (by omega)
   rw [List.append_assoc] at i1 i2
   rw [er]
   refine ⟨?_, ?_⟩
   ·refine vJ.step (fun k => by rw [xd.l0]) ?_
    refine vJ.pos e ?_
    exact row_in p out c a _ (by omega) hp a0 a1 i1
   ·refine vJ.step (fun k => by rw [vB.l0]) ?_
    refine vJ.pos e ?_
    exact refRow_in p out c a _ (by omega) hp a0 a1 i2
  ·refine ⟨?_, ?_⟩
   ·refine vJ.step (fun k => by rw [xd.l0]) ?_
    refine vJ.neg e (vJ.ret ?_)
    rw [drop_end (by omega), rle_nil, List.append_nil]
   ·refine vJ.step (fun k => by rw [vB.l0]) ?_
    refine vJ.neg e (vJ.ret ?_)
    rw [drop_end (by omega), rle_nil, List.append_nil]
theorem refRow_rle {l : List Int} (h : Px l) : vJ (fun k => vB.f k l) (· = jZ 201 0 l) := by
 have hleft : left 0 l ≤ 201 := by
  have := h.1
  have := left_le 0 l
  omega
 obtain ⟨r1, r2⟩ := row_is l h.1 h.2 201 [] 0 0 (.inl rfl) (by omega) (by omega) (by decide) hleft
 rw [List.nil_append, show l.drop ((0 : Int)).toNat = l from rfl] at r2
 unfold vB.f
 exact r2
theorem refOne_row (rs : List Int) (hr : ∀ x ∈ rs, 0 ≤ x ∧ x ≤ 200) (hl : rs.length ≤ 201) (y w h : Int) (p : List Int) (P : List Int → Prop) : ∀ (n : Nat) (i : Int) (out : List Int), 0 ≤ i → (rs.length : Int) - i = n → n ≤ 201 → out.length + n * 64 ≤ 5000000 →
  vJ (fun k => vA.l0 k (out ++ ka (i % 2) (rs.drop i.toNat)) (wrap64 (y + 1)) w h p) P → vJ (fun k => vA.l1 k out y rs (rs.length : Int) i w h p) P := by
 intro n
 induction n with
 | zero =>
  intro i out i0 hn h2 ho hP
  rw [List.drop_of_length_le (by omega), ka, List.append_nil] at hP
  exact vJ.step (fun k => by rw [vA.l1]) (vJ.neg (by omega) hP)
 | succ n ih =>
  intro i out i0 hn h2 ho hP
  have i1 : i < (rs.length : Int) := by omega
  obtain ⟨x0, x1⟩ := hr _ (kA i0 i1)
  have hp2 : i % 2 = 0 ∨ i % 2 = 1 := by omega
  have hlen := (jW x0 x1 hp2).2
  rw [kn i0 i1] at hP
  simp only [ka] at hP
  rw [← List.append_assoc, show 1 - i % 2 = (i + 1) % 2 by omega, rbP_rbT x0 x1 hp2] at hP
  refine vJ.step (fun k => by rw [vA.l1]) (vJ.pos i1 (vJ.pos i0 (vJ.pos i1 ?_)))
  rw [kF i0, zx (x := i + 1) (by omega) (by omega)]
  refine vJ.bind (jF x0 x1 hp2) ?_
  rintro _ rfl
  refine vJ.pos (by omega) ?_
  exact ih (i + 1) (out ++ kX (rd rs i) (i % 2)) (by omega) (by omega) (by omega) (by rw [List.length_append]; omega) hP
theorem refOne_all {w h : Int} {p : List Int} (v : Val w h p) : ∀ (n : Nat) (y : Int) (out : List Int), 0 ≤ y → h - y = n → out.length + n * 12864 ≤ 5000000 →
  vJ (fun k => vA.l0 k out y w h p) (· = out ++ allB w p y n) := by
 have hh := v.2.2.2.1
 intro n
 induction n with
 | zero =>
  intro y out y0 hn ho
  rw [allB, List.append_nil]
  exact vJ.step (fun k => by rw [vA.l0]) (vJ.neg (by omega) (vJ.ret rfl))
 | succ n ih =>
  intro y out y0 hn ho
  have y1 : y < h := by omega
  obtain ⟨hpx, hw⟩ := jj v y0 y1
  have b2 := refRow_rle hpx
  have wy : wrap64 (y + 1) = y + 1 := zx (by omega) (by omega)
  have hrl := qH 201 0 (rowAt w p y)
  have hri := rle_in 201 0 _ hpx.1
  have hcl := (cods_01 (jZ 201 0 (rowAt w p y)) 0 (.inl rfl) hri).2
  refine vJ.step (fun k => by rw [vA.l0]) (vJ.pos y1 (vJ.zL (qQ v y0 y1) ?_))
  refine vJ.bind b2 ?_
  rintro _ rfl
  refine refOne_row (jZ 201 0 (rowAt w p y)) hri hrl y w h p _ (jZ 201 0 (rowAt w p y)).length 0 out (by omega) (by omega) (by omega) (by omega) ?_
  rw [wy, show (0 : Int) % 2 = 0 from rfl, show ((0 : Int)).toNat = 0 from rfl, List.drop_zero, allB, ← List.append_assoc]
  exact ih (y + 1) _ (by omega) (by omega) (by rw [List.length_append]; omega)
theorem refTwo_all {w h : Int} {p : List Int} (v : Val w h p) (bl : List (List Int)) (hbl : (bl.length : Int) = h) (hb : ∀ i : Nat, (i : Int) < h → qT (qc w p i) (rowAt w p i) (bl.getD i [])) : ∀ (n : Nat) (y : Int) (out : List Int), 0 ≤ y → h - y = n → out.length + n * 40200 ≤ 50000000 →
  vJ (fun k => vv.l0 k out y w h p) (· = out ++ (bl.drop y.toNat).flatten) := by
 have hh := v.2.2.2.1
 intro n
 induction n with
 | zero =>
  intro y out y0 hn ho
  rw [List.drop_of_length_le (by omega), List.flatten_nil, List.append_nil]
  exact vJ.step (fun k => by rw [vv.l0]) (vJ.neg (by omega) (vJ.ret rfl))
 | succ n ih =>
  intro y out y0 hn ho
  have y1 : y < h := by omega
  obtain ⟨hpx, hw⟩ := jj v y0 y1
  obtain ⟨upx, uw, uo⟩ := upAt_is v y0 y1
  obtain ⟨d1, d2, m1, m2, m3, m4⟩ := modes_both upx hpx (by omega)
  have wy : wrap64 (y + 1) = y + 1 := zx (by omega) (by omega)
  have wy2 : wrap64 (y - 1) = y - 1 := zx (by omega) (by omega)
  have e := m4.len
  have hs : ∀ {a : List zq} {b : List jw}, ju MB a b → ∀ m ∈ b, m.f1.length ≤ 200 := fun h => by
   induction h with
   | nil => intro m hm; cases hm
   | cons x t ih => intro m hm; rcases List.mem_cons.mp hm with rfl | hm; exact x.2.1; exact ih m hm
  have rb : qT (qc w p y) (rowAt w p y) (d2.map (·.f1)).flatten := ⟨d1, _, m1, m2, m4.snd, rfl⟩
  have hbi := hb y.toNat (by omega)
  rw [show ((y.toNat : Nat) : Int) = y by omega] at hbi
  have hy : y.toNat < bl.length := by omega
  have eb : bl.getD y.toNat [] = (d2.map (·.f1)).flatten := qT.det hbi rb
  have el := rb.b01.2
  refine vJ.step (fun k => by rw [vv.l0]) (vJ.pos y1 ?_)
  rw [wy2]
  refine vJ.zL uo (vJ.zL (qQ v y0 y1) ?_)
  refine vJ.bind m3 ?_
  intro r_ hr_
  rw [show r_ = d2 from hr_]
  refine refTwo_row y w h p _ d2 (by omega) (hs m4) d2.length 0 out (by omega) (by omega) (by omega) ?_
  rw [wy, show ((0 : Int)).toNat = 0 from rfl, List.drop_zero, List.drop_eq_getElem_cons hy, List.flatten_cons, ← List.append_assoc, show bl[y.toNat] = (d2.map (·.f1)).flatten by rw [← eb]; simp [List.getD, hy], show y.toNat + 1 = (y + 1).toNat by omega]
  exact ih (y + 1) _ (by omega) (by omega) (by rw [List.length_append]; omega)
def ku : List Int → Int
 | [] => 0
 | n :: ns => n + ku ns
theorem row_fwd {l : List Int} (hl : zm l) {w : Int} (w1 : w ≤ 200) : ∀ (ns : List Int) (row : List Int) (i p q : Int), 0 ≤ i → i ≤ (row.length : Int) + 1 → (∀ n ∈ ns, 0 ≤ n ∧ n ≤ 200) → (∀ n ∈ ns.tail, 0 < n) → (i > 0 → ∀ n ∈ ns, 0 < n) → ((row.length : Int) + ku ns = w) → ((row.length : Int) < w ∨ ns = []) → (ns.length : Int) ≤ 300 - i → Are l p q (ka (i % 2) ns) → 0 ≤ p → q ≤ en l →
  vJ (fun k => wI.l0 k w row i l p true) (· = (row ++ kC (i % 2) ns, 0, q, true)) := by
 intro ns
 induction ns with
 | nil =>
  intro row i p q i0 i1 hn ht hp hs hw hlen h p0 hq
  simp only [ku] at hs
  have hq' := h.len
  simp only [ka, List.length_nil] at hq'
  refine vJ.step (fun k => by rw [wI.l0]) (vJ.neg (by omega) (vJ.ret ?_))
  simp only [kC, List.append_nil]
  congr 3
  omega
 | cons n ns ih =>
  intro row i p q i0 i1 hn ht hp hs hw hlen h p0 hq
  have hc : i % 2 = 0 ∨ i % 2 = 1 := by omega
  obtain ⟨n0, n1⟩ := hn n List.mem_cons_self
  simp only [ka] at h
  obtain ⟨h1, h2⟩ := h.parts
  have hl2 := h2.len
  have hl1 := h1.len
  simp only [ku] at hs
  have hpos : ∀ m ∈ ns, 0 < m := fun m hm => ht m hm
  have hsum : ∀ (ms : List Int), (∀ m ∈ ms, 0 < m) → 0 ≤ ku ms ∧ (ms ≠ [] → 0 < ku ms) := by
   intro ms
   induction ms with
   | nil => intro _; exact ⟨by simp [ku], fun z => absurd rfl z⟩
   | cons a bs ihh =>
    intro hm
    have a1 := hm a List.mem_cons_self
    have a2 := (ihh (fun m hmm => hm m (List.mem_cons_of_mem _ hmm))).1
    refine ⟨?_, fun _ => ?_⟩ <;> simp only [ku] <;> omega
  obtain ⟨s0, s1⟩ := hsum ns hpos
  have hrow : (row.length : Int) < w := hw.resolve_right (by simp)
  have hP := run_is hl hc p0 (show p ≤ en l by omega)
  rw [run_fwd n0 n1 hc h1 (by omega)] at hP
  refine vJ.step (fun k => by rw [wI.l0]) (vJ.pos hrow ?_)
  rw [kF i0]
  refine vJ.bind hP ?_
  intro r hr'
  have hr' : r = (n, 0, p + ((rbP n (i % 2)).length : Int), true) := hr'
  subst hr'
  refine vJ.pos rfl ?_
  rw [zx (x := w - (row.length : Int)) (by omega) (by omega), zx (x := i + 1) (by omega) (by simp at hlen; omega), show i % 2 % 256 = i % 2 by omega]
  have hlen2 : ((row ++ List.replicate n.toNat (i % 2)).length : Int) = (row.length : Int) + n := by simp; omega
  have fin : vJ (fun k => if n > w - (row.length : Int) then some (([] : List Int), 3, p + ((rbP n (i % 2)).length : Int), true) else ((vq.f k ([i % 2] : List Int) n).bind fun t394 => (if row.length + t394.length < 140737488355328 then (wI.l0 k w (row ++ t394) (i + 1) l (p + ((rbP n (i % 2)).length : Int)) true) else (none)))) (· = (row ++ kC (i % 2) (n :: ns), 0, q, true)) := by
   refine vJ.neg (by omega) ?_
   refine vJ.bind (rep_is n0 n1 hc) ?_
   rintro _ rfl
   refine vJ.pos (by simp; omega) ?_
   have hi : 1 - i % 2 = (i + 1) % 2 := by omega
   rw [hi] at h2
   have hn1 : i + 1 ≤ ((row ++ List.replicate n.toNat (i % 2)).length : Int) + 1 := by
    rw [hlen2]
    by_cases z : i > 0
    ·have := hp z n List.mem_cons_self
     omega
    ·omega
   have := ih (row ++ List.replicate n.toNat (i % 2)) (i + 1) (p + ((rbP n (i % 2)).length : Int)) q (by omega) hn1 (fun m hm => hn m (List.mem_cons_of_mem _ hm)) (fun m hm => hpos m (List.mem_of_mem_tail hm)) (fun _ m hm => hpos m hm) (by rw [hlen2]; omega) (by
     rw [hlen2]
     by_cases z : ns = []
     ·exact .inr z
     ·have := s1 z
      exact .inl (by omega)) (by simp at hlen; omega) h2 (by omega) hq
   refine this.mono ?_
   rintro r rfl
   simp only [kC]
   rw [List.append_assoc, hi]
  exact vJ.ite (fun z => vJ.neg (fun y => by have := hp y n List.mem_cons_self; omega) fin) (fun z => fin)
theorem exp_rle : ∀ (f : Nat) (c : Int) (l : List Int), (c = 0 ∨ c = 1) → (∀ y ∈ l, y = 0 ∨ y = 1) → left c l ≤ f → kC c (jZ f c l) = l := by
 intro f
 induction f with
 | zero =>
  intro c l hc h01 hf
  rw [left_nil hf]
  rfl
 | succ f ih =>
  intro c l hc h01 hf
  cases l with
  | nil => rfl
  | cons x xs =>
   have hs := left_step hc h01
   have e : jZ (f + 1) c (x :: xs) = (rl c (x :: xs) : Int) :: jZ f ((1 - c) % 256) ((x :: xs).drop (rl c (x :: xs))) := rfl
   rw [e]
   simp only [kC]
   have hcc : (1 - c) % 256 = 1 - c := by omega
   rw [hcc] at hs ⊢
   rw [ih (1 - c) _ (by omega) (fun y hy => h01 y (List.mem_of_mem_drop hy)) (by omega), Int.toNat_natCast, ← rl_take c (x :: xs), List.take_append_drop]
theorem rle_tail : ∀ (f : Nat) (c : Int) (l : List Int), (c = 0 ∨ c = 1) → (∀ y ∈ l, y = 0 ∨ y = 1) → (∀ n ∈ (jZ f c l).tail, 0 < n) ∧ ((∀ x t, l = x :: t → x = c) → ∀ n ∈ jZ f c l, 0 < n) := by
 intro f
 induction f with
 | zero => intro c l hc h01; exact ⟨(fun n hn => by cases hn), (fun _ n hn => by cases hn)⟩
 | succ f ih =>
  intro c l hc h01
  cases l with
  | nil => exact ⟨(fun n hn => by cases hn), (fun _ n hn => by cases hn)⟩
  | cons x xs =>
   have e : jZ (f + 1) c (x :: xs) = (rl c (x :: xs) : Int) :: jZ f ((1 - c) % 256) ((x :: xs).drop (rl c (x :: xs))) := rfl
   have hcc : (1 - c) % 256 = 1 - c := by omega
   rw [e, hcc]
   have ht := (ih (1 - c) ((x :: xs).drop (rl c (x :: xs))) (by omega) (fun y hy => h01 y (List.mem_of_mem_drop hy))).2 (fun y t hy => by
    have h1 := rl_at c (x :: xs) y t hy
    have h2 := h01 y (List.mem_of_mem_drop (by rw [hy]; exact List.mem_cons_self))
    omega)
   refine ⟨fun n hn => ht n hn, fun hx n hn => ?_⟩
   rcases List.mem_cons.mp hn with rfl | hn
   ·have := hx x xs rfl
    subst this
    simp only [rl, if_true]
    omega
   ·exact ht n hn
theorem exp_sum : ∀ (ns : List Int) (c : Int), (∀ n ∈ ns, 0 ≤ n) → ((kC c ns).length : Int) = ku ns := by
 intro ns
 induction ns with
 | nil => intro c h; rfl
 | cons n ns ih =>
  intro c h
  have := h n List.mem_cons_self
  have h2 := ih (1 - c) (fun m hm => h m (List.mem_cons_of_mem _ hm))
  simp only [kC, ku, List.length_append, List.length_replicate]
  omega
theorem rowBack {l : List Int} (hl : zm l) {r : List Int} (hr : Px r) {p q : Int} (h : Are l p q (ka 0 (jZ 201 0 r))) (p0 : 0 ≤ p) (hq : q ≤ en l) (ab : List Int) : vJ (fun k => wI.f k l p true (r.length : Int) ab) (· = (r, 0, q, true)) := by
 have hri := rle_in 201 0 r hr.1
 have hle := qH 201 0 r
 have hleft : left 0 r ≤ 201 := by
  have := hr.1
  have := left_le 0 r
  omega
 have hx := exp_rle 201 0 r (.inl rfl) hr.2 hleft
 have hs := exp_sum (jZ 201 0 r) 0 (fun n hn => (hri n hn).1)
 rw [hx] at hs
 have ht := (rle_tail 201 0 r (.inl rfl) hr.2).1
 have := row_fwd hl hr.1 (jZ 201 0 r) [] 0 p q (by omega) (by simp) hri ht (fun z => by omega) (by simp; omega) (by
  cases r with
  | nil => exact .inr rfl
  | cons a b => exact .inl (by simp <;> omega)) (by omega) h p0 hq
 rw [show (0 : Int) % 2 = 0 from rfl, List.nil_append, hx] at this
 unfold wI.f
 exact this
theorem oneBack_l0 {l : List Int} (hl : zm l) {w h : Int} {zW : List Int} (v : Val w h zW) : ∀ (n : Nat) (y p q : Int) (ab : List Int), h - y = n → 0 ≤ y → 0 ≤ p → Are l p q (allB w zW y n) → q ≤ en l →
  vJ (fun k => xb.l0 k l w h p true ab y (zW.take (y * w).toNat)) (· = (w, h, zW, q, 0)) := by
 obtain ⟨w0, h0, w1, h1, wh, hlen, h01⟩ := id v
 intro n
 induction n with
 | zero =>
  intro y p q ab hn y0 p0 ha hq
  have hp := ha.len
  simp only [allB, List.length_nil] at hp
  refine vJ.step (fun k => by rw [xb.l0]) (vJ.neg (by omega) ?_)
  refine vJ.zL (a := (p, p, true)) (by simp [yJ.f, xA.f]) (vJ.ret ?_)
  have : y = h := by omega
  rw [List.take_of_length_le (by rw [this, Int.mul_comm]; omega)]
  congr 4
  omega
 | succ n ih =>
  intro y p q ab hn y0 p0 ha hq
  obtain ⟨hpx, hw⟩ := jj v y0 (show y < h by omega)
  obtain ⟨m0, m1, m2, m3⟩ := mulB v y0 (show y < h by omega)
  rw [allB] at ha
  obtain ⟨a1, a2⟩ := ha.parts
  have hl2 := a2.len
  have hone := rowBack hl hpx a1 p0 (by omega) ab
  rw [hw] at hone
  refine vJ.step (fun k => by rw [xb.l0]) (vJ.pos (by omega) ?_)
  refine vJ.bind hone ?_
  rintro _ rfl
  have hlt : ((zW.take (y * w).toNat).length : Int) = y * w := by rw [List.length_take]; omega
  have hj : zW.take (y * w).toNat ++ rowAt w zW y = zW.take ((y + 1) * w).toNat := by
   unfold rowAt
   have : zW.take (y * w).toNat = (zW.take ((y + 1) * w).toNat).take (y * w).toNat := by rw [List.take_take, Nat.min_eq_left (by omega)]
   rw [this, List.take_append_drop]
  refine vJ.pos rfl (vJ.pos (by simp only; omega) ?_)
  rw [zx (x := y + 1) (by omega) (by omega), hj]
  exact ih (y + 1) (p + ((ka 0 (jZ 201 0 (rowAt w zW y))).length : Int)) q (rowAt w zW y) (by omega) (by omega) (by omega) a2 hq
theorem oneBack {l : List Int} (hl : zm l) {w h : Int} {zW : List Int} (v : Val w h zW) {q : Int} (ha : Are l 0 q (allB w zW 0 h.toNat)) (hq : q ≤ en l) : vJ (fun k => zf.f k l w h) (· = (w, h, zW, q, 0)) := by
 have h2 := hl.2
 obtain ⟨w0, h0, w1, h1, wh, hlen, h01⟩ := id v
 unfold zf.f xb.f
 refine vJ.bind (New_is w h 0) ?_
 rintro _ rfl
 unfold newR
 rw [if_neg (by omega), if_pos v.sid]
 have := oneBack_l0 hl v h.toNat 0 0 q (List.replicate w.toNat 0) (by omega) (by omega) (by omega) ha hq
 rw [show ((0 : Int) * w).toNat = 0 by simp, List.take_zero] at this
 exact vJ.pos rfl (vJ.pos w0 (vJ.pos (by omega) (vJ.pos (by omega) this)))
theorem isBitmap06_is (w h : Int) (p : List Int) (hp : ∀ x ∈ p, 0 ≤ x) (hl : (p.length : Int) ≤ 9223372036854775806) : vJ (fun k => xk.f k w h p) (· = decide (Val w h p)) := by
 have no : ¬ Val w h p → vJ (fun _ : Nat => some false) (· = decide (Val w h p)) := fun z => vJ.ret (decide_eq_false z).symm
 have row : vJ (fun k => wv.f k p) (· = decide (∀ x ∈ p, x ≤ 1)) := by
  unfold wv.f
  refine vJ.up (L := fun k i (_ : Unit) => wv.l0 k p (p.length : Int) i) (fun i _ => 0 ≤ i ∧ ∀ j, 0 ≤ j → j < i → rd p j ≤ 1) p.length ?_ 0 () (by omega) ⟨by omega, fun j a b => by omega⟩
  intro i _ ⟨i0, hi⟩ hn ih
  refine vJ.step (fun k => by rw [wv.l0]) ?_
  refine vJ.ite (fun i1 => vJ.pos i0 (vJ.pos i1 (vJ.ite (fun c => vJ.ret ?_) (fun c => ?_)))) (fun i1 => vJ.ret ?_)
  ·exact (decide_eq_false (fun z => by have := z _ (kA i0 i1); omega)).symm
  ·rw [zx (x := i + 1) (by omega) (by omega)]
   refine ih () i1 ⟨by omega, fun j a b => ?_⟩
   by_cases z : j = i
   ·subst z; omega
   ·exact hi j a (by omega)
  ·refine (decide_eq_true (fun x hx => ?_)).symm
   obtain ⟨n, hn', rfl⟩ := List.getElem_of_mem hx
   have := hi n (by omega) (by omega)
   rw [kY p n hn'] at this
   exact this
 unfold xk.f
 by_cases z : 0 ≤ w ∧ 0 ≤ h ∧ w ≤ 200 ∧ h ≤ 200
 ·have hm := kp z.1 z.2.1 z.2.2.1 z.2.2.2
  have wm : wrap64 (w * h) = w * h := zx (by omega) (by omega)
  refine vJ.zL (a := decide (w * h ≤ 8192)) ?_ ?_
  ·unfold xL.f
   rw [if_pos z.1, if_pos z.2.2.1, if_pos z.2.1, if_pos z.2.2.2, wm]
  ·rw [wm]
   refine vJ.ite (fun a => ?_) (fun a => no (fun v => a (decide_eq_true v.2.2.2.2.1)))
   refine vJ.ite (fun b => ?_) (fun b => no (fun v => b v.2.2.2.2.2.1))
   refine vJ.bind row ?_
   rintro _ rfl
   refine vJ.ret (decide_eq_decide.mpr ⟨fun c => ⟨z.1, z.2.1, z.2.2.1, z.2.2.2, of_decide_eq_true a, b, fun x hx => ⟨hp x hx, c x hx⟩⟩, fun v x hx => (v.2.2.2.2.2.2 x hx).2⟩)
 ·refine vJ.zL (a := false) ?_ (vJ.neg (by decide) (no (fun v => z ⟨v.1, v.2.1, v.2.2.1, v.2.2.2.1⟩)))
  unfold xL.f
  split
  ·split
   ·split
    ·split
     ·exact absurd ⟨by assumption, by assumption, by assumption, by assumption⟩ z
     ·rfl
    ·rfl
   ·rfl
  ·rfl
theorem qB (w h : Int) (l : List Int) (hl : (l.length : Int) ≤ 9223372036854775806) : vJ (fun k => vx.f k w h l w h l) (· = true) := by
 unfold vx.f
 refine vJ.pos rfl (vJ.pos rfl ?_)
 refine vJ.step (fun k => by rw [vx.j0]) (vJ.neg (by simp) ?_)
 refine vJ.up (L := fun k i (_ : Unit) => vx.l0 k (l.length : Int) i w h l w h l) (fun i _ => 0 ≤ i) l.length ?_ 0 () (by omega) (by omega)
 intro i _ i0 hn ih
 refine vJ.step (fun k => by rw [vx.l0]) ?_
 refine vJ.ite (fun i1 => vJ.pos i0 (vJ.pos i1 (vJ.pos i1 (vJ.pos rfl ?_)))) (fun _ => vJ.ret rfl)
 rw [zx (x := i + 1) (by omega) (by omega)]
 exact ih () i1 (by omega)
theorem bitI_app {r : List Int} (t : List Int) {j : Int} (j0 : 0 ≤ j) (j1 : j < en r) : jq (r ++ t) j = jq r j := by
 unfold en at j1
 unfold jq
 rw [Va _ _ _ (by omega), if_pos (by omega)]
theorem Are.behind {r bs : List Int} {q : Int} (h : Are r 0 q bs) (hq : q ≤ en r) (t : List Int) : Are (r ++ t) 0 q bs := by
 refine ⟨h.1, fun j j0 j1 => ?_⟩
 have := h.1
 rw [bitI_app t (by omega) (by omega)]
 exact h.2 j j0 j1
theorem evk {α : Type} {g : Nat → Option α} {r : α} (h : vJ g (· = r)) : ∃ K, ∀ k, K ≤ k → g k = some r := by
 obtain ⟨_, h, rfl⟩ := h
 exact h
theorem RunsBack : wH.Pure := by
 intro w h p l hw hh g2 g3
 have hl : zm l := ⟨fun y hy => wf_byt g3.2 y hy, by have := g3.1; omega⟩
 have h2 := hl.2
 have hl1 : (p.length : Int) ≤ 9223372036854775806 := by have := g2.2.1; omega
 have hb : ∀ x ∈ p, 0 ≤ x := fun x hx => (wf_byt g2.2.2 x hx).1
 obtain ⟨K0, k0⟩ := evk Awake06_is
 obtain ⟨K1, k1⟩ := evk (isBitmap06_is w h p hb hl1)
 by_cases v : Val w h p
 ·rw [decide_eq_true v] at k1
  obtain ⟨w0, h0, w1, h1, wh, hlen, h01⟩ := id v
  obtain ⟨r1, o1, o2, o3, o4⟩ := oneP_is v hl1
  obtain ⟨c1, c2⟩ := allB_01 v h.toNat 0 (by omega) (by omega)
  obtain ⟨bl, r2, b1, b2, b3, b4, b5, b6, b7, b8⟩ := twoBack v
  have e1 : Are r1 0 ((allB w p 0 h.toNat).length : Int) (allB w p 0 h.toNat) := ⟨by omega, fun j j0 j1 => by rw [Int.zero_add]; exact o4 j j0 j1⟩
  have q1 : ((allB w p 0 h.toNat).length : Int) ≤ en r1 := by unfold en; omega
  have q2 : (bl.flatten.length : Int) ≤ en r2 := by unfold en; omega
  have byt : ∀ r : List Int, zm r → r.length ≤ 2000000 → zm (r ++ l) := fun r hr hs => ⟨fun y hy => (List.mem_append.mp hy).elim (hr.1 y) (hl.1 y), by
   have := g3.1
   rw [List.length_append]
   omega⟩
  have up : ∀ r : List Int, en r ≤ en (r ++ l) := fun r => by unfold en; rw [List.length_append]; omega
  have s1 : r1.length ≤ 2000000 := by omega
  have s2 : r2.length ≤ 2000000 := by omega
  obtain ⟨K2, k2⟩ := evk o1
  obtain ⟨K3, k3⟩ := evk b3
  obtain ⟨K4, k4⟩ := evk (oneBack (byt r1 o3 s1) v (e1.behind q1 l) (Int.le_trans q1 (up r1)))
  obtain ⟨K5, k5⟩ := evk (b8 (r2 ++ l) _ (byt r2 b4 s2) (Int.le_trans q2 (up r2)) (b7.behind q2 l))
  obtain ⟨K6, k6⟩ := evk (qB w h p hl1)
  obtain ⟨K7, k7⟩ := evk (r := allB w p 0 h.toNat) (g := fun k => vA.f k w h p) (by
   unfold vA.f
   have := refOne_all v h.toNat 0 [] (by omega) (by omega) (by show 0 + _ ≤ _; omega)
   rw [List.nil_append] at this
   exact this)
  obtain ⟨K8, k8⟩ := evk (r := bl.flatten) (g := fun k => vv.f k w h p) (by
   unfold vv.f
   have := refTwo_all v bl b1 b2 h.toNat 0 [] (by omega) (by omega) (by show 0 + _ ≤ _; omega)
   rw [List.nil_append, show ((0 : Int)).toNat = 0 from rfl, List.drop_zero] at this
   exact this)
  exact ⟨K0 + K1 + K2 + K3 + K4 + K5 + K6 + K7 + K8, .inr ⟨k1 _ (by omega), r1, r2, allB w p 0 h.toNat, bl.flatten, k2 _ (by omega), k3 _ (by omega), s1, s2, k4 _ (by omega), k5 _ (by omega), k6 _ (by omega), k7 _ (by omega), k8 _ (by omega), k0 _ (by omega)⟩⟩
 ·rw [decide_eq_false v] at k1
  exact ⟨K0 + K1, .inl ⟨k1 _ (by omega), k0 _ (by omega)⟩⟩
end Go.Proofs.YtknclbodinfbeaaGreatDoor.Pure
