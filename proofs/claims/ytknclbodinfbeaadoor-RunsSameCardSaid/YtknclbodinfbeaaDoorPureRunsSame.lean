/- A row that is the one above needs a bit for each of its runs (RunsSame). -/
import Derived.Test.YtknclbodinfbeaaDoorPRunsSamex19
import Derived.Test.YtknclbodinfbeaaDoorQBase
namespace Go.Proofs.YtknclbodinfbeaaDoor.Pure
open Go.RowKit Go.Proofs.YtknclbodinfbeaaDoor.PRunsSame Go.Proofs.YtknclbodinfbeaaDoorW.PrintWords Go.Proofs.YtknclbodinfbeaaDoorW.PrintLast Go.Proofs.YtknclbodinfbeaaDoorW.PrintMore Go.Proofs.YtknclbodinfbeaaDoorW.Pu
set_option linter.unusedVariables false
set_option linter.unusedSimpArgs false
theorem vE.of {α : Type} {g : Nat → Option α} {r : α} (m : ∀ k, vP (g k) (g (k + 1))) {k : Nat} (h : g k = some r) : vE g (· = r) := ⟨r, Ev.of m h, rfl⟩
theorem drop_rd {l : List Int} {i : Int} (h0 : 0 ≤ i) (h1 : i < (l.length : Int)) : l.drop i.toNat = rd l i :: l.drop (i + 1).toNat := by
 have h : i.toNat < l.length := by omega
 rw [show (i + 1).toNat = i.toNat + 1 by omega, List.drop_eq_getElem_cons h]
 congr 1
 have := jU l i.toNat h
 rw [show ((i.toNat : Nat) : Int) = i by omega] at this
 exact this.symm
theorem drop_end {l : List Int} {i : Int} (h1 : (l.length : Int) ≤ i) : l.drop i.toNat = [] := List.drop_eq_nil_of_le (by omega)
theorem awake06 : vI.f 200 = some true := by decide +kernel
theorem Awake06_is : vE (fun k => vI.f k) (· = true) := vE.of vI.mono awake06
def js (l : List Int) (i : Int) : Int := Int.tmod (shr .u8 (rd l (i / 8)) (7 - i % 8)) 2
def zw (l : List Int) : Prop := (∀ y ∈ l, 0 ≤ y ∧ y ≤ 255) ∧ (l.length : Int) ≤ 140737488351232
def en (l : List Int) : Int := 8 * (l.length : Int)
theorem bit_good : (List.range 256).all (fun v => (List.range 8).all fun j => decide (0 ≤ shr .u8 (v : Int) (7 - (j : Int))) && decide (shr .u8 (v : Int) (7 - (j : Int)) ≤ 255) && decide (Go.bits .and .u8 (shr .u8 (v : Int) (7 - (j : Int))) 1 = Int.tmod (shr .u8 (v : Int) (7 - (j : Int))) 2) && (decide (Int.tmod (shr .u8 (v : Int) (7 - (j : Int))) 2 = 0) || decide (Int.tmod (shr .u8 (v : Int) (7 - (j : Int))) 2 = 1))) = true := by decide +kernel
theorem bit_at {l : List Int} (hl : zw l) {i : Int} (i0 : 0 ≤ i) (i1 : i < en l) :
  0 ≤ shr .u8 (rd l (i / 8)) (7 - i % 8) ∧ shr .u8 (rd l (i / 8)) (7 - i % 8) ≤ 255 ∧ Go.bits .and .u8 (shr .u8 (rd l (i / 8)) (7 - i % 8)) 1 = js l i ∧ (js l i = 0 ∨ js l i = 1) := by
 unfold en at i1
 obtain ⟨v0, v1⟩ := hl.1 _ (kz (l := l) (i := i / 8) (by omega) (by omega))
 have g := List.all_eq_true.mp (List.all_eq_true.mp bit_good (rd l (i / 8)).toNat (List.mem_range.mpr (by omega))) (i % 8).toNat (List.mem_range.mpr (by omega))
 rw [show (((rd l (i / 8)).toNat : Nat) : Int) = rd l (i / 8) by omega, show (((i % 8).toNat : Nat) : Int) = i % 8 by omega] at g
 simp only [Bool.and_eq_true, Bool.or_eq_true, decide_eq_true_iff] at g
 exact ⟨g.1.1.1, g.1.1.2, g.1.2, g.2⟩
def jr (l : List Int) (p : Int) : Nat → Int → Int
 | 0, a => a
 | n + 1, a => jr l (p + 1) n (2 * a + js l p)
theorem BitsL_is {l : List Int} (hl : zw l) (n : Nat) : ∀ (m : Nat) (j a p : Int), j + m = n → 0 ≤ j → n ≤ 32 → 0 ≤ p → p + m ≤ en l → 0 ≤ a → a < 2 ^ j.toNat →
  vE (fun k => vF.l0 k a (n : Int) j l p true) (· = (jr l p m a, 0, p + m, true)) := by
 intro m
 induction m with
 | zero =>
  intro j a p hj j0 hn p0 hp a0 a1
  refine vE.step (fun k => by rw [vF.l0]) (vE.neg (by omega) (vE.ret ?_))
  simp [jr]
 | succ m ih =>
  intro j a p hj j0 hn p0 hp a0 a1
  have h2 := hl.2
  have p1 : p < en l := by omega
  obtain ⟨s0, s1, s2, s3⟩ := bit_at hl p0 p1
  unfold en at hp p1
  have jl : (2 : Int) ^ j.toNat ≤ 2 ^ 32 := by
   have := Nat.pow_le_pow_right (n := 2) (by omega) (show j.toNat ≤ 32 by omega)
   exact_mod_cast this
  have jl' : (2 : Int) ^ 32 = 4294967296 := by decide
  refine vE.step (fun k => by rw [vF.l0]) (vE.pos (by omega) ?_)
  rw [tdiv_pos p0, tmod_pos p0, yV (x := p / 8) (by omega) (by omega), yV (x := 7 - p % 8) (by omega) (by omega), s2, yV (x := 2 * a) (by omega) (by omega), yV (x := js l p) (by omega) (by omega), yV (x := j + 1) (by omega) (by omega), yV (x := p + 1) (by omega) (by omega), yV (x := 2 * a + js l p) (by omega) (by omega)]
  refine vE.pos (by omega) (vE.pos (by omega) (vE.pos (by omega) ?_))
  have e : (2 : Int) ^ (j + 1).toNat = 2 * 2 ^ j.toNat := by rw [show (j + 1).toNat = j.toNat + 1 by omega, Int.pow_succ]; omega
  refine (ih (j + 1) (2 * a + js l p) (p + 1) (by omega) (by omega) hn (by omega) (by unfold en; omega) (by omega) (by rw [e]; omega)).mono ?_
  rintro r rfl
  rw [jr]
  congr 3
  omega
theorem Bits_is {l : List Int} (hl : zw l) {n p : Int} (n0 : 0 ≤ n) (n1 : n ≤ 32) (p0 : 0 ≤ p) (p1 : p ≤ en l) :
  vE (fun k => vF.f k l p true n) (· = if en l - p < n then (0, 6, p, true) else (jr l p n.toNat 0, 0, p + n, true)) := by
 have h2 := hl.2
 unfold vF.f
 refine vE.zz (a := (false, p, true)) rfl (vE.neg (by simp) (vE.neg (by omega) ?_))
 rw [show decide (n > 32) = false by simpa using n1]
 refine vE.step (fun k => by rw [vF.j0]) (vE.neg (by simp) ?_)
 refine vE.zz (a := (en l - p, p, true)) ?_ ?_
 ·unfold yw.f xr.f en
  unfold en at p1
  simp only [Option.bind_some, Bool.not_true, Bool.false_eq_true, if_false]
  rw [yV (x := 8 * (l.length : Int)) (by omega) (by omega), yV (by omega) (by omega)]
 ·by_cases c : en l - p < n
  ·rw [if_pos c]
   exact vE.pos (by show n > en l - p; omega) (vE.ret rfl)
  ·rw [if_neg c]
   refine vE.neg (by show ¬ n > en l - p; omega) ?_
   have := BitsL_is hl n.toNat n.toNat 0 0 p (by omega) (by omega) (by omega) p0 (by omega) (by omega) (by decide)
   rw [show ((n.toNat : Nat) : Int) = n by omega] at this
   exact this
theorem valN_bound {l : List Int} (hl : zw l) : ∀ (m : Nat) (p a : Int), 0 ≤ p → p + m ≤ en l → 0 ≤ a → 0 ≤ jr l p m a ∧ jr l p m a < (a + 1) * 2 ^ m := by
 intro m
 induction m with
 | zero => intro p a p0 hp a0; simp [jr]; omega
 | succ m ih =>
  intro p a p0 hp a0
  obtain ⟨s0, s1, s2, s3⟩ := bit_at hl (i := p) p0 (by omega)
  obtain ⟨q0, q1⟩ := ih (p + 1) (2 * a + js l p) (by omega) (by omega) (by omega)
  rw [jr]
  refine ⟨q0, Int.lt_of_lt_of_le q1 ?_⟩
  rw [Int.pow_succ, show (a + 1) * (2 ^ m * 2) = (2 * (a + 1)) * 2 ^ m by rw [Int.mul_comm ((2 : Int) ^ m) 2, ← Int.mul_assoc, Int.mul_comm (a + 1) 2]]
  exact Int.mul_le_mul_of_nonneg_right (by omega) (Int.pow_nonneg (by omega))
inductive yK where
 | leaf (i : Nat)
 | bad
 | node (a b : yK)
def yK.run (l : List Int) : yK → Int → Int × Int × Int
 | .leaf i, p => ((i : Int), 0, p)
 | .bad, p => (0, 3, p)
 | .node a b, p => if en l ≤ p then (0, 6, p) else if js l p = 0 then a.run l (p + 1) else b.run l (p + 1)
theorem yK.run_place (l : List Int) : ∀ (t : yK) (p : Int), 0 ≤ p → p ≤ en l → p ≤ (t.run l p).2.2 ∧ (t.run l p).2.2 ≤ en l := by
 intro t
 induction t with
 | leaf i => intro p h0 h1; exact ⟨Int.le_refl _, h1⟩
 | bad => intro p h0 h1; exact ⟨Int.le_refl _, h1⟩
 | node a b iha ihb =>
  intro p h0 h1
  simp only [yK.run]
  split
  ·exact ⟨Int.le_refl _, h1⟩
  ·split
   ·obtain ⟨x, y⟩ := iha (p + 1) (by omega) (by omega); exact ⟨by omega, y⟩
   ·obtain ⟨x, y⟩ := ihb (p + 1) (by omega) (by omega); exact ⟨by omega, y⟩
def dig0 : ByteArray := Utf8.encode (wrap32 (48 + wrap32 0))
def dig1 : ByteArray := Utf8.encode (wrap32 (48 + wrap32 1))
def wok (L : List ByteArray) : ByteArray → yK → Bool
 | s, .leaf i => decide (vA.f 20 L s = some (i : Int)) && (s.toList != [])
 | s, .bad => decide (vA.f 20 L s = some (-1)) && decide (vN.f 20 L s = some false)
 | s, .node a b => decide (vA.f 20 L s = some (-1)) && decide (vN.f 20 L s = some true) && decide (s.size + dig0.size ≤ 1000) && decide (s.size + dig1.size ≤ 1000) && wok L (s ++ dig0) a && wok L (s ++ dig1) b
theorem word_run {l : List Int} (hl : zw l) (L : List ByteArray) : ∀ (t : yK) (s : ByteArray) (p : Int), wok L s t = true → 0 ≤ p → p ≤ en l →
  vE (fun k => vL.l0 k L l p true s) (· = ((t.run l p).1, (t.run l p).2.1, (t.run l p).2.2, true)) := by
 intro t
 induction t with
 | leaf i =>
  intro s p hw h0 h1
  simp only [wok, Bool.and_eq_true, decide_eq_true_iff] at hw
  refine vE.step (fun k => by rw [vL.l0]) ?_
  refine vE.bind (vE.of (fun k => vA.mono L s k) hw.1) ?_
  rintro _ rfl
  refine vE.pos (by omega) ?_
  rw [hw.2]
  refine vE.step (fun k => by rw [vL.j1]) ?_
  exact vE.pos rfl (vE.ret rfl)
 | bad =>
  intro s p hw h0 h1
  simp only [wok, Bool.and_eq_true, decide_eq_true_iff] at hw
  refine vE.step (fun k => by rw [vL.l0]) ?_
  refine vE.bind (vE.of (fun k => vA.mono L s k) hw.1) ?_
  rintro _ rfl
  refine vE.neg (by omega) ?_
  refine vE.step (fun k => by rw [vL.j1]) (vE.neg (by simp) ?_)
  refine vE.bind (vE.of (fun k => vN.mono L s k) hw.2) ?_
  rintro _ rfl
  exact vE.neg (by simp) (vE.ret rfl)
 | node a b iha ihb =>
  intro s p hw h0 h1
  simp only [wok, Bool.and_eq_true, decide_eq_true_iff] at hw
  obtain ⟨⟨⟨⟨⟨w1, w2⟩, w3⟩, w4⟩, w5⟩, w6⟩ := hw
  refine vE.step (fun k => by rw [vL.l0]) ?_
  refine vE.bind (vE.of (fun k => vA.mono L s k) w1) ?_
  rintro _ rfl
  refine vE.neg (by omega) ?_
  refine vE.step (fun k => by rw [vL.j1]) (vE.neg (by simp) ?_)
  refine vE.bind (vE.of (fun k => vN.mono L s k) w2) ?_
  rintro _ rfl
  refine vE.pos rfl ?_
  refine vE.bind (Bits_is hl (n := 1) (by omega) (by omega) h0 h1) ?_
  rintro _ rfl
  by_cases c : en l ≤ p
  ·rw [if_pos (show en l - p < 1 by omega), yK.run, if_pos c]
   exact vE.neg (by simp) (vE.ret rfl)
  ·rw [if_neg (show ¬ en l - p < 1 by omega), yK.run, if_neg c]
   have hv : jr l p (Int.toNat 1) 0 = js l p := by simp [jr]
   rw [hv]
   obtain ⟨s0, s1, s2, s3⟩ := bit_at hl h0 (show p < en l by omega)
   refine vE.pos rfl ?_
   rcases s3 with s3 | s3
   ·rw [s3, if_pos rfl]
    exact vE.pos (show s.size + dig0.size ≤ 9223372036854775807 by omega) (iha (s ++ dig0) (p + 1) w5 (by omega) (by omega))
   ·rw [s3, if_neg (by omega)]
    exact vE.pos (show s.size + dig1.size ≤ 9223372036854775807 by omega) (ihb (s ++ dig1) (p + 1) w6 (by omega) (by omega))
def trU : yK := .node (.leaf 0) (.node (.leaf 1) (.node (.leaf 2) (.node (.leaf 3) (.node (.leaf 4) (.leaf 5)))))
def trC0 : yK := .node (.node (.leaf 0) (.leaf 1)) (.node (.leaf 2) (.leaf 3))
def trC1 : yK := .node (.leaf 0) (.node (.leaf 1) (.node (.leaf 2) (.leaf 3)))
theorem wokU : wok tU.2 ⟨#[]⟩ trU = true := by decide +kernel
theorem wokC0 : wok kT.2 ⟨#[]⟩ trC0 = true := by decide +kernel
theorem wokC1 : wok kR.2 ⟨#[]⟩ trC1 = true := by decide +kernel
def trW : yK := .node (.node (.node (.node (.node (.node (.bad) (.node (.leaf 2) (.leaf 8))) (.node (.leaf 3) (.leaf 7))) (.leaf 0)) (.leaf 1)) (.node (.leaf 4) (.leaf 6))) (.leaf 5)
theorem wokW : wok tW ⟨#[]⟩ trW = true := by decide +kernel
def jx (ls : List xc) (cs : List (List Int)) : Bool := decide (ls.length = cs.length) && ls.all (fun x => decide (x.f0 > 0) && decide (x.f3 = 0) && decide (0 ≤ x.f1) && decide (x.f1 ≤ 20) && decide (0 ≤ x.f2) && decide (x.f2 ≤ 1000)) && cs.all (fun c => c.all (fun b => decide (b = 0) || decide (b = 1)))
theorem kw {ls : List xc} {cs : List (List Int)} (h : jx ls cs = true) {i : Int} (i0 : 0 ≤ i) (i1 : i < (ls.length : Int)) :
  (vk ls i).f0 > 0 ∧ (vk ls i).f3 = 0 ∧ 0 ≤ (vk ls i).f1 ∧ (vk ls i).f1 ≤ 20 ∧ 0 ≤ (vk ls i).f2 ∧ (vk ls i).f2 ≤ 1000 := by
 simp only [jx, Bool.and_eq_true, List.all_eq_true, decide_eq_true_iff] at h
 have hm : vk ls i ∈ ls := by
  unfold vk
  rw [List.getD_eq_getElem?_getD, List.getElem?_eq_getElem (show i.toNat < ls.length by omega)]
  exact List.getElem_mem _
 obtain ⟨⟨⟨⟨⟨a, b⟩, c⟩, d⟩, e⟩, f⟩ := h.1.2 _ hm
 exact ⟨a, b, c, d, e, f⟩
def csU : List (List Int) := [[0], [1, 0], [1, 1, 0], [1, 1, 1, 0], [1, 1, 1, 1, 0], [1, 1, 1, 1, 1]]
def csC0 : List (List Int) := [[0, 0], [0, 1], [1, 0], [1, 1]]
def csC1 : List (List Int) := [[0], [1, 0], [1, 1, 0], [1, 1, 1]]
theorem goodU : jx tU.1 csU = true := by decide +kernel
theorem goodC0 : jx kT.1 csC0 = true := by decide +kernel
theorem goodC1 : jx kR.1 csC1 = true := by decide +kernel
def rbP (n c : Int) : List Int := (wZ.f 201 n c).getD []
def kr : Nat → Int → List Int
 | 0, _ => []
 | m + 1, e => (e / (2 ^ m : Nat) % 2) :: kr m e
theorem digs_len (m : Nat) (e : Int) : (kr m e).length = m := by
 induction m with
 | zero => rfl
 | succ m ih => simp [kr, ih]
theorem digs_add : ∀ (m k : Nat) (b x : Int), m ≤ k → kr m (b * (2 ^ k : Nat) + x) = kr m x := by
 intro m
 induction m with
 | zero => intro k b x h; rfl
 | succ m ih =>
  intro k b x h
  simp only [kr]
  rw [ih k b x (by omega)]
  congr 1
  obtain ⟨j, rfl⟩ : ∃ j, k = m + (1 + j) := ⟨k - m - 1, by omega⟩
  have e1 : ((2 ^ (m + (1 + j)) : Nat) : Int) = ((2 ^ m : Nat) : Int) * (2 * ((2 ^ j : Nat) : Int)) := by
   rw [Nat.pow_add, Nat.pow_add]; push_cast; rfl
  have hp : ((2 ^ m : Nat) : Int) ≠ 0 := by have := Nat.two_pow_pos m; omega
  rw [e1, show b * (((2 ^ m : Nat) : Int) * (2 * ((2 ^ j : Nat) : Int))) + x = x + ((2 ^ m : Nat) : Int) * (b * (2 * ((2 ^ j : Nat) : Int))) by rw [Int.add_comm]; congr 1; rw [Int.mul_left_comm], Int.add_mul_ediv_left _ _ hp]
  rw [show b * (2 * ((2 ^ j : Nat) : Int)) = 2 * (b * ((2 ^ j : Nat) : Int)) by rw [Int.mul_left_comm]]
  omega
def Are (l : List Int) (p q : Int) (bs : List Int) : Prop := q = p + bs.length ∧ ∀ j : Int, 0 ≤ j → j < (bs.length : Int) → js l (p + j) = rd bs j
theorem Are.nil (l : List Int) (p : Int) : Are l p p [] := ⟨by simp, fun j a b => by simp at b; omega⟩
theorem rd_app (a b : List Int) (j : Int) (j0 : 0 ≤ j) : rd (a ++ b) j = if j < (a.length : Int) then rd a j else rd b (j - a.length) := by
 unfold rd
 simp only [List.getD_eq_getElem?_getD]
 split
 ·rw [List.getElem?_append_left (by omega)]
 ·rw [List.getElem?_append_right (by omega), show j.toNat - a.length = (j - (a.length : Int)).toNat by omega]
theorem Are.app {l : List Int} {p q r : Int} {a b : List Int} (h : Are l p q a) (k : Are l q r b) : Are l p r (a ++ b) := by
 obtain ⟨h1, h2⟩ := h
 obtain ⟨k1, k2⟩ := k
 refine ⟨by rw [List.length_append]; omega, fun j j0 j1 => ?_⟩
 rw [List.length_append] at j1
 rw [rd_app a b j j0]
 split
 ·rename_i c; exact h2 j j0 c
 ·rename_i c
  have := k2 (j - a.length) (by omega) (by omega)
  rw [← this, h1]
  congr 1
  omega
theorem Are.cons {l : List Int} {p q b : Int} {bs : List Int} (h : js l p = b) (k : Are l (p + 1) q bs) : Are l p q (b :: bs) := by
 have h1 : Are l p (p + 1) [b] := ⟨by simp, fun j a c => by
  simp at c
  have : j = 0 := by omega
  subst this
  rw [Int.add_zero, h]
  rfl⟩
 exact h1.app k
theorem valN_add {l : List Int} : ∀ (m : Nat) (p a : Int), jr l p m a = a * (2 ^ m : Nat) + jr l p m 0 := by
 intro m
 induction m with
 | zero => intro p a; simp [jr]
 | succ m ih =>
  intro p a
  rw [jr, jr, ih (p + 1) (2 * a + js l p), ih (p + 1) (2 * 0 + js l p), Nat.pow_succ]
  push_cast
  rw [Int.add_mul, Int.add_mul]
  have : 2 * a * (2 ^ m : Int) = a * ((2 ^ m : Int) * 2) := by rw [Int.mul_comm 2 a, Int.mul_assoc, Int.mul_comm 2]
  omega
def z7 (ls : List xc) (t : yK) (l : List Int) (p : Int) : Except Int (Int × Int) :=
 if (t.run l p).2.1 = 0 then
  (if en l - (t.run l p).2.2 < (vk ls (t.run l p).1).f1 then .error 6
   else .ok ((vk ls (t.run l p).1).f2 + jr l (t.run l p).2.2 (vk ls (t.run l p).1).f1.toNat 0, (t.run l p).2.2 + (vk ls (t.run l p).1).f1))
 else .error (t.run l p).2.1
def PP (s : Except Int (Int × Int)) (r : Int × Int × Int × Bool) : Prop := match s with
 | .error e => e ≠ 0 ∧ r.2.1 = e
 | .ok v => r = (v.1, 0, v.2, true)
def yK.lt (n : Nat) : yK → Bool
 | .leaf i => decide (i < n)
 | .bad => true
 | .node a b => a.lt n && b.lt n
theorem yK.run_lt (l : List Int) (n : Nat) : ∀ (t : yK) (p : Int), t.lt n = true → (t.run l p).2.1 = 0 → 0 ≤ (t.run l p).1 ∧ (t.run l p).1 < (n : Int) := by
 intro t
 induction t with
 | leaf i => intro p h _; simp only [yK.lt, decide_eq_true_iff] at h; simp only [yK.run]; omega
 | bad => intro p h e; simp [yK.run] at e
 | node a b iha ihb =>
  intro p h e
  simp only [yK.lt, Bool.and_eq_true] at h
  simp only [yK.run] at e ⊢
  split
  ·rename_i c; rw [if_pos c] at e; simp at e
  ·rename_i c
   rw [if_neg c] at e
   split
   ·rename_i d; rw [if_pos d] at e; exact iha _ h.1 e
   ·rename_i d; rw [if_neg d] at e; exact ihb _ h.2 e
theorem jH {ls : List xc} {cs : List (List Int)} (hg : jx ls cs = true) {t : yK} (ht : t.lt ls.length = true) {l : List Int} (hl : zw l) {p : Int} (h0 : 0 ≤ p) (h1 : p ≤ en l) {v : Int × Int} (h : z7 ls t l p = .ok v) :
  0 ≤ v.1 ∧ v.1 < 1000 + 2000000 ∧ p ≤ v.2 ∧ v.2 ≤ en l := by
 unfold z7 at h
 split at h
 ·rename_i e
  obtain ⟨i0, i1⟩ := yK.run_lt l ls.length t p ht e
  obtain ⟨p0, p1⟩ := yK.run_place l t p h0 h1
  obtain ⟨g0, g1, g2, g3, g4, g5⟩ := kw hg i0 i1
  split at h
  ·cases h
  ·rename_i c
   injection h with h
   subst h
   obtain ⟨b0, b1⟩ := valN_bound hl (vk ls (t.run l p).1).f1.toNat (t.run l p).2.2 0 (by omega) (by omega) (by omega)
   have jl : (2 : Int) ^ (vk ls (t.run l p).1).f1.toNat ≤ 2 ^ 20 := by
    have := Nat.pow_le_pow_right (n := 2) (by omega) (show (vk ls (t.run l p).1).f1.toNat ≤ 20 by omega)
    exact_mod_cast this
   have jl' : (2 : Int) ^ 20 = 1048576 := by decide
   refine ⟨?_, ?_, ?_, ?_⟩ <;> simp only <;> omega
 ·cases h
theorem kv {l : List Int} (hl : zw l) {ls : List xc} {cs : List (List Int)} (hg : jx ls cs = true) {t : yK} (ht : t.lt ls.length = true) {L : List ByteArray} (hw : wok L ⟨#[]⟩ t = true) {p : Int} (h0 : 0 ≤ p) (h1 : p ≤ en l) :
  vE (fun k => vU.f k l p true ls L) (PP (z7 ls t l p)) := by
 unfold vU.f
 refine vE.bind (Q := (· = ((t.run l p).1, (t.run l p).2.1, (t.run l p).2.2, true))) (word_run hl L t ⟨#[]⟩ p hw h0 h1) ?_
 rintro _ rfl
 unfold z7
 by_cases e : (t.run l p).2.1 = 0
 ·obtain ⟨i0, i1⟩ := yK.run_lt l ls.length t p ht e
  obtain ⟨p0, p1⟩ := yK.run_place l t p h0 h1
  obtain ⟨g0, g1, g2, g3, g4, g5⟩ := kw hg i0 i1
  have nb := fun v => jH hg ht hl h0 h1 (v := v)
  unfold z7 at nb
  rw [if_pos e] at nb ⊢
  refine vE.pos e (vE.pos i0 (vE.pos i1 ?_))
  refine vE.bind (Bits_is hl (n := (vk ls (t.run l p).1).f1) (p := (t.run l p).2.2) g2 (by omega) (by omega) p1) ?_
  rintro _ rfl
  by_cases c : en l - (t.run l p).2.2 < (vk ls (t.run l p).1).f1
  ·rw [if_pos c, if_pos c]
   exact vE.ret ⟨by omega, rfl⟩
  ·rw [if_neg c] at nb
   obtain ⟨b0, b1, _, _⟩ := nb _ rfl
   rw [if_neg c, if_neg c]
   refine vE.ret ?_
   show _ = _
   simp only at b0 b1 ⊢
   rw [yV (by omega) (by omega), Int.add_comm]
 ·rw [if_neg e]
  exact vE.neg e (vE.ret ⟨e, rfl⟩)
def kQ (l : List Int) (p c : Int) : Except Int (Int × Int) := match z7 tU.1 trU l p with
 | .error e => .error e
 | .ok n => match z7 (if c = 0 then kT.1 else kR.1) (if c = 0 then trC0 else trC1) l n.2 with
  | .error e => .error e
  | .ok m => if m.1 ≥ 64 then .error 3 else .ok (n.1 * 64 + m.1, m.2)
theorem numC_ok {l : List Int} (hl : zw l) {c p : Int} (h0 : 0 ≤ p) (h1 : p ≤ en l) {v : Int × Int} (h : z7 (if c = 0 then kT.1 else kR.1) (if c = 0 then trC0 else trC1) l p = .ok v) : 0 ≤ v.1 ∧ v.1 < 1000 + 2000000 ∧ p ≤ v.2 ∧ v.2 ≤ en l := by
 by_cases c0 : c = 0
 ·simp only [if_pos c0] at h
  exact jH goodC0 (by decide) hl h0 h1 h
 ·simp only [if_neg c0] at h
  exact jH goodC1 (by decide) hl h0 h1 h
theorem run06_ok {l : List Int} (hl : zw l) {c p : Int} (h0 : 0 ≤ p) (h1 : p ≤ en l) {v : Int × Int} (h : kQ l p c = .ok v) : 0 ≤ v.1 ∧ v.1 < 200000000 ∧ p ≤ v.2 ∧ v.2 ≤ en l := by
 unfold kQ at h
 cases e1 : z7 tU.1 trU l p with
 | error e => rw [e1] at h; cases h
 | ok n =>
  rw [e1] at h
  obtain ⟨a, b, c', d⟩ := jH goodU (by decide) hl h0 h1 e1
  simp only at h
  cases e2 : z7 (if c = 0 then kT.1 else kR.1) (if c = 0 then trC0 else trC1) l n.2 with
  | error e => rw [e2] at h; cases h
  | ok m =>
   rw [e2] at h
   obtain ⟨a', b', c'', d'⟩ := numC_ok hl (by omega) d e2
   simp only at h
   split at h
   ·cases h
   ·injection h with h
    subst h
    refine ⟨?_, ?_, ?_, ?_⟩ <;> simp only <;> omega
theorem run_is {l : List Int} (hl : zw l) {c p : Int} (hc : c = 0 ∨ c = 1) (h0 : 0 ≤ p) (h1 : p ≤ en l) : vE (fun k => xm.f k l p true c) (PP (kQ l p c)) := by
 unfold xm.f yv.f kQ
 refine vE.pos hc ?_
 refine vE.bind (kv hl goodU (t := trU) (by decide) wokU h0 h1) ?_
 intro r hr
 cases e1 : z7 tU.1 trU l p with
 | error e =>
  rw [e1] at hr
  obtain ⟨hr1, hr2⟩ := hr
  exact vE.neg (by rw [hr2]; exact hr1) (vE.ret ⟨hr1, hr2⟩)
 | ok n =>
  rw [e1] at hr
  have hr : r = (n.1, 0, n.2, true) := hr
  subst hr
  obtain ⟨a, b, c', d⟩ := jH goodU (by decide) hl h0 h1 e1
  refine vE.pos rfl ?_
  have hm : vE (fun k => vU.f k l n.2 true (if c = 0 then kT.1 else kR.1) (if c = 0 then kT.2 else kR.2)) (PP (z7 (if c = 0 then kT.1 else kR.1) (if c = 0 then trC0 else trC1) l n.2)) := by
   by_cases c0 : c = 0
   ·simp only [if_pos c0]
    exact kv hl goodC0 (t := trC0) (by decide) wokC0 (by omega) d
   ·simp only [if_neg c0]
    exact kv hl goodC1 (t := trC1) (by decide) wokC1 (by omega) d
  refine vE.bind hm ?_
  intro r hr
  simp only
  cases e2 : z7 (if c = 0 then kT.1 else kR.1) (if c = 0 then trC0 else trC1) l n.2 with
  | error e =>
   rw [e2] at hr
   obtain ⟨hr1, hr2⟩ := hr
   exact vE.neg (by rw [hr2]; exact hr1) (vE.ret ⟨hr1, hr2⟩)
  | ok m =>
   rw [e2] at hr
   have hr : r = (m.1, 0, m.2, true) := hr
   subst hr
   obtain ⟨a', b', c'', d'⟩ := numC_ok hl (by omega) d e2
   refine vE.pos rfl ?_
   simp only
   refine vE.ite (fun q => vE.ret ?_) (fun q => vE.ret ?_)
   ·rw [if_pos q]
    exact ⟨by omega, rfl⟩
   ·rw [if_neg q]
    show _ = _
    rw [yV (x := n.1 * 64) (by omega) (by omega), yV (by omega) (by omega)]
def encT (ls : List xc) (cs : List (List Int)) (a : Int) : List Int := match (List.range ls.length).find? (fun (i : Nat) => decide ((vk ls i).f2 ≤ a) && decide (a < (vk ls i).f2 + 2 ^ (vk ls i).f1.toNat)) with
 | some i => cs.getD i [] ++ kr (vk ls i).f1.toNat (a - (vk ls i).f2)
 | none => []
theorem rbP_good : (List.range 201).all (fun n => decide (wZ.f 201 (n : Int) 0 = some (rbP n 0)) && decide (rbP n 0 = encT tU.1 csU ((n / 64 : Nat) : Int) ++ encT kT.1 csC0 ((n % 64 : Nat) : Int)) && decide (wZ.f 201 (n : Int) 1 = some (rbP n 1)) && decide (rbP n 1 = encT tU.1 csU ((n / 64 : Nat) : Int) ++ encT kR.1 csC1 ((n % 64 : Nat) : Int)) && decide ((rbP n 0).length ≤ 64) && decide ((rbP n 1).length ≤ 64) && (rbP n 0).all (fun b => b == 0 || b == 1) && (rbP n 1).all (fun b => b == 0 || b == 1)) = true := by decide +kernel
theorem rbP_is {n c : Int} (n0 : 0 ≤ n) (n1 : n ≤ 200) (hc : c = 0 ∨ c = 1) : vE (fun k => wZ.f k n c) (· = rbP n c) ∧ rbP n c = encT tU.1 csU (n / 64) ++ (if c = 0 then encT kT.1 csC0 (n % 64) else encT kR.1 csC1 (n % 64)) ∧ (rbP n c).length ≤ 64 ∧ ∀ b ∈ rbP n c, b = 0 ∨ b = 1 := by
 have g := List.all_eq_true.mp rbP_good n.toNat (List.mem_range.mpr (by omega))
 simp only [Bool.and_eq_true, decide_eq_true_iff, List.all_eq_true, Bool.or_eq_true, beq_iff_eq] at g
 obtain ⟨⟨⟨⟨⟨⟨⟨a1, a2⟩, a3⟩, a4⟩, a5⟩, a6⟩, a7⟩, a8⟩ := g
 have e : ((n.toNat : Nat) : Int) = n := by omega
 have e1 : ((n.toNat / 64 : Nat) : Int) = n / 64 := by omega
 have e2 : ((n.toNat % 64 : Nat) : Int) = n % 64 := by omega
 rw [e] at a1 a2 a3 a4 a5 a6 a7 a8
 rw [e1, e2] at a2 a4
 rcases hc with rfl | rfl
 ·exact ⟨vE.of (wZ.mono n 0) a1, by rw [if_pos rfl]; exact a2, a5, a7⟩
 ·exact ⟨vE.of (wZ.mono n 1) a3, by rw [if_neg (by omega)]; exact a4, a6, a8⟩
def yK.go : yK → List Int → Option (Nat × List Int)
 | .leaf i, bs => some (i, bs)
 | .bad, _ => none
 | .node _ _, [] => none
 | .node a b, x :: bs => if x = 0 then a.go bs else b.go bs
theorem yK.go_app : ∀ (t : yK) (a : List Int) (x : List Int) (i : Nat) (r : List Int), t.go a = some (i, r) → t.go (a ++ x) = some (i, r ++ x) := by
 intro t
 induction t with
 | leaf j => intro a x i r h; simp only [yK.go, Option.some.injEq, Prod.mk.injEq] at h ⊢; exact ⟨h.1, by rw [h.2]⟩
 | bad => intro a x i r h; simp [yK.go] at h
 | node s t ihs iht =>
  intro a x i r h
  cases a with
  | nil => simp [yK.go] at h
  | cons y ys =>
   simp only [List.cons_append, yK.go] at h ⊢
   split
   ·rename_i c; rw [if_pos c] at h; exact ihs ys x i r h
   ·rename_i c; rw [if_neg c] at h; exact iht ys x i r h
theorem Are.head {l : List Int} {p q b : Int} {bs : List Int} (h : Are l p q (b :: bs)) : js l p = b ∧ Are l (p + 1) q bs := by
 obtain ⟨h1, h2⟩ := h
 have h0 := h2 0 (by omega) (by simp <;> omega)
 rw [Int.add_zero] at h0
 refine ⟨h0, by simp at h1; omega, fun j a c => ?_⟩
 have := h2 (j + 1) (by omega) (by simp; omega)
 rw [show p + 1 + j = p + (j + 1) by omega, this]
 unfold rd
 rw [show (j + 1).toNat = j.toNat + 1 by omega, List.getD_cons_succ]
theorem Are.len {l : List Int} {p q : Int} {bs : List Int} (h : Are l p q bs) : q = p + bs.length := h.1
theorem run_go {l : List Int} : ∀ (t : yK) (bs : List Int) (p q : Int) (i : Nat) (r : List Int), Are l p q bs → q ≤ en l → t.go bs = some (i, r) → t.run l p = ((i : Int), 0, q - r.length) := by
 intro t
 induction t with
 | leaf j =>
  intro bs p q i r h hq hg
  simp only [yK.go, Option.some.injEq, Prod.mk.injEq] at hg
  obtain ⟨rfl, rfl⟩ := hg
  have := h.len
  simp only [yK.run]
  congr 2
  omega
 | bad => intro bs p q i r h hq hg; simp [yK.go] at hg
 | node s t ihs iht =>
  intro bs p q i r h hq hg
  cases bs with
  | nil => simp [yK.go] at hg
  | cons y ys =>
   obtain ⟨h1, h2⟩ := h.head
   have hlen := h.len
   simp only [yK.go] at hg
   simp only [yK.run]
   rw [if_neg (by simp at hlen; omega), h1]
   by_cases c : y = 0
   ·rw [if_pos c] at hg ⊢
    exact ihs ys (p + 1) q i r h2 hq hg
   ·rw [if_neg c] at hg ⊢
    exact iht ys (p + 1) q i r h2 hq hg
theorem Are.parts {l : List Int} {p r : Int} {a b : List Int} (h : Are l p r (a ++ b)) : Are l p (p + a.length) a ∧ Are l (p + a.length) r b := by
 obtain ⟨h1, h2⟩ := h
 rw [List.length_append] at h1
 refine ⟨⟨rfl, fun j j0 j1 => ?_⟩, ⟨by omega, fun j j0 j1 => ?_⟩⟩
 ·have := h2 j j0 (by rw [List.length_append]; omega)
  rw [this, rd_app a b j j0, if_pos j1]
 ·have := h2 (a.length + j) (by omega) (by rw [List.length_append]; omega)
  rw [show p + (a.length : Int) + j = p + ((a.length : Int) + j) by omega, this, rd_app a b _ (by omega), if_neg (by omega)]
  congr 1
  omega
theorem digs_val {l : List Int} : ∀ (m : Nat) (p q e : Int), 0 ≤ e → e < (2 ^ m : Nat) → Are l p q (kr m e) → jr l p m 0 = e := by
 intro m
 induction m with
 | zero => intro p q e e0 e1 h; simp [jr]; omega
 | succ m ih =>
  intro p q e e0 e1 h
  simp only [kr] at h
  obtain ⟨h1, h2⟩ := h.head
  have hp : (0 : Int) < ((2 ^ m : Nat) : Int) := by have := Nat.two_pow_pos m; omega
  have e1' : e < 2 * ((2 ^ m : Nat) : Int) := by rw [Nat.pow_succ] at e1; push_cast at e1 ⊢; omega
  have hd := Int.mul_ediv_add_emod e ((2 ^ m : Nat) : Int)
  have hm0 := Int.emod_nonneg e (show ((2 ^ m : Nat) : Int) ≠ 0 by omega)
  have hm1 := Int.emod_lt_of_pos e hp
  have hb : e / ((2 ^ m : Nat) : Int) = 0 ∨ e / ((2 ^ m : Nat) : Int) = 1 := by
   have a1 : 0 ≤ e / ((2 ^ m : Nat) : Int) := Int.ediv_nonneg e0 (by omega)
   have a2 : e / ((2 ^ m : Nat) : Int) < 2 := Int.ediv_lt_of_lt_mul hp e1'
   omega
  have hdig : kr m e = kr m (e % ((2 ^ m : Nat) : Int)) := by
   have := digs_add m m (e / ((2 ^ m : Nat) : Int)) (e % ((2 ^ m : Nat) : Int)) (Nat.le_refl _)
   rw [Int.mul_comm, hd] at this
   exact this
  rw [hdig] at h2
  have hv := ih (p + 1) q (e % ((2 ^ m : Nat) : Int)) hm0 hm1 h2
  rw [jr, valN_add m (p + 1) (2 * 0 + js l p), hv, h1]
  rcases hb with hb | hb
  ·rw [hb] at hd ⊢
   omega
  ·rw [hb] at hd ⊢
   omega
theorem num_fwd {ls : List xc} {cs : List (List Int)} {t : yK} (hi : (List.range ls.length).all (fun (i : Nat) => match t.go (cs.getD i []) with | some (j, []) => j == i | _ => false) = true) (hg : jx ls cs = true) {l : List Int} {p q e : Int} {i : Nat} (i1 : i < ls.length) (e0 : 0 ≤ e) (e1 : e < 2 ^ (vk ls i).f1.toNat) (h : Are l p q (cs.getD i [] ++ kr (vk ls i).f1.toNat e)) (hq : q ≤ en l) :
  z7 ls t l p = .ok ((vk ls i).f2 + e, q) := by
 have hgo : t.go (cs.getD i []) = some (i, []) := by
  have g := List.all_eq_true.mp hi i (List.mem_range.mpr i1)
  cases hc : t.go (cs.getD i []) with
  | none => rw [hc] at g; simp at g
  | some x =>
   obtain ⟨j, r⟩ := x
   rw [hc] at g
   cases r with
   | nil => simp only [beq_iff_eq] at g; rw [g]
   | cons a b => simp at g
 obtain ⟨g0, g1, g2, g3, g4, g5⟩ := kw hg (i := (i : Int)) (by omega) (by omega)
 have hr := run_go t _ p q i _ h hq (yK.go_app t _ (kr (vk ls i).f1.toNat e) i [] hgo)
 obtain ⟨h1, h2⟩ := h.parts
 have hl2 := h2.len
 rw [digs_len] at hl2
 rw [List.nil_append, digs_len] at hr
 have hpl : q - ((vk ls i).f1.toNat : Int) = p + ((cs.getD i []).length : Int) := by omega
 rw [hpl] at hr
 unfold z7
 rw [hr]
 simp only [if_true]
 rw [if_neg (by omega), digs_val _ _ q e e0 (by push_cast; exact e1) h2]
 congr 2
 omega
theorem goU : (List.range tU.1.length).all (fun (i : Nat) => match trU.go (csU.getD i []) with | some (j, []) => j == i | _ => false) = true := by decide +kernel
theorem goC0 : (List.range kT.1.length).all (fun (i : Nat) => match trC0.go (csC0.getD i []) with | some (j, []) => j == i | _ => false) = true := by decide +kernel
theorem goC1 : (List.range kR.1.length).all (fun (i : Nat) => match trC1.go (csC1.getD i []) with | some (j, []) => j == i | _ => false) = true := by decide +kernel
theorem enc_fwd {ls : List xc} {cs : List (List Int)} {t : yK} (hi : (List.range ls.length).all (fun (i : Nat) => match t.go (cs.getD i []) with | some (j, []) => j == i | _ => false) = true) (hg : jx ls cs = true) {l : List Int} {p q a : Int} (hs : ((List.range ls.length).find? (fun (i : Nat) => decide ((vk ls i).f2 ≤ a) && decide (a < (vk ls i).f2 + 2 ^ (vk ls i).f1.toNat))).isSome = true) (h : Are l p q (encT ls cs a)) (hq : q ≤ en l) : z7 ls t l p = .ok (a, q) := by
 unfold encT at h
 cases hf : (List.range ls.length).find? (fun (i : Nat) => decide ((vk ls i).f2 ≤ a) && decide (a < (vk ls i).f2 + 2 ^ (vk ls i).f1.toNat)) with
 | none => rw [hf] at hs; simp at hs
 | some i =>
  rw [hf] at h
  have h1 := List.find?_some hf
  have h2 := List.mem_range.mp (List.mem_of_find?_eq_some hf)
  simp only [Bool.and_eq_true, decide_eq_true_iff] at h1
  have := num_fwd hi hg h2 (show 0 ≤ a - (vk ls i).f2 by omega) (by omega) h hq
  rw [this]
  congr 2
  omega
theorem someU : (List.range 4).all (fun a => ((List.range tU.1.length).find? (fun (i : Nat) => decide ((vk tU.1 i).f2 ≤ (a : Int)) && decide ((a : Int) < (vk tU.1 i).f2 + 2 ^ (vk tU.1 i).f1.toNat))).isSome) = true := by decide +kernel
theorem someC0 : (List.range 64).all (fun a => ((List.range kT.1.length).find? (fun (i : Nat) => decide ((vk kT.1 i).f2 ≤ (a : Int)) && decide ((a : Int) < (vk kT.1 i).f2 + 2 ^ (vk kT.1 i).f1.toNat))).isSome) = true := by decide +kernel
theorem someC1 : (List.range 64).all (fun a => ((List.range kR.1.length).find? (fun (i : Nat) => decide ((vk kR.1 i).f2 ≤ (a : Int)) && decide ((a : Int) < (vk kR.1 i).f2 + 2 ^ (vk kR.1 i).f1.toNat))).isSome) = true := by decide +kernel
theorem run_fwd {l : List Int} {p q n c : Int} (n0 : 0 ≤ n) (n1 : n ≤ 200) (hc : c = 0 ∨ c = 1) (h : Are l p q (rbP n c)) (hq : q ≤ en l) : kQ l p c = .ok (n, q) := by
 obtain ⟨_, r2, _, _⟩ := rbP_is n0 n1 hc
 rw [r2] at h
 obtain ⟨h1, h2⟩ := h.parts
 have hl2 := h2.len
 have sU := List.all_eq_true.mp someU (n / 64).toNat (List.mem_range.mpr (by omega))
 rw [show (((n / 64).toNat : Nat) : Int) = n / 64 by omega] at sU
 have eU := enc_fwd goU goodU sU h1 (by omega)
 unfold kQ
 rw [eU]
 simp only
 by_cases c0 : c = 0
 ·simp only [if_pos c0] at h2 ⊢
  have sC := List.all_eq_true.mp someC0 (n % 64).toNat (List.mem_range.mpr (by omega))
  rw [show (((n % 64).toNat : Nat) : Int) = n % 64 by omega] at sC
  rw [enc_fwd goC0 goodC0 sC h2 hq]
  simp only
  rw [if_neg (by omega)]
  congr 2
  omega
 ·simp only [if_neg c0] at h2 ⊢
  have sC := List.all_eq_true.mp someC1 (n % 64).toNat (List.mem_range.mpr (by omega))
  rw [show (((n % 64).toNat : Nat) : Int) = n % 64 by omega] at sC
  rw [enc_fwd goC1 goodC1 sC h2 hq]
  simp only
  rw [if_neg (by omega)]
  congr 2
  omega
theorem rep06 : (List.range 201).all (fun n => decide (vq.f 20 [0] (n : Int) = some (List.replicate n 0)) && decide (vq.f 20 [1] (n : Int) = some (List.replicate n 1))) = true := by decide +kernel
theorem rep_is {v n : Int} (h0 : 0 ≤ n) (h1 : n ≤ 200) (hv : v = 0 ∨ v = 1) : vE (fun k => vq.f k [v] n) (· = List.replicate n.toNat v) := by
 have g := List.all_eq_true.mp rep06 n.toNat (List.mem_range.mpr (by omega))
 rw [Bool.and_eq_true, decide_eq_true_iff, decide_eq_true_iff, show ((n.toNat : Nat) : Int) = n by omega] at g
 rcases hv with rfl | rfl
 ·exact vE.of (vq.mono _ _) g.1
 ·exact vE.of (vq.mono _ _) g.2
def zZ (out : List Int) (x c : Int) : List Int := out ++ List.replicate (x - (out.length : Int)).toNat c
theorem grow06_len {out : List Int} {x c : Int} (h : (out.length : Int) ≤ x) : ((zZ out x c).length : Int) = x := by
 unfold zZ
 simp
 omega
theorem kZ {out : List Int} {x c : Int} (h : (out.length : Int) ≤ x) (hx : x ≤ 200) (hc : c = 0 ∨ c = 1) : vE (fun k => xt.f k out x c) (· = zZ out x c) := by
 unfold xt.f
 rw [show c % 256 = c by omega, yV (x := x - (out.length : Int)) (by omega) (by omega)]
 refine vE.bind (rep_is (by omega) (by omega) hc) ?_
 rintro _ rfl
 exact vE.pos (by simp; omega) (vE.ret rfl)
def wcs : List (List Int) := [[0, 0, 0, 1], [0, 0, 1], [0, 0, 0, 0, 0, 1, 0], [0, 0, 0, 0, 1, 0], [0, 1, 0], [1], [0, 1, 1], [0, 0, 0, 0, 1, 1], [0, 0, 0, 0, 0, 1, 1]]
theorem goW : (List.range 9).all (fun (i : Nat) => match trW.go (wcs.getD i []) with | some (j, []) => j == i | _ => false) = true := by decide +kernel
theorem qj {l : List Int} {i : Nat} (hi : i < 9) {p q : Int} (h : Are l p q (wcs.getD i [])) (hq : q ≤ en l) : trW.run l p = ((i : Int), 0, q) := by
 have g := List.all_eq_true.mp goW i (List.mem_range.mpr hi)
 cases hc : trW.go (wcs.getD i []) with
 | none => rw [hc] at g; simp at g
 | some x =>
  obtain ⟨j, r⟩ := x
  rw [hc] at g
  cases r with
  | nil =>
   simp only [beq_iff_eq] at g
   have := run_go trW _ p q j [] h hq hc
   rw [this, g]
   simp
  | cons a b => simp at g
theorem modeW {l : List Int} (hl : zw l) {p : Int} (p0 : 0 ≤ p) (p1 : p ≤ en l) {i q : Int} (h : trW.run l p = (i, 0, q)) : vE (fun k => vL.f k l p true tW) (· = (i, 0, q, true)) := by
 have := word_run hl tW trW ⟨#[]⟩ p wokW p0 p1
 rw [h] at this
 exact this
section
variable {l : List Int} (hl : zw l) {w : Int} (w1 : w ≤ 200) {ab : List Int} {p q a col b b2 : Int} {out : List Int} (p0 : 0 ≤ p) (p1 : p ≤ en l) (hc : col = 0 ∨ col = 1) (hm : vE (fun k => ww.f k ab a col) (· = (b, b2)))
include hl w1 p0 p1 hc hm
theorem modePass (h : trW.run l p = (0, 0, q)) (ho : (out.length : Int) ≤ b2) (hb : b2 < w) : vE (fun k => xA.f k l p true w a col ab out) (· = (0, q, true, b2, col, zZ out b2 col)) := by
 unfold xA.f
 refine vE.bind (modeW hl p0 p1 h) ?_
 rintro _ rfl
 refine vE.pos rfl ?_
 rw [show col % 256 = col by omega]
 refine vE.bind hm ?_
 rintro _ rfl
 refine vE.neg (by omega) (vE.pos rfl (vE.neg (by show ¬ b2 = w; omega) ?_))
 refine vE.bind (kZ ho (by omega) hc) ?_
 rintro _ rfl
 exact vE.ret rfl
theorem modeUp {d : Int} (d0 : -3 ≤ d) (d1 : d ≤ 3) (h : trW.run l p = (d + 5, 0, q)) (ho : (out.length : Int) ≤ b + d) (h0 : -300 ≤ b) (h1 : b ≤ 300) (ha : a < b + d) (hb : b + d ≤ w) : vE (fun k => xA.f k l p true w a col ab out) (· = (0, q, true, b + d, 1 - col, zZ out (b + d) col)) := by
 unfold xA.f
 refine vE.bind (modeW hl p0 p1 h) ?_
 rintro _ rfl
 refine vE.pos rfl ?_
 rw [show col % 256 = col by omega]
 refine vE.bind hm ?_
 rintro _ rfl
 dsimp only
 rw [yV (x := b + (d + 5)) (by omega) (by omega), yV (x := b + (d + 5) - 5) (by omega) (by omega), yV (x := 1 - col) (by omega) (by omega), show b + (d + 5) - 5 = b + d by omega]
 refine vE.neg (by omega) (vE.neg (by omega) (vE.neg (by omega) (vE.neg (by omega) ?_)))
 refine vE.bind (kZ ho (by omega) hc) ?_
 rintro _ rfl
 exact vE.ret rfl
theorem modeFlat {q1 q2 n m : Int} (h : trW.run l p = (1, 0, q1)) (hq1 : 0 ≤ q1) (hq1' : q1 ≤ en l) (hr1 : kQ l q1 col = .ok (n, q2)) (hr2 : kQ l q2 (1 - col) = .ok (m, q)) (b1 : ¬ (n = 0 ∧ a ≥ 0)) (b2' : (out.length : Int) + n + m ≤ w) (d2 : (m = 0 ∧ (out.length : Int) + n = w) ∨ (m ≠ 0 ∧ (out.length : Int) + n ≠ w)) : vE (fun k => xA.f k l p true w a col ab out) (· = (0, q, true, (out.length : Int) + n + m, col, zZ (zZ out ((out.length : Int) + n) col) ((out.length : Int) + n + m) (1 - col))) := by
 obtain ⟨n0, n1, x0, x1⟩ := run06_ok hl hq1 hq1' hr1
 obtain ⟨m0, m1, y0, y1⟩ := run06_ok hl (show 0 ≤ q2 by simp only at x0; omega) x1 hr2
 simp only at n0 n1 x0 x1 m0 m1 y0 y1
 have hP1 := run_is hl hc hq1 hq1'
 rw [hr1] at hP1
 have hP2 := run_is hl (show 1 - col = 0 ∨ 1 - col = 1 by omega) (show 0 ≤ q2 by omega) x1
 rw [hr2] at hP2
 have g1 : ((zZ out ((out.length : Int) + n) col).length : Int) = (out.length : Int) + n := grow06_len (by omega)
 unfold xA.f
 refine vE.bind (modeW hl p0 p1 h) ?_
 rintro _ rfl
 refine vE.pos rfl ?_
 rw [show col % 256 = col by omega]
 refine vE.bind hm ?_
 rintro _ rfl
 refine vE.pos rfl ?_
 refine vE.bind (Q := (· = (0, q, true, (out.length : Int) + n + m, zZ (zZ out ((out.length : Int) + n) col) ((out.length : Int) + n + m) (1 - col)))) ?_ (by rintro _ rfl; exact vE.ret rfl)
 unfold yW.f
 refine vE.bind hP1 ?_
 intro r hr
 have hr : r = (n, 0, q2, true) := hr
 subst hr
 refine vE.pos rfl ?_
 dsimp only
 rw [yV (x := (out.length : Int) + n) (by omega) (by omega), yV (x := 1 - col) (by omega) (by omega)]
 refine vE.neg b1 (vE.neg (by omega) ?_)
 refine vE.bind hP2 ?_
 intro r hr
 have hr : r = (m, 0, q, true) := hr
 subst hr
 refine vE.pos rfl ?_
 dsimp only
 rw [yV (x := w - ((out.length : Int) + n)) (by omega) (by omega), yV (x := (out.length : Int) + n + m) (by omega) (by omega)]
 refine vE.neg (by omega) (vE.pos d2 ?_)
 refine vE.bind (kZ (by omega) (by omega) hc) ?_
 rintro _ rfl
 refine vE.bind (kZ (by omega) (by omega) (show 1 - col = 0 ∨ 1 - col = 1 by omega)) ?_
 rintro _ rfl
 exact vE.ret rfl
end
def Px (l : List Int) : Prop := (l.length : Int) ≤ 200 ∧ ∀ y ∈ l, y = 0 ∨ y = 1
theorem Px.at {l : List Int} (h : Px l) {i : Int} (i0 : 0 ≤ i) (i1 : i < (l.length : Int)) : rd l i = 0 ∨ rd l i = 1 := h.2 _ (kz i0 i1)
theorem vE.det {α : Type} {g : Nat → Option α} {a b : α} (h : vE g (· = a)) (k : vE g (· = b)) : a = b := by
 obtain ⟨r, ⟨K, h⟩, rfl⟩ := h
 obtain ⟨s, ⟨L, k⟩, rfl⟩ := k
 exact Option.some.inj ((h (max K L) (by omega)).symm.trans (k (max K L) (by omega)))
theorem chg_l0 {l : List Int} (h : Px l) (c : Int) : ∀ (n : Nat) (x : Int), 0 ≤ x → x ≤ l.length → (l.length : Int) - x = n → ∃ b : Int, x ≤ b ∧ b ≤ l.length ∧ (∀ j, x ≤ j → j < b → rd l j ≠ c) ∧ (b < l.length → rd l b = c) ∧ vE (fun k => vQ.l0 k l c x) (· = b) := by
 have hl := h.1
 have mnx : ∀ x : Int, x ≤ (l.length : Int) → mn x (l.length : Int) = x := fun x hx => by
  unfold mn
  split <;> omega
 intro n
 induction n with
 | zero =>
  intro x x0 x1 hn
  refine ⟨x, by omega, x1, fun j _ _ => by omega, fun _ => by omega, ?_⟩
  exact vE.step (fun k => by rw [vQ.l0]) (vE.neg (by omega) (vE.ret (mnx x x1)))
 | succ n ih =>
  intro x x0 x1 hn
  have hx : x < (l.length : Int) := by omega
  by_cases e : rd l x = c
  ·refine ⟨x, by omega, x1, fun j _ _ => by omega, fun _ => e, ?_⟩
   exact vE.step (fun k => by rw [vQ.l0]) (vE.pos hx (vE.pos x0 (vE.pos e (vE.ret (mnx x x1)))))
  ·obtain ⟨b, h1, h2, h3, h4, h5⟩ := ih (x + 1) (by omega) (by omega) (by omega)
   refine ⟨b, by omega, h2, fun j j0 j1 => ?_, h4, ?_⟩
   ·by_cases z : j = x
    ·subst z; exact e
    ·exact h3 j (by omega) j1
   ·refine vE.step (fun k => by rw [vQ.l0]) (vE.pos hx (vE.pos x0 (vE.neg e ?_)))
    rw [yV (x := x + 1) (by omega) (by omega)]
    exact h5
theorem chg_is {l : List Int} (h : Px l) (c a : Int) (a0 : -1 ≤ a) (a1 : a ≤ l.length) : ∃ b : Int, (a < b ∨ b = l.length) ∧ b ≤ l.length ∧ (∀ j, a < j → j < b → rd l j ≠ c) ∧ (b < l.length → rd l b = c) ∧ vE (fun k => vQ.f k l a c) (· = b) := by
 have hl := h.1
 unfold vQ.f
 rw [yV (x := a + 1) (by omega) (by omega)]
 by_cases z : a = l.length
 ·refine ⟨l.length, .inr rfl, Int.le_refl _, fun j _ _ => by omega, fun _ => by omega, ?_⟩
  refine vE.step (fun k => by rw [vQ.l0]) (vE.neg (by omega) (vE.ret ?_))
  unfold mn
  split <;> omega
 ·obtain ⟨b, h1, h2, h3, h4, h5⟩ := chg_l0 h c (l.length - (a + 1)).toNat (a + 1) (by omega) (by omega) (by omega)
  exact ⟨b, .inl (by omega), h2, fun j j0 j1 => h3 j (by omega) j1, h4, h5⟩
def At06 (row : List Int) (a c : Int) : Prop := -1 ≤ a ∧ a ≤ row.length ∧ (c = 0 ∨ c = 1) ∧ (0 ≤ a → a < row.length → rd row a = c)
theorem rd_take (l : List Int) (n : Nat) (i : Int) (i0 : 0 ≤ i) (i1 : i < n) : rd (l.take n) i = rd l i := by
 have : i.toNat < n := by omega
 simp [rd, List.getD, List.getElem?_take, this]
theorem jM {row : List Int} {a c x : Int} (m0 : 0 ≤ a) (hx : a ≤ x) (x1 : x ≤ row.length) (h : ∀ j, a ≤ j → j < x → rd row j = c) : zZ (row.take a.toNat) x c = row.take x.toNat := by
 unfold zZ
 have hl : (row.take a.toNat).length = a.toNat := by rw [List.length_take]; omega
 apply rd_ext
 ·rw [List.length_append, List.length_replicate, hl, List.length_take]; omega
 ·intro i i0 i1
  rw [List.length_append, List.length_replicate, hl] at i1
  rw [rd_app _ _ i i0, hl, rd_take row x.toNat i i0 (by omega)]
  split
  ·exact rd_take row _ i i0 (by omega)
  ·rw [jy _ _ _ (by omega) (by omega), h i (by omega) (by omega)]
theorem take_len {row : List Int} {a : Int} (a0 : 0 ≤ a) (a1 : a ≤ row.length) : ((row.take a.toNat).length : Int) = a := by rw [List.length_take]; omega
def kK (n c : Int) : List Int := (wo.f 201 n c).getD []
theorem rbT_good : (List.range 201).all (fun n => decide (wo.f 201 (n : Int) 0 = some (kK n 0) ∧ (kK n 0).length ≤ 64) && decide (wo.f 201 (n : Int) 1 = some (kK n 1) ∧ (kK n 1).length ≤ 64)) = true := by decide +kernel
theorem jT {n c : Int} (n0 : 0 ≤ n) (n1 : n ≤ 200) (hc : c = 0 ∨ c = 1) : wo.f 201 n c = some (kK n c) ∧ (kK n c).length ≤ 64 := by
 have g := List.all_eq_true.mp rbT_good n.toNat (List.mem_range.mpr (by omega))
 rw [Bool.and_eq_true, decide_eq_true_iff, decide_eq_true_iff, show ((n.toNat : Nat) : Int) = n by omega] at g
 rcases hc with rfl | rfl
 ·exact g.1
 ·exact g.2
theorem jS {n c : Int} (n0 : 0 ≤ n) (n1 : n ≤ 200) (hc : c = 0 ∨ c = 1) : vE (fun k => wo.f k n c) (· = kK n c) := vE.of (fun k => wo.mono _ _ k) (jT n0 n1 hc).1
theorem at_is {l : List Int} (h : Px l) {i : Int} (i0 : 0 ≤ i) (i1 : i < (l.length : Int)) : xg.f l i = some (rd l i) := by
 have := h.at i0 i1
 unfold xg.f
 rw [if_neg (by omega), if_pos i0, if_pos i1, yV (by omega) (by omega)]
theorem first_pair {l : List Int} (h : Px l) (c : Int) : ∀ (n : Nat) (x : Int), 0 ≤ x → (l.length : Int) + 1 - x = n → ∃ b : Int, (x ≤ b ∨ b = l.length) ∧ b ≤ l.length ∧ vE (fun k => vQ.l0 k l c x) (· = b) ∧ vE (fun k => vC.l0 k l c x) (· = b) := by
 have hl := h.1
 have fin : ∀ x : Int, 0 ≤ x → ¬ x < (l.length : Int) → ∃ b : Int, (x ≤ b ∨ b = l.length) ∧ b ≤ l.length ∧ vE (fun k => vQ.l0 k l c x) (· = b) ∧ vE (fun k => vC.l0 k l c x) (· = b) := fun x x0 hx => by
  refine ⟨l.length, .inr rfl, Int.le_refl _, ?_, ?_⟩
  ·refine vE.step (fun k => by rw [vQ.l0]) (vE.neg hx (vE.ret ?_))
   unfold mn
   split <;> omega
  ·exact vE.step (fun k => by rw [vC.l0]) (vE.neg hx (vE.ret rfl))
 intro n
 induction n with
 | zero => exact fun x x0 hn => fin x x0 (by omega)
 | succ n ih =>
  intro x x0 hn
  by_cases hx : x < (l.length : Int)
  ·by_cases e : rd l x = c
   ·refine ⟨x, .inl (Int.le_refl _), by omega, ?_, ?_⟩
    ·refine vE.step (fun k => by rw [vQ.l0]) (vE.pos hx (vE.pos x0 (vE.pos e (vE.ret ?_))))
     unfold mn
     split <;> omega
    ·refine vE.step (fun k => by rw [vC.l0]) (vE.pos hx (vE.zz (at_is h x0 hx) ?_))
     exact vE.pos e (vE.ret rfl)
   ·obtain ⟨b, h1, h2, h3, h4⟩ := ih (x + 1) (by omega) (by omega)
    refine ⟨b, by omega, h2, ?_, ?_⟩
    ·refine vE.step (fun k => by rw [vQ.l0]) (vE.pos hx (vE.pos x0 (vE.neg e ?_)))
     rw [yV (x := x + 1) (by omega) (by omega)]
     exact h3
    ·refine vE.step (fun k => by rw [vC.l0]) (vE.pos hx (vE.zz (at_is h x0 hx) (vE.neg e ?_)))
     rw [yV (x := x + 1) (by omega) (by omega)]
     exact h4
  ·exact fin x x0 hx
theorem ja {l : List Int} (h : Px l) (c a : Int) (a0 : -1 ≤ a) (a1 : a ≤ l.length) : ∃ b : Int, (a < b ∨ b = l.length) ∧ b ≤ l.length ∧ vE (fun k => vQ.f k l a c) (· = b) ∧ vE (fun k => vC.f k l a c) (· = b) := by
 have hl := h.1
 obtain ⟨b, h1, h2, h3, h4⟩ := first_pair h c (l.length + 1 - (a + 1)).toNat (a + 1) (by omega) (by omega)
 refine ⟨b, by omega, h2, ?_, ?_⟩
 ·unfold vQ.f
  rw [yV (x := a + 1) (by omega) (by omega)]
  exact h3
 ·unfold vC.f
  rw [yV (x := a + 1) (by omega) (by omega)]
  exact h4
theorem marks_pair {l : List Int} (h : Px l) (c : Int) : ∀ (n : Nat) (x : Int), 0 ≤ x → x ≤ l.length → (l.length : Int) - x = n → ∃ b b2 : Int, x ≤ b ∧ b ≤ l.length ∧ (b < b2 ∨ b2 = l.length) ∧ b2 ≤ l.length ∧
  vE (fun k => ww.l0 k l c x) (· = (b, b2)) ∧ vE (fun k => vK.l0 k l c x) (· = b) ∧ vE (fun k => vC.f k l b c) (· = b2) := by
 have hl := h.1
 have mnx : ∀ x : Int, x ≤ (l.length : Int) → mn x (l.length : Int) = x := fun x hx => by
  unfold mn
  split <;> omega
 intro n
 induction n with
 | zero =>
  intro x x0 x1 hn
  obtain ⟨b2, h1, h2, h3, h4⟩ := ja h c x (by omega) x1
  refine ⟨x, b2, Int.le_refl _, x1, h1, h2, ?_, ?_, h4⟩
  ·refine vE.step (fun k => by rw [ww.l0]) (vE.neg (by omega) ?_)
   rw [mnx x x1]
   refine vE.bind h3 ?_
   rintro _ rfl
   exact vE.ret rfl
  ·refine vE.step (fun k => by rw [vK.l0]) (vE.neg (by omega) (vE.ret ?_))
   show (l.length : Int) = x
   omega
 | succ n ih =>
  intro x x0 x1 hn
  have hx : x < (l.length : Int) := by omega
  have stop : rd l x ≠ c → (if x > 0 then rd l (x - 1) else 0) = c → ∃ b b2 : Int, x ≤ b ∧ b ≤ l.length ∧ (b < b2 ∨ b2 = l.length) ∧ b2 ≤ l.length ∧
    vE (fun k => ww.l0 k l c x) (· = (b, b2)) ∧ vE (fun k => vK.l0 k l c x) (· = b) ∧ vE (fun k => vC.f k l b c) (· = b2) := fun e1 e2 => by
   obtain ⟨b2, h1, h2, h3, h4⟩ := ja h c x (by omega) x1
   refine ⟨x, b2, Int.le_refl _, x1, h1, h2, ?_, ?_, h4⟩
   ·refine vE.step (fun k => by rw [ww.l0]) (vE.pos hx ?_)
    have last : vE (fun k => (vQ.f k l (mn x (l.length : Int)) c).bind fun t => some (mn x (l.length : Int), t)) (· = (x, b2)) := by
     rw [mnx x x1]
     refine vE.bind h3 ?_
     rintro _ rfl
     exact vE.ret rfl
    refine vE.ite (fun xp => ?_) (fun xn => ?_)
    ·rw [if_pos xp] at e2
     rw [yV (x := x - 1) (by omega) (by omega)]
     exact vE.pos (by omega) (vE.pos (by omega) (vE.pos x0 (vE.neg e1 (vE.pos e2 last))))
    ·rw [if_neg xn] at e2
     exact vE.pos x0 (vE.neg e1 (vE.pos e2 last))
   ·refine vE.step (fun k => by rw [vK.l0]) (vE.pos hx (vE.zz (at_is h x0 hx) (vE.neg e1 ?_)))
    rw [yV (x := x - 1) (by omega) (by omega)]
    by_cases xp : x > 0
    ·rw [if_pos xp] at e2
     refine vE.zz (at_is h (by omega) (by omega)) ?_
     exact vE.pos e2 (vE.ret rfl)
    ·rw [if_neg xp] at e2
     refine vE.zz (a := 0) ?_ ?_
     ·unfold xg.f
      rw [if_pos (by omega)]
     ·exact vE.pos e2 (vE.ret rfl)
  have on : (rd l x = c ∨ (if x > 0 then rd l (x - 1) else 0) ≠ c) → ∃ b b2 : Int, x ≤ b ∧ b ≤ l.length ∧ (b < b2 ∨ b2 = l.length) ∧ b2 ≤ l.length ∧
    vE (fun k => ww.l0 k l c x) (· = (b, b2)) ∧ vE (fun k => vK.l0 k l c x) (· = b) ∧ vE (fun k => vC.f k l b c) (· = b2) := fun e => by
   obtain ⟨b, b2, g1, g2, g3, g4, g5, g6, g7⟩ := ih (x + 1) (by omega) (by omega) (by omega)
   refine ⟨b, b2, by omega, g2, g3, g4, ?_, ?_, g7⟩
   ·refine vE.step (fun k => by rw [ww.l0]) (vE.pos hx ?_)
    rw [yV (x := x + 1) (by omega) (by omega)]
    refine vE.ite (fun xp => ?_) (fun xn => ?_)
    ·rw [if_pos xp] at e
     rw [yV (x := x - 1) (by omega) (by omega)]
     exact vE.pos (by omega) (vE.pos (by omega) (vE.pos x0 (vE.ite (fun _ => g5) (fun e1 => vE.neg (e.resolve_left e1) g5))))
    ·rw [if_neg xn] at e
     exact vE.pos x0 (vE.ite (fun _ => g5) (fun e1 => vE.neg (e.resolve_left e1) g5))
   ·refine vE.step (fun k => by rw [vK.l0]) (vE.pos hx (vE.zz (at_is h x0 hx) ?_))
    rw [yV (x := x + 1) (by omega) (by omega), yV (x := x - 1) (by omega) (by omega)]
    refine vE.ite (fun _ => g6) (fun e1 => ?_)
    have e2 := e.resolve_left e1
    by_cases xp : x > 0
    ·rw [if_pos xp] at e2
     exact vE.zz (at_is h (by omega) (by omega)) (vE.neg e2 g6)
    ·rw [if_neg xp] at e2
     refine vE.zz (a := 0) ?_ (vE.neg e2 g6)
     unfold xg.f
     rw [if_pos (by omega)]
  by_cases e1 : rd l x = c
  ·exact on (.inl e1)
  ·by_cases e2 : (if x > 0 then rd l (x - 1) else 0) = c
   ·exact stop e1 e2
   ·exact on (.inr e2)
theorem marks_is {l : List Int} (h : Px l) (c a : Int) (a0 : -1 ≤ a) (a1 : a < l.length) : ∃ b b2 : Int, a < b ∧ b ≤ l.length ∧ (b < b2 ∨ b2 = l.length) ∧ b2 ≤ l.length ∧
  vE (fun k => ww.f k l a c) (· = (b, b2)) ∧ vE (fun k => vK.f k l a c) (· = b) ∧ vE (fun k => vC.f k l b c) (· = b2) := by
 have hl := h.1
 obtain ⟨b, b2, g1, g2, g3, g4, g5, g6, g7⟩ := marks_pair h c (l.length - (a + 1)).toNat (a + 1) (by omega) (by omega) (by omega)
 refine ⟨b, b2, by omega, g2, g3, g4, ?_, ?_, g7⟩
 ·unfold ww.f
  rw [yV (x := a + 1) (by omega) (by omega)]
  exact g5
 ·unfold vK.f
  rw [yV (x := a + 1) (by omega) (by omega)]
  exact g6
theorem bits_pass : vE (fun k => vz.f k (⟨#[48, 48, 48, 49]⟩ : ByteArray)) (· = [0, 0, 0, 1]) := vE.of (fun k => vz.mono _ k) (show vz.f 20 (⟨#[48, 48, 48, 49]⟩ : ByteArray) = some [0, 0, 0, 1] by decide +kernel)
theorem bits_flat : vE (fun k => vz.f k (⟨#[48, 48, 49]⟩ : ByteArray)) (· = [0, 0, 1]) := vE.of (fun k => vz.mono _ k) (show vz.f 20 (⟨#[48, 48, 49]⟩ : ByteArray) = some [0, 0, 1] by decide +kernel)
def upB (d : Int) : List Int := ((xE.f d).bind fun s => vz.f 20 s).getD []
theorem upB_good : (List.range 7).all (fun n => decide (((xE.f ((n : Int) - 3)).bind fun s => vz.f 20 s) = some (upB ((n : Int) - 3)) ∧ (upB ((n : Int) - 3)).length ≤ 64)) = true := by decide +kernel
theorem upB_is {d : Int} (d0 : -3 ≤ d) (d1 : d ≤ 3) : ((xE.f d).bind fun s => vz.f 20 s) = some (upB d) ∧ (upB d).length ≤ 64 := by
 have g := List.all_eq_true.mp upB_good (d + 3).toNat (List.mem_range.mpr (by omega))
 rw [decide_eq_true_iff, show (((d + 3).toNat : Nat) : Int) - 3 = d by omega] at g
 exact g
inductive jb {α β : Type} (R : α → β → Prop) : List α → List β → Prop
 | nil : jb R [] []
 | cons {a : α} {b : β} {l : List α} {m : List β} (h : R a b) (t : jb R l m) : jb R (a :: l) (b :: m)
theorem kF : (List.range 201).all (fun n => decide (wZ.f 201 (n : Int) 0 = some (kK n 0)) && decide (wZ.f 201 (n : Int) 1 = some (kK n 1)) && (kK n 0).all (fun b => b == 0 || b == 1) && (kK n 1).all (fun b => b == 0 || b == 1)) = true := by decide +kernel
theorem ky {n c : Int} (n0 : 0 ≤ n) (n1 : n ≤ 200) (hc : c = 0 ∨ c = 1) : vE (fun k => wZ.f k n c) (· = kK n c) := by
 have g := List.all_eq_true.mp kF n.toNat (List.mem_range.mpr (by omega))
 simp only [Bool.and_eq_true, decide_eq_true_iff, show ((n.toNat : Nat) : Int) = n by omega] at g
 rcases hc with rfl | rfl
 ·exact vE.of (fun k => wZ.mono _ _ k) g.1.1.1
 ·exact vE.of (fun k => wZ.mono _ _ k) g.1.1.2
theorem rbT_01 {n c : Int} (n0 : 0 ≤ n) (n1 : n ≤ 200) (hc : c = 0 ∨ c = 1) : ∀ b ∈ kK n c, b = 0 ∨ b = 1 := by
 have g := List.all_eq_true.mp kF n.toNat (List.mem_range.mpr (by omega))
 simp only [Bool.and_eq_true, show ((n.toNat : Nat) : Int) = n by omega] at g
 intro b hb
 rcases hc with rfl | rfl
 ·simpa using List.all_eq_true.mp g.1.2 b hb
 ·simpa using List.all_eq_true.mp g.2 b hb
theorem list_flat : xo.f 20 (⟨#[48, 48, 49]⟩ : ByteArray) = some [0, 0, 1] := by decide +kernel
theorem qp : we.f 20 (⟨#[112, 97, 115, 115]⟩ : ByteArray) 0 0 0 0 = some [0, 0, 0, 1] := by decide +kernel
theorem mbits_up_good : (List.range 7).all (fun n => decide (we.f 20 (⟨#[117, 112]⟩ : ByteArray) ((n : Int) - 3) 0 0 0 = some (upB ((n : Int) - 3))) && (upB ((n : Int) - 3)).all (fun b => b == 0 || b == 1)) = true := by decide +kernel
theorem mbits_up {d : Int} (d0 : -3 ≤ d) (d1 : d ≤ 3) : we.f 20 (⟨#[117, 112]⟩ : ByteArray) d 0 0 0 = some (upB d) ∧ ∀ b ∈ upB d, b = 0 ∨ b = 1 := by
 have g := List.all_eq_true.mp mbits_up_good (d + 3).toNat (List.mem_range.mpr (by omega))
 rw [Bool.and_eq_true, decide_eq_true_iff, show (((d + 3).toNat : Nat) : Int) - 3 = d by omega] at g
 exact ⟨g.1, fun b hb => by simpa using List.all_eq_true.mp g.2 b hb⟩
theorem qx {n m c : Int} (n0 : 0 ≤ n) (n1 : n ≤ 200) (m0 : 0 ≤ m) (m1 : m ≤ 200) (hc : c = 0 ∨ c = 1) :
  vE (fun k => we.f k (⟨#[102, 108, 97, 116]⟩ : ByteArray) 0 n m c) (· = ([0, 0, 1] ++ kK n c) ++ kK m (1 - c)) := by
 unfold we.f
 refine vE.neg (by decide +kernel) (vE.neg (by decide +kernel) ?_)
 refine vE.bind (vE.of (fun k => xo.mono _ k) list_flat) ?_
 rintro _ rfl
 refine vE.bind (ky n0 n1 hc) ?_
 rintro _ rfl
 have g1 := (jT n0 n1 hc).2
 have g2 := (jT (c := 1 - c) m0 m1 (by omega)).2
 refine vE.pos (by simp; omega) (vE.zz rfl ?_)
 rw [yV (x := 1 - c) (by omega) (by omega)]
 refine vE.bind (ky m0 m1 (by omega)) ?_
 rintro _ rfl
 refine vE.pos (by simp; omega) (vE.ret rfl)
def MB (m1 : yP) (m2 : jf) : Prop := vE (fun k => we.f k m1.f0 m1.f1 m1.f2.f0 m1.f2.f1 m1.f3) (· = m2.f1) ∧ m2.f1.length ≤ 200 ∧ ∀ b ∈ m2.f1, b = 0 ∨ b = 1
theorem modesB {above row : List Int} (ha : Px above) (hr : Px row) (he : above.length = row.length) : ∀ (n : Nat) (a c : Int) (o1 : List yP) (o2 : List jf), -1 ≤ a → a ≤ row.length → (c = 0 ∨ c = 1) → (row.length : Int) - a ≤ n → o1.length + n ≤ 500 → o2.length + n ≤ 500 →
  ∃ (d1 : List yP) (d2 : List jf), d1.length ≤ n ∧ vE (fun k => vB.l0 k above row o1 a c row.length) (· = o1 ++ d1) ∧ vE (fun k => vH.l0 k above row o2 a c) (· = o2 ++ d2) ∧ jb MB d1 d2 := by
 have hl := hr.1
 intro n
 have fin : ∀ (n : Nat) (a c : Int) (o1 : List yP) (o2 : List jf), (¬ a < (row.length : Int) ∨ ¬ (row.length : Int) > 0) → ∃ (d1 : List yP) (d2 : List jf), d1.length ≤ n ∧ vE (fun k => vB.l0 k above row o1 a c row.length) (· = o1 ++ d1) ∧ vE (fun k => vH.l0 k above row o2 a c) (· = o2 ++ d2) ∧ jb MB d1 d2 := fun n a c o1 o2 h => by
  refine ⟨[], [], Nat.zero_le _, ?_, ?_, .nil⟩
  ·rw [List.append_nil]
   have no : vE (fun k => vB.j1 k above row o1 a c row.length false) (· = o1) := vE.step (fun k => by rw [vB.j1]) (vE.neg (by decide) (vE.ret rfl))
   refine vE.step (fun k => by rw [vB.l0]) (vE.ite (fun z => ?_) (fun _ => no))
   rw [decide_eq_false (h.resolve_left (fun y => y z))]
   exact no
  ·rw [List.append_nil]
   refine vE.step (fun k => by rw [vH.l0]) (vE.ite (fun z => vE.neg (h.resolve_right (fun y => y z)) (vE.ret rfl)) (fun _ => vE.ret rfl))
 induction n with
 | zero => exact fun a c o1 o2 a0 a1 hc hn _ _ => fin _ a c o1 o2 (by omega)
 | succ n ih =>
  intro a c o1 o2 a0 a1 hc hn n1 n2
  by_cases h : a < (row.length : Int) ∧ (row.length : Int) > 0
  ·obtain ⟨b, b2, g1, g2, g3, g4, g5, g6, g7⟩ := marks_is ha c a a0 (by omega)
   rw [he] at g2 g3 g4
   obtain ⟨x, x1, x2, x3, x4⟩ := ja hr (1 - c) a a0 (by omega)
   have ex : a < x := by omega
   have e256 : (1 - c) % 256 = 1 - c := by omega
   have c64 : wrap64 (1 - c) = 1 - c := yV (by omega) (by omega)
   have cc : wrap64 c = c := yV (by omega) (by omega)
   have d64 : wrap64 (x - b) = x - b := yV (by omega) (by omega)
   have round : ∀ (m1 : yP) (m2 : jf) (a' c' : Int), a < a' → a' ≤ row.length → (c' = 0 ∨ c' = 1) → MB m1 m2 →
     (∀ P : List yP → Prop, vE (fun k => if o1.length < 2932031007402 then vB.l0 k above row (o1 ++ [m1]) a' c' row.length else none) P → vE (fun k => vB.l0 k above row o1 a c row.length) P) →
     (∀ P : List jf → Prop, vE (fun k => if o2.length < 2513169434916 then vH.l0 k above row (o2 ++ [m2]) a' c' else none) P → vE (fun k => vH.l0 k above row o2 a c) P) →
     ∃ (d1 : List yP) (d2 : List jf), d1.length ≤ n + 1 ∧ vE (fun k => vB.l0 k above row o1 a c row.length) (· = o1 ++ d1) ∧ vE (fun k => vH.l0 k above row o2 a c) (· = o2 ++ d2) ∧ jb MB d1 d2 := by
    intro m1 m2 a' c' h1 h2 h3 h4 p1 p2
    obtain ⟨d1, d2, q1, q2, q3, q4⟩ := ih a' c' (o1 ++ [m1]) (o2 ++ [m2]) (by omega) h2 h3 (by omega) (by rw [List.length_append]; show o1.length + 1 + n ≤ 500; omega) (by rw [List.length_append]; show o2.length + 1 + n ≤ 500; omega)
    refine ⟨m1 :: d1, m2 :: d2, Nat.succ_le_succ q1, p1 _ (vE.pos (by omega) ?_), p2 _ (vE.pos (by omega) ?_), .cons h4 q4⟩
    ·rw [show o1 ++ m1 :: d1 = o1 ++ [m1] ++ d1 by simp]
     exact q2
    ·rw [show o2 ++ m2 :: d2 = o2 ++ [m2] ++ d2 by simp]
     exact q3
   have prog : ∀ (P : List yP → Prop), vE (fun k => if b2 < x then (if o1.length < 2932031007402 then (vB.l0 k above row (o1 ++ [(⟨(⟨#[112, 97, 115, 115]⟩ : ByteArray), 0, (⟨0, 0⟩ : jg), 0⟩ : yP)]) b2 c row.length) else (none)) else (if x - b ≥ (-3) then (if x - b ≤ 3 then (if o1.length < 2932031007402 then (vB.l0 k above row (o1 ++ [(⟨(⟨#[117, 112]⟩ : ByteArray), x - b, (⟨0, 0⟩ : jg), 0⟩ : yP)]) x (1 - c) row.length) else (none)) else ((vQ.f k row x c).bind fun t229 => (if o1.length < 2932031007402 then (vB.l0 k above row (o1 ++ [(⟨(⟨#[102, 108, 97, 116]⟩ : ByteArray), 0, (⟨wrap64 (x - (mx a 0)), wrap64 (t229 - x)⟩ : jg), wrap64 (c)⟩ : yP)]) t229 c row.length) else (none)))) else ((vQ.f k row x c).bind fun t233 => (if o1.length < 2932031007402 then (vB.l0 k above row (o1 ++ [(⟨(⟨#[102, 108, 97, 116]⟩ : ByteArray), 0, (⟨wrap64 (x - (mx a 0)), wrap64 (t233 - x)⟩ : jg), wrap64 (c)⟩ : yP)]) t233 c row.length) else (none))))) P → vE (fun k => vB.l0 k above row o1 a c row.length) P := by
    intro P hp
    refine vE.step (fun k => by rw [vB.l0]) (vE.pos h.1 ?_)
    refine vE.step (fun k => by rw [vB.j1]) (vE.pos (decide_eq_true h.2) ?_)
    refine vE.bind g5 ?_
    rintro _ rfl
    rw [e256]
    refine vE.bind x3 ?_
    rintro _ rfl
    rw [d64]
    exact hp
   have ref : ∀ (m : jf) (P : List jf → Prop), vE (fun k => vJ.f k above row a c) (· = (m.f0, m.f1, m.f2, m.f3)) → vE (fun k => if o2.length < 2513169434916 then vH.l0 k above row (o2 ++ [m]) m.f2 m.f3 else none) P → vE (fun k => vH.l0 k above row o2 a c) P := by
    intro m P hm hp
    refine vE.step (fun k => by rw [vH.l0]) (vE.pos h.2 (vE.pos h.1 ?_))
    refine vE.bind hm ?_
    rintro _ rfl
    exact hp
   have choice : ∀ (P : ByteArray × List Int × Int × Int → Prop), vE (fun k => if b2 < x then ((vz.f k (⟨#[48, 48, 48, 49]⟩ : ByteArray)).bind fun t358 => (some ((⟨#[112, 97, 115, 115]⟩ : ByteArray), t358, b2, c))) else (if x - b ≥ (-3) then (vJ.j0 k row a c x (x - b) (decide (x - b ≤ 3))) else (vJ.j0 k row a c x (x - b) false))) P → vE (fun k => vJ.f k above row a c) P := by
    intro P hp
    unfold vJ.f
    refine vE.bind g6 ?_
    rintro _ rfl
    refine vE.bind g7 ?_
    rintro _ rfl
    rw [c64]
    refine vE.bind x4 ?_
    rintro _ rfl
    rw [d64]
    exact hp
   by_cases k1 : b2 < x
   ·refine round (⟨(⟨#[112, 97, 115, 115]⟩ : ByteArray), 0, (⟨0, 0⟩ : jg), 0⟩ : yP) (⟨(⟨#[112, 97, 115, 115]⟩ : ByteArray), [0, 0, 0, 1], b2, c⟩ : jf) b2 c (by omega) g4 hc ⟨vE.of (fun k => we.mono _ _ _ _ _ k) qp, show ([0, 0, 0, 1] : List Int).length ≤ 200 from by decide, show ∀ b ∈ ([0, 0, 0, 1] : List Int), b = 0 ∨ b = 1 from by decide⟩ (fun P hp => prog P (vE.pos k1 hp)) (fun P hp => ref _ P ?_ hp)
    refine choice _ (vE.pos k1 ?_)
    refine vE.bind bits_pass ?_
    rintro _ rfl
    exact vE.ret rfl
   ·by_cases k2 : x - b ≥ -3 ∧ x - b ≤ 3
    ·obtain ⟨u1, u2⟩ := mbits_up k2.1 k2.2
     obtain ⟨nm, hnm⟩ : ∃ s, xY.f (x - b) = some s := by
      unfold xY.f
      repeat' split
      all_goals exact ⟨_, rfl⟩
     refine round (⟨(⟨#[117, 112]⟩ : ByteArray), x - b, (⟨0, 0⟩ : jg), 0⟩ : yP) (⟨nm, upB (x - b), x, 1 - c⟩ : jf) x (1 - c) ex x2 (by omega) ⟨vE.of (fun k => we.mono _ _ _ _ _ k) u1, by have := (upB_is k2.1 k2.2).2; show (upB (x - b)).length ≤ 200; omega, u2⟩ (fun P hp => prog P (vE.neg k1 (vE.pos k2.1 (vE.pos k2.2 hp)))) (fun P hp => ref _ P ?_ hp)
     refine choice _ (vE.neg k1 (vE.pos k2.1 ?_))
     rw [decide_eq_true k2.2]
     refine vE.step (fun k => by rw [vJ.j0]) (vE.pos rfl (vE.zz hnm ?_))
     obtain ⟨s, hs, hb⟩ := Option.bind_eq_some_iff.mp (upB_is k2.1 k2.2).1
     refine vE.zz hs ?_
     refine vE.bind (vE.of (fun k => vz.mono _ k) hb) ?_
     rintro _ rfl
     rw [c64]
     exact vE.ret rfl
    ·obtain ⟨y, y1, y2, y3, y4⟩ := ja hr c x (by omega) x2
     have hm : mx a 0 = max a 0 := by unfold mx; omega
     have w1 : wrap64 (x - max a 0) = x - max a 0 := yV (by omega) (by omega)
     have w2 : wrap64 (y - x) = y - x := yV (by omega) (by omega)
     have l1 := (jT (n := x - max a 0) (c := c) (by omega) (by omega) hc).2
     have l2 := (jT (n := y - x) (c := 1 - c) (by omega) (by omega) (by omega)).2
     refine round (⟨(⟨#[102, 108, 97, 116]⟩ : ByteArray), 0, (⟨x - max a 0, y - x⟩ : jg), c⟩ : yP) (⟨(⟨#[102, 108, 97, 116]⟩ : ByteArray), ([0, 0, 1] ++ kK (x - max a 0) c) ++ kK (y - x) (1 - c), y, c⟩ : jf) y c (by omega) y2 hc ⟨qx (n := x - max a 0) (m := y - x) (c := c) (by omega) (by omega) (by omega) (by omega) hc, ?_, ?_⟩ (fun P hp => prog P (vE.neg k1 ?_)) (fun P hp => ref _ P ?_ hp)
     ·show (([0, 0, 1] ++ kK (x - max a 0) c) ++ kK (y - x) (1 - c)).length ≤ 200
      rw [List.length_append, List.length_append]
      show 3 + _ + _ ≤ 200
      omega
     ·intro z hz
      rcases List.mem_append.mp hz with hz | hz
      ·rcases List.mem_append.mp hz with hz | hz
       ·exact (show ∀ z ∈ ([0, 0, 1] : List Int), z = 0 ∨ z = 1 by decide) z hz
       ·exact rbT_01 (by omega) (by omega) hc z hz
      ·exact rbT_01 (by omega) (by omega) (by omega) z hz
     ·have go : vE (fun k => (vQ.f k row x c).bind fun t229 => (if o1.length < 2932031007402 then (vB.l0 k above row (o1 ++ [(⟨(⟨#[102, 108, 97, 116]⟩ : ByteArray), 0, (⟨wrap64 (x - (mx a 0)), wrap64 (t229 - x)⟩ : jg), wrap64 (c)⟩ : yP)]) t229 c row.length) else (none))) P := by
       refine vE.bind y3 ?_
       rintro _ rfl
       rw [hm, w1, w2, cc]
       exact hp
      exact vE.ite (fun z => vE.neg (fun w => k2 ⟨z, w⟩) go) (fun _ => go)
     ·refine choice _ (vE.neg k1 ?_)
      have go : vE (fun k => vJ.j0 k row a c x (x - b) false) (· = ((⟨#[102, 108, 97, 116]⟩ : ByteArray), ([0, 0, 1] ++ kK (x - max a 0) c) ++ kK (y - x) (1 - c), y, c)) := by
       refine vE.step (fun k => by rw [vJ.j0]) (vE.neg (by decide) ?_)
       refine vE.bind y4 ?_
       intro r_ hr_
       rw [show r_ = y from hr_]
       clear hr_
       refine vE.bind bits_flat ?_
       rintro _ rfl
       rw [hm, w1, w2, c64]
       refine vE.bind (jS (by omega) (by omega) hc) ?_
       rintro _ rfl
       refine vE.pos (by simp; omega) (vE.zz rfl ?_)
       refine vE.bind (jS (by omega) (by omega) (by omega)) ?_
       rintro _ rfl
       exact vE.pos (by simp; omega) (vE.ret rfl)
      refine vE.ite (fun z => ?_) (fun _ => go)
      rw [decide_eq_false (fun w => k2 ⟨z, w⟩)]
      exact go
  ·exact fin _ a c o1 o2 (by omega)
theorem modes_both {above row : List Int} (ha : Px above) (hr : Px row) (he : above.length = row.length) : ∃ (d1 : List yP) (d2 : List jf), d1.length ≤ 201 ∧ vE (fun k => vB.f k above row) (· = d1) ∧ vE (fun k => vH.f k above row) (· = d2) ∧ jb MB d1 d2 := by
 have := hr.1
 obtain ⟨d1, d2, q1, q2, q3, q4⟩ := modesB ha hr he 201 (-1) 0 [] [] (by omega) (by omega) (.inl rfl) (by omega) (by decide) (by decide)
 exact ⟨d1, d2, q1, by unfold vB.f; exact q2, by unfold vH.f; exact q3, q4⟩
theorem upW : (List.range 7).all (fun n => decide (upB ((n : Int) - 3) = wcs.getD (n + 2) [])) = true := by decide +kernel
theorem upW_is {d : Int} (d0 : -3 ≤ d) (d1 : d ≤ 3) : upB d = wcs.getD (d + 5).toNat [] := by
 have g := List.all_eq_true.mp upW (d + 3).toNat (List.mem_range.mpr (by omega))
 rw [decide_eq_true_iff, show (((d + 3).toNat : Nat) : Int) - 3 = d by omega, show (d + 3).toNat + 2 = (d + 5).toNat by omega] at g
 exact g
theorem rbP_rbT {n c : Int} (n0 : 0 ≤ n) (n1 : n ≤ 200) (hc : c = 0 ∨ c = 1) : rbP n c = kK n c := vE.det (rbP_is n0 n1 hc).1 (ky n0 n1 hc)
def MBR (m : yP) (bs : List Int) : Prop := vE (fun k => we.f k m.f0 m.f1 m.f2.f0 m.f2.f1 m.f3) (· = bs) ∧ bs.length ≤ 200 ∧ ∀ b ∈ bs, b = 0 ∨ b = 1
def Rd06 (above row : List Int) (a c : Int) (bs : List Int) (a' c' : Int) : Prop := ∀ (l : List Int) (p q : Int), zw l → 0 ≤ p → q ≤ en l → p ≤ q → Are l p q bs → vE (fun k => xA.f k l p true row.length a c above (row.take (max a 0).toNat)) (· = (0, q, true, a', c', row.take (max a' 0).toNat))
section
variable {above row : List Int} (hr : Px row) {a c b b2 : Int} (a0 : -1 ≤ a) (a1 : a < row.length) (hc : c = 0 ∨ c = 1) (g5 : vE (fun k => ww.f k above a c) (· = (b, b2)))
include hr a0 a1 hc g5
theorem rdPass (h : a < b2) (hb : b2 < row.length) (same : ∀ j, max a 0 ≤ j → j < b2 → rd row j = c) : Rd06 above row a c [0, 0, 0, 1] b2 c := by
 intro l p q hb' p0 hq hpq hB
 have hl := hr.1
 have hout : ((row.take (max a 0).toNat).length : Int) = max a 0 := take_len (by omega) (by omega)
 have w := qj (i := 0) (by decide) hB hq
 have := modePass hb' (w := row.length) hl p0 (by omega) hc g5 w (out := row.take (max a 0).toNat) (by omega) hb
 rw [jM (by omega) (by omega) (by omega) same] at this
 rw [show max b2 0 = b2 by omega]
 exact this
theorem rdUp {x : Int} (d0 : x - b ≥ -3) (d1 : x - b ≤ 3) (h : a < x) (x2 : x ≤ row.length) (same : ∀ j, max a 0 ≤ j → j < x → rd row j = c) : Rd06 above row a c (upB (x - b)) x (1 - c) := by
 intro l p q hb' p0 hq hpq hB
 have hl := hr.1
 have hout : ((row.take (max a 0).toNat).length : Int) = max a 0 := take_len (by omega) (by omega)
 rw [upW_is d0 d1] at hB
 have w := qj (i := (x - b + 5).toNat) (by omega) hB hq
 rw [show (((x - b + 5).toNat : Nat) : Int) = x - b + 5 by omega] at w
 have := modeUp hb' (w := row.length) hl p0 (by omega) hc g5 d0 d1 w (out := row.take (max a 0).toNat) (by omega) (by omega) (by omega) (by omega) (by omega)
 rw [show b + (x - b) = x by omega, jM (by omega) (by omega) x2 same] at this
 rw [show max x 0 = x by omega]
 exact this
theorem rdFlat {x y : Int} (h : a < x) (x2 : x ≤ row.length) (hy : x < y ∨ y = row.length) (y2 : y ≤ row.length) (same : ∀ j, max a 0 ≤ j → j < x → rd row j = c) (same2 : ∀ j, x ≤ j → j < y → rd row j = 1 - c) : Rd06 above row a c (([0, 0, 1] ++ kK (x - max a 0) c) ++ kK (y - x) (1 - c)) y c := by
 intro l p q hb' p0 hq hpq hB
 have hl := hr.1
 have hout : ((row.take (max a 0).toNat).length : Int) = max a 0 := take_len (by omega) (by omega)
 rw [← rbP_rbT (by omega) (by omega) hc, ← rbP_rbT (n := y - x) (by omega) (by omega) (by omega)] at hB
 generalize hR1 : rbP (x - max a 0) c = R1 at hB
 generalize hR2 : rbP (y - x) (1 - c) = R2 at hB
 obtain ⟨B12, B3⟩ := hB.parts
 obtain ⟨B1, B2⟩ := B12.parts
 have e3 := B3.len
 have e2 := B2.len
 have e1 := B1.len
 have w := qj (i := 1) (by decide) B1 (by omega)
 have r1 := run_fwd (n := x - max a 0) (by omega) (by omega) hc (by rw [hR1]; exact B2) (by omega)
 have r2 := run_fwd (n := y - x) (c := 1 - c) (by omega) (by omega) (by omega) (by rw [hR2]; exact B3) hq
 have := modeFlat hb' (w := row.length) hl p0 (by omega) hc g5 w (by omega) (by omega) r1 r2 (out := row.take (max a 0).toNat) (by omega) (by omega) (by omega)
 rw [hout, show max a 0 + (x - max a 0) = x by omega, show x + (y - x) = y by omega, jM (by omega) (by omega) x2 same, jM (by omega) (by omega) y2 same2] at this
 rw [show max y 0 = y by omega]
 exact this
end
theorem modesF {above row : List Int} (ha : Px above) (hr : Px row) (he : above.length = row.length) : ∀ (n : Nat) (a c : Int) (o1 : List yP), At06 row a c → (row.length : Int) - a ≤ n → o1.length + n ≤ 500 →
  ∃ (d1 : List yP) (bss : List (List Int)), d1.length ≤ n ∧ vE (fun k => vB.l0 k above row o1 a c row.length) (· = o1 ++ d1) ∧ jb MBR d1 bss ∧ ∀ (l : List Int) (p q : Int), zw l → 0 ≤ p → q ≤ en l → Are l p q bss.flatten → vE (fun k => wJ.l0 k l row.length above p true a c (row.take (max a 0).toNat)) (· = (row, 0, q, true)) := by
 have hl := hr.1
 intro n
 have fin : ∀ (n : Nat) (a c : Int) (o1 : List yP), At06 row a c → (¬ a < (row.length : Int) ∨ ¬ (row.length : Int) > 0) → ∃ (d1 : List yP) (bss : List (List Int)), d1.length ≤ n ∧ vE (fun k => vB.l0 k above row o1 a c row.length) (· = o1 ++ d1) ∧ jb MBR d1 bss ∧ ∀ (l : List Int) (p q : Int), zw l → 0 ≤ p → q ≤ en l → Are l p q bss.flatten → vE (fun k => wJ.l0 k l row.length above p true a c (row.take (max a 0).toNat)) (· = (row, 0, q, true)) := by
  intro n a c o1 hA h
  have full : row.take (max a 0).toNat = row := List.take_of_length_le (by omega)
  refine ⟨[], [], Nat.zero_le _, ?_, .nil, fun l p q hb p0 hq hA' => ?_⟩
  ·rw [List.append_nil]
   have no : vE (fun k => vB.j1 k above row o1 a c row.length false) (· = o1) := vE.step (fun k => by rw [vB.j1]) (vE.neg (by decide) (vE.ret rfl))
   refine vE.step (fun k => by rw [vB.l0]) (vE.ite (fun z => ?_) (fun _ => no))
   rw [decide_eq_false (h.resolve_left (fun y => y z))]
   exact no
  ·have hq' := hA'.len
   simp only [List.flatten_nil, List.length_nil] at hq'
   have e : p = q := by omega
   subst e
   rw [full]
   exact vE.step (fun k => by rw [wJ.l0]) (vE.ite (fun z => vE.neg (h.resolve_left (fun y => y z)) (vE.ret rfl)) (fun _ => vE.ret rfl))
 induction n with
 | zero => exact fun a c o1 hA hn _ => fin _ a c o1 hA (by omega)
 | succ n ih =>
  intro a c o1 hA hn n1
  by_cases h : a < (row.length : Int) ∧ (row.length : Int) > 0
  ·obtain ⟨a0, a1, hc, hrow⟩ := id hA
   obtain ⟨b, b2, g1, g2, g3, g4, g5, g6, g7⟩ := marks_is ha c a a0 (by omega)
   rw [he] at g2 g3 g4
   obtain ⟨x, x1, x2, x3, x4, x5⟩ := chg_is hr (1 - c) a a0 (by omega)
   have ex : a < x := by omega
   have e256 : (1 - c) % 256 = 1 - c := by omega
   have cc : wrap64 c = c := yV (by omega) (by omega)
   have d64 : wrap64 (x - b) = x - b := yV (by omega) (by omega)
   have same : ∀ j, max a 0 ≤ j → j < x → rd row j = c := fun j j0 j1 => by
    by_cases z : j = a
    ·subst z; exact hrow (by omega) h.1
    ·have q1 := x3 j (by omega) j1
     have q2 := hr.at (i := j) (by omega) (by omega)
     omega
   have round : ∀ (m1 : yP) (bs : List Int) (a' c' : Int), a < a' → At06 row a' c' → MBR m1 bs →
     Rd06 above row a c bs a' c' →
     (∀ P : List yP → Prop, vE (fun k => if o1.length < 2932031007402 then vB.l0 k above row (o1 ++ [m1]) a' c' row.length else none) P → vE (fun k => vB.l0 k above row o1 a c row.length) P) →
     ∃ (d1 : List yP) (bss : List (List Int)), d1.length ≤ n + 1 ∧ vE (fun k => vB.l0 k above row o1 a c row.length) (· = o1 ++ d1) ∧ jb MBR d1 bss ∧ ∀ (l : List Int) (p q : Int), zw l → 0 ≤ p → q ≤ en l → Are l p q bss.flatten → vE (fun k => wJ.l0 k l row.length above p true a c (row.take (max a 0).toNat)) (· = (row, 0, q, true)) := by
    intro m1 bs a' c' h1 h2 h3 h4 p1
    obtain ⟨d1, bss, q1, q2, q3, q4⟩ := ih a' c' (o1 ++ [m1]) h2 (by omega) (by rw [List.length_append]; show o1.length + 1 + n ≤ 500; omega)
    refine ⟨m1 :: d1, bs :: bss, Nat.succ_le_succ q1, p1 _ (vE.pos (by omega) ?_), .cons h3 q3, fun l p q hb p0 hq hB => ?_⟩
    ·rw [show o1 ++ m1 :: d1 = o1 ++ [m1] ++ d1 by simp]
     exact q2
    ·rw [List.flatten_cons] at hB
     obtain ⟨B1, B2⟩ := hB.parts
     have l2 := B2.len
     refine vE.step (fun k => by rw [wJ.l0]) (vE.pos h.1 (vE.pos h.2 ?_))
     refine vE.bind (h4 l p _ hb p0 (by omega) (by omega) B1) ?_
     rintro _ rfl
     exact vE.pos rfl (q4 l _ q hb (show 0 ≤ p + (bs.length : Int) by omega) hq B2)
   have prog : ∀ (P : List yP → Prop), vE (fun k => if b2 < x then (if o1.length < 2932031007402 then (vB.l0 k above row (o1 ++ [(⟨(⟨#[112, 97, 115, 115]⟩ : ByteArray), 0, (⟨0, 0⟩ : jg), 0⟩ : yP)]) b2 c row.length) else (none)) else (if x - b ≥ (-3) then (if x - b ≤ 3 then (if o1.length < 2932031007402 then (vB.l0 k above row (o1 ++ [(⟨(⟨#[117, 112]⟩ : ByteArray), x - b, (⟨0, 0⟩ : jg), 0⟩ : yP)]) x (1 - c) row.length) else (none)) else ((vQ.f k row x c).bind fun t229 => (if o1.length < 2932031007402 then (vB.l0 k above row (o1 ++ [(⟨(⟨#[102, 108, 97, 116]⟩ : ByteArray), 0, (⟨wrap64 (x - (mx a 0)), wrap64 (t229 - x)⟩ : jg), wrap64 (c)⟩ : yP)]) t229 c row.length) else (none)))) else ((vQ.f k row x c).bind fun t233 => (if o1.length < 2932031007402 then (vB.l0 k above row (o1 ++ [(⟨(⟨#[102, 108, 97, 116]⟩ : ByteArray), 0, (⟨wrap64 (x - (mx a 0)), wrap64 (t233 - x)⟩ : jg), wrap64 (c)⟩ : yP)]) t233 c row.length) else (none))))) P → vE (fun k => vB.l0 k above row o1 a c row.length) P := by
    intro P hp
    refine vE.step (fun k => by rw [vB.l0]) (vE.pos h.1 ?_)
    refine vE.step (fun k => by rw [vB.j1]) (vE.pos (decide_eq_true h.2) ?_)
    refine vE.bind g5 ?_
    rintro _ rfl
    rw [e256]
    refine vE.bind x5 ?_
    rintro _ rfl
    rw [d64]
    exact hp
   have at_x : At06 row x (1 - c) := ⟨by omega, x2, by omega, fun _ z => x4 z⟩
   by_cases k1 : b2 < x
   ·refine round (⟨(⟨#[112, 97, 115, 115]⟩ : ByteArray), 0, (⟨0, 0⟩ : jg), 0⟩ : yP) [0, 0, 0, 1] b2 c (by omega) ⟨by omega, g4, hc, fun q0 _ => same b2 (by omega) k1⟩ ⟨vE.of (fun k => we.mono _ _ _ _ _ k) qp, show ([0, 0, 0, 1] : List Int).length ≤ 200 from by decide, show ∀ b ∈ ([0, 0, 0, 1] : List Int), b = 0 ∨ b = 1 from by decide⟩ (rdPass hr a0 h.1 hc g5 (by omega) (by omega) (fun j j0 j1 => same j j0 (by omega))) (fun P hp => prog P (vE.pos k1 hp))
   ·by_cases k2 : x - b ≥ -3 ∧ x - b ≤ 3
    ·obtain ⟨u1, u2⟩ := mbits_up k2.1 k2.2
     refine round (⟨(⟨#[117, 112]⟩ : ByteArray), x - b, (⟨0, 0⟩ : jg), 0⟩ : yP) (upB (x - b)) x (1 - c) ex at_x ⟨vE.of (fun k => we.mono _ _ _ _ _ k) u1, by have := (upB_is k2.1 k2.2).2; omega, u2⟩ (rdUp hr a0 h.1 hc g5 k2.1 k2.2 ex x2 same) (fun P hp => prog P (vE.neg k1 (vE.pos k2.1 (vE.pos k2.2 hp))))
    ·obtain ⟨y, y1, y2, y3, y4, y5⟩ := chg_is hr c x (by omega) x2
     have same2 : ∀ j, x ≤ j → j < y → rd row j = 1 - c := fun j j0 j1 => by
      by_cases z : j = x
      ·subst z; exact x4 (by omega)
      ·have q1 := y3 j (by omega) j1
       have q2 := hr.at (i := j) (by omega) (by omega)
       omega
     have hm : mx a 0 = max a 0 := by unfold mx; omega
     have w1 : wrap64 (x - max a 0) = x - max a 0 := yV (by omega) (by omega)
     have w2 : wrap64 (y - x) = y - x := yV (by omega) (by omega)
     have l1 := (jT (n := x - max a 0) (c := c) (by omega) (by omega) hc).2
     have l2 := (jT (n := y - x) (c := 1 - c) (by omega) (by omega) (by omega)).2
     refine round (⟨(⟨#[102, 108, 97, 116]⟩ : ByteArray), 0, (⟨x - max a 0, y - x⟩ : jg), c⟩ : yP) (([0, 0, 1] ++ kK (x - max a 0) c) ++ kK (y - x) (1 - c)) y c (by omega) ⟨by omega, y2, hc, fun _ z => y4 z⟩ ⟨qx (n := x - max a 0) (m := y - x) (c := c) (by omega) (by omega) (by omega) (by omega) hc, ?_, ?_⟩ (rdFlat hr a0 h.1 hc g5 ex x2 y1 y2 same same2) (fun P hp => prog P (vE.neg k1 ?_))
     ·rw [List.length_append, List.length_append]
      show 3 + _ + _ ≤ 200
      omega
     ·intro z hz
      rcases List.mem_append.mp hz with hz | hz
      ·rcases List.mem_append.mp hz with hz | hz
       ·exact (show ∀ z ∈ ([0, 0, 1] : List Int), z = 0 ∨ z = 1 by decide) z hz
       ·exact rbT_01 (by omega) (by omega) hc z hz
      ·exact rbT_01 (by omega) (by omega) (by omega) z hz
     ·have go : vE (fun k => (vQ.f k row x c).bind fun t229 => (if o1.length < 2932031007402 then (vB.l0 k above row (o1 ++ [(⟨(⟨#[102, 108, 97, 116]⟩ : ByteArray), 0, (⟨wrap64 (x - (mx a 0)), wrap64 (t229 - x)⟩ : jg), wrap64 (c)⟩ : yP)]) t229 c row.length) else (none))) P := by
       refine vE.bind y5 ?_
       rintro _ rfl
       rw [hm, w1, w2, cc]
       exact hp
      exact vE.ite (fun z => vE.neg (fun w => k2 ⟨z, w⟩) go) (fun _ => go)
  ·exact fin _ a c o1 hA (by omega)
def Byt (p : List Int) : Prop := ∀ x ∈ p, 0 ≤ x ∧ x ≤ 255
theorem wf_byt {p : List Int} (h : ∀ y ∈ p, (Lit.int .u8 y).wf = true) : Byt p := fun x hx => by
 have h1 : (decide (IntKind.u8.min ≤ x) && decide (x ≤ IntKind.u8.max)) = true := h x hx
 obtain ⟨a, b⟩ := Bool.and_eq_true_iff.mp h1
 exact ⟨of_decide_eq_true a, of_decide_eq_true b⟩
instance (w h : Int) (p : List Int) : Decidable (Val w h p) := by unfold Val; exact inferInstance
theorem kf {w h : Int} (hw : 0 ≤ w) (hh : 0 ≤ h) (hw' : w ≤ 200) (hh' : h ≤ 200) : 0 ≤ w * h ∧ w * h ≤ 40000 := by
 have h1 : 0 ≤ w * h := Int.mul_nonneg hw hh
 have h2 : w * h ≤ 200 * h := Int.mul_le_mul_of_nonneg_right hw' hh
 omega
theorem fits_is (w h : Int) : yx.f w h = some (decide (Sid w h)) := by
 unfold yx.f
 by_cases h1 : 0 ≤ w ∧ 0 ≤ h ∧ w ≤ 200 ∧ h ≤ 200
 ·obtain ⟨a, b, c, d⟩ := h1
  have := kf a b c d
  rw [if_pos (by omega), if_pos (by omega), if_pos c, if_pos d, yV (by omega) (by omega)]
  simp [Sid, a, b, c, d]
 ·have h2 : ¬ Sid w h := fun s => h1 ⟨s.1, s.2.1, s.2.2.1, s.2.2.2.1⟩
  simp only [h2, decide_false]
  split
  ·split
   ·split
    ·split
     ·omega
     ·rfl
    ·rfl
   ·rfl
  ·rfl
theorem Valid_l0 (p : List Int) (hl : (p.length : Int) ≤ 9223372036854775807) : vE (fun k => wu.l0 k p (p.length : Int) 0) (· = decide (∀ x ∈ p, x ≤ 1)) := by
 refine vE.up (L := fun k i (_ : Unit) => wu.l0 k p (p.length : Int) i) (fun i _ => 0 ≤ i ∧ ∀ j, 0 ≤ j → j < i → rd p j ≤ 1) p.length ?_ 0 () (by omega) ⟨by omega, fun j _ _ => by omega⟩
 intro i _ ⟨h0, hb⟩ hi ih
 refine vE.step (fun k => by rw [wu.l0]) ?_
 refine vE.ite (fun h1 => ?_) (fun h1 => ?_)
 ·refine vE.pos h0 (vE.pos h1 (vE.ite (fun h2 => vE.ret ?_) (fun h2 => ?_)))
  ·symm
   rw [decide_eq_false_iff_not]
   intro hall
   have := hall _ (kz h0 h1)
   omega
  ·rw [yV (by omega) (by omega)]
   refine ih () h1 ⟨by omega, fun j hj hj' => ?_⟩
   rcases Int.lt_or_le j i with hji | hji
   ·exact hb j hj hji
   ·have : j = i := by omega
    subst this
    omega
 ·refine vE.ret ?_
  symm
  rw [decide_eq_true_iff]
  intro x hx
  obtain ⟨n, hn, rfl⟩ := List.getElem_of_mem hx
  have := hb (n : Int) (by omega) (by omega)
  rwa [jU p n hn] at this
theorem Valid_is (w h : Int) (p : List Int) (hp : ∀ x ∈ p, 0 ≤ x) (hl : (p.length : Int) ≤ 9223372036854775807) : vE (fun k => wu.f k w h p) (· = decide (Val w h p)) := by
 unfold wu.f
 refine vE.zz (fits_is w h) ?_
 refine vE.ite (fun h1 => ?_) (fun h1 => ?_)
 ·rw [decide_eq_true_iff] at h1
  have hm := kf h1.1 h1.2.1 h1.2.2.1 h1.2.2.2.1
  rw [yV (by omega) (by omega)]
  refine vE.step (fun k => by rw [wu.j0]) ?_
  refine vE.ite (fun h2 => vE.ret ?_) (fun h2 => ?_)
  ·symm
   rw [decide_eq_false_iff_not]
   intro v
   simp [v.2.2.2.2.2.1] at h2
  ·refine (Valid_l0 p hl).mono ?_
   rintro r rfl
   have e : (p.length : Int) = w * h := by simpa using h2
   apply decide_eq_decide.mpr
   constructor
   ·intro hall
    exact ⟨h1.1, h1.2.1, h1.2.2.1, h1.2.2.2.1, h1.2.2.2.2, e, fun x hx => ⟨hp x hx, hall x hx⟩⟩
   ·intro v x hx
    exact (v.2.2.2.2.2.2 x hx).2
 ·refine vE.step (fun k => by rw [wu.j0]) ?_
  refine vE.pos rfl (vE.ret ?_)
  symm
  rw [decide_eq_false_iff_not]
  intro v
  exact h1 (decide_eq_true v.sid)
def rowAt (w : Int) (p : List Int) (y : Int) : List Int := (p.take ((y + 1) * w).toNat).drop (y * w).toNat
theorem qc {w h : Int} {p : List Int} (v : Val w h p) {y : Int} (y0 : 0 ≤ y) (y1 : y < h) : Px (rowAt w p y) ∧ ((rowAt w p y).length : Int) = w := by
 obtain ⟨w0, h0, w1, h1, _, hl, hp⟩ := v
 have a : 0 ≤ y * w := Int.mul_nonneg y0 w0
 have b : (y + 1) * w ≤ h * w := Int.mul_le_mul_of_nonneg_right (by omega) w0
 have c : (y + 1) * w = y * w + w := by rw [Int.add_mul, Int.one_mul]
 have hlen : ((rowAt w p y).length : Int) = w := by
  unfold rowAt
  rw [List.length_drop, List.length_take]
  rw [Int.mul_comm h w] at b
  omega
 refine ⟨⟨by omega, fun z hz => ?_⟩, hlen⟩
 have := hp z (List.mem_of_mem_take (List.mem_of_mem_drop hz))
 omega
theorem mulB {w h y : Int} {p : List Int} (v : Val w h p) (y0 : 0 ≤ y) (y1 : y < h) : 0 ≤ y * w ∧ y * w ≤ (y + 1) * w ∧ (y + 1) * w ≤ (p.length : Int) ∧ (p.length : Int) ≤ 8192 := by
 obtain ⟨w0, h0, w1, h1, hm, hl, hp⟩ := v
 have a : 0 ≤ y * w := Int.mul_nonneg y0 w0
 have b : (y + 1) * w ≤ h * w := Int.mul_le_mul_of_nonneg_right (by omega) w0
 have c : (y + 1) * w = y * w + w := by rw [Int.add_mul, Int.one_mul]
 rw [Int.mul_comm h w] at b
 omega
theorem lines_is {w h : Int} {p : List Int} (v : Val w h p) : vE (fun k => xe.f k w h p) (· = (List.range h.toNat).map fun y : Nat => rowAt w p y) := by
 have hh := v.2.1
 have hh2 := v.2.2.2.1
 unfold xe.f
 refine vE.up (L := fun k i (s : List (List Int)) => xe.l0 k s h i w h p) (fun i s => 0 ≤ i ∧ s = (List.range i.toNat).map fun y : Nat => rowAt w p y) h ?_ 0 [] hh ⟨Int.le_refl _, rfl⟩
 intro i s ⟨i0, hs⟩ hn ih
 refine vE.step (fun k => by rw [xe.l0]) (vE.ite (fun i1 => ?_) (fun i1 => vE.ret ?_))
 ·obtain ⟨a, b, c, d⟩ := mulB v i0 i1
  have wi : wrap64 (i + 1) = i + 1 := yV (by omega) (by omega)
  have w1 : wrap64 (i * w) = i * w := yV (by omega) (by omega)
  have w2 : wrap64 ((i + 1) * w) = (i + 1) * w := yV (by omega) (by omega)
  rw [wi, w1, w2]
  refine vE.pos a (vE.pos b (vE.pos c (vE.pos (by rw [hs, List.length_map, List.length_range]; omega) ?_)))
  refine ih _ i1 ⟨by omega, ?_⟩
  rw [hs, show (i + 1).toNat = i.toNat + 1 by omega, List.range_succ, List.map_append, List.map_singleton, show ((i.toNat : Nat) : Int) = i by omega]
  rfl
 ·rw [hs, show i = h by omega]
def B01 (l : List Int) : Prop := ∀ b ∈ l, b = 0 ∨ b = 1
theorem B01.app {l m : List Int} (h : B01 l) (k : B01 m) : B01 (l ++ m) := fun b hb => (List.mem_append.mp hb).elim (h b) (k b)
theorem rd_lines {w h : Int} {p : List Int} {i : Int} (i0 : 0 ≤ i) (i1 : i < h) : yS ((List.range h.toNat).map fun y : Nat => rowAt w p y) i = rowAt w p i := by
 have hi : i.toNat < h.toNat := by omega
 simp [yS, List.getD, List.getElem?_map, List.getElem?_range hi, show ((i.toNat : Nat) : Int) = i by omega]
theorem rowOf_is {w h : Int} {p : List Int} (v : Val w h p) {y : Int} (y0 : 0 ≤ y) (y1 : y < h) : xf.f w h p y = some (rowAt w p y) := by
 obtain ⟨a, b, c, d⟩ := mulB v y0 y1
 have hy := v.2.2.2.1
 have wi : wrap64 (y + 1) = y + 1 := yV (by omega) (by omega)
 have w1 : wrap64 (y * w) = y * w := yV (by omega) (by omega)
 have w2 : wrap64 ((y + 1) * w) = (y + 1) * w := yV (by omega) (by omega)
 have hl := (qc v y0 y1).2
 have hw := v.2.2.1
 have hl2 : ((List.drop (y * w).toNat (List.take ((y + 1) * w).toNat p)).length : Int) = w := hl
 unfold xf.f
 rw [if_neg (by omega), Option.bind_some, wi, w1, w2, if_pos a, if_pos b, if_pos c, if_pos (by show 0 + _ < _; omega), List.nil_append]
 rfl
theorem kE {w h : Int} {p : List Int} (w0 : 0 ≤ w) (w1 : w ≤ 200) : xf.f w h p (-1) = some (List.replicate w.toNat 0) := by
 unfold xf.f
 rw [if_pos (by decide), if_pos w0, if_pos (by omega)]
def kx (w : Int) (p : List Int) (y : Int) : List Int := if y = 0 then List.replicate w.toNat 0 else rowAt w p (y - 1)
theorem upAt_is {w h : Int} {p : List Int} (v : Val w h p) {y : Int} (y0 : 0 ≤ y) (y1 : y < h) : Px (kx w p y) ∧ ((kx w p y).length : Int) = w ∧ xf.f w h p (y - 1) = some (kx w p y) := by
 have w0 := v.1
 have w1 := v.2.2.1
 unfold kx
 by_cases z : y = 0
 ·rw [if_pos z, z]
  refine ⟨⟨by rw [List.length_replicate]; omega, fun x hx => .inl (List.eq_of_mem_replicate hx)⟩, by rw [List.length_replicate]; omega, kE w0 w1⟩
 ·rw [if_neg z]
  obtain ⟨a, b⟩ := qc v (y := y - 1) (by omega) (by omega)
  exact ⟨a, b, rowOf_is v (by omega) (by omega)⟩
theorem orShl_good : (List.range 256).all (fun v => (List.range 8).all fun j => v % 2 ^ (8 - j) != 0 || ((List.range 2).all fun b =>
  decide (Go.bits .or .u8 (v : Int) (shl .u8 (b : Int) (7 - (j : Int))) = ((v : Int) + shl .u8 (b : Int) (7 - (j : Int))) % 256) && decide (((v : Int) + shl .u8 (b : Int) (7 - (j : Int))) % 256 % (2 ^ (7 - j) : Nat) = 0))) = true := by decide +kernel
theorem orShl {v b : Int} {j : Nat} (v0 : 0 ≤ v) (v1 : v ≤ 255) (hj : j < 8) (hb : b = 0 ∨ b = 1) (hz : v % (2 ^ (8 - j) : Nat) = 0) :
  Go.bits .or .u8 v (shl .u8 b (7 - (j : Int))) = (v + shl .u8 b (7 - (j : Int))) % 256 ∧ (v + shl .u8 b (7 - (j : Int))) % 256 % (2 ^ (7 - j) : Nat) = 0 := by
 have g := List.all_eq_true.mp (List.all_eq_true.mp orShl_good v.toNat (List.mem_range.mpr (by omega))) j (List.mem_range.mpr hj)
 obtain ⟨n, rfl⟩ : ∃ n : Nat, v = n := ⟨v.toNat, by omega⟩
 rw [Int.toNat_natCast, Bool.or_eq_true] at g
 have hz' : n % 2 ^ (8 - j) = 0 := by exact_mod_cast hz
 rcases g with g | g
 ·simp [hz'] at g
 ·obtain ⟨m, rfl⟩ : ∃ m : Nat, b = m := ⟨b.toNat, by omega⟩
  have g := List.all_eq_true.mp g m (List.mem_range.mpr (by omega))
  rw [Bool.and_eq_true, decide_eq_true_iff, decide_eq_true_iff] at g
  exact g
theorem packBit_good : (List.range 256).all (fun v => (List.range 8).all fun m => v % 2 ^ (8 - m) != 0 || ((List.range 2).all fun b => (List.range 8).all fun j =>
  let u := ((v : Int) + shl .u8 (b : Int) (7 - (m : Int))) % 256
  decide (m < j) || decide (Int.tmod (shr .u8 u (7 - (j : Int))) 2 = if j = m then (b : Int) else Int.tmod (shr .u8 (v : Int) (7 - (j : Int))) 2))) = true := by decide +kernel
theorem packBit {v b : Int} {m j : Nat} (v0 : 0 ≤ v) (v1 : v ≤ 255) (hm : m < 8) (hj : j ≤ m) (hb : b = 0 ∨ b = 1) (hz : v % (2 ^ (8 - m) : Nat) = 0) :
  Int.tmod (shr .u8 ((v + shl .u8 b (7 - (m : Int))) % 256) (7 - (j : Int))) 2 = if j = m then b else Int.tmod (shr .u8 v (7 - (j : Int))) 2 := by
 have g := List.all_eq_true.mp (List.all_eq_true.mp packBit_good v.toNat (List.mem_range.mpr (by omega))) m (List.mem_range.mpr hm)
 obtain ⟨n, rfl⟩ : ∃ n : Nat, v = n := ⟨v.toNat, by omega⟩
 rw [Int.toNat_natCast, Bool.or_eq_true] at g
 have hz' : n % 2 ^ (8 - m) = 0 := by exact_mod_cast hz
 rcases g with g | g
 ·simp [hz'] at g
 ·obtain ⟨q, rfl⟩ : ∃ q : Nat, b = q := ⟨b.toNat, by omega⟩
  have g := List.all_eq_true.mp (List.all_eq_true.mp g q (List.mem_range.mpr (by omega))) j (List.mem_range.mpr (by omega))
  simp only [Bool.or_eq_true, decide_eq_true_iff] at g
  rcases g with g | g
  ·omega
  ·exact g
theorem packP_l0 (bs : List Int) (hb : ∀ b ∈ bs, b = 0 ∨ b = 1) (hl : (bs.length : Int) ≤ 100000000) : ∀ (n : Nat) (i : Int) (x : List Int), 0 ≤ i → (bs.length : Int) - i = n → (x.length : Int) = ((bs.length : Int) + 7) / 8 → (∀ j, 0 ≤ j → j < (x.length : Int) → 0 ≤ rd x j ∧ rd x j ≤ 255) →
  (∀ j, i / 8 < j → j < (x.length : Int) → rd x j = 0) → (i / 8 < (x.length : Int) → rd x (i / 8) % (2 ^ (8 - (i % 8).toNat) : Nat) = 0) → (∀ j, 0 ≤ j → j < i → js x j = rd bs j) →
  ∃ r : List Int, vE (fun k => wV.l0 k x bs (bs.length : Int) i) (· = (r, 0)) ∧ r.length = x.length ∧ (∀ j, 0 ≤ j → j < (r.length : Int) → 0 ≤ rd r j ∧ rd r j ≤ 255) ∧ (∀ j, 0 ≤ j → j < (bs.length : Int) → js r j = rd bs j) := by
 intro n
 induction n with
 | zero =>
  intro i x i0 hn hx h1 h2 h3 h4
  exact ⟨x, vE.step (fun k => by rw [wV.l0]) (vE.neg (by omega) (vE.ret rfl)), rfl, h1, fun j a b => h4 j a (by omega)⟩
 | succ n ih =>
  intro i x i0 hn hx h1 h2 h3 h4
  have i1 : i < (bs.length : Int) := by omega
  have q1 : i / 8 < (x.length : Int) := by omega
  have q0 : 0 ≤ i / 8 := by omega
  have hbi := hb _ (kz i0 i1)
  obtain ⟨v0, v1⟩ := h1 (i / 8) q0 q1
  have e7 : 7 - i % 8 = 7 - (((i % 8).toNat : Nat) : Int) := by omega
  obtain ⟨g1, g2⟩ := orShl v0 v1 (j := (i % 8).toNat) (by omega) hbi (h3 q1)
  rw [← e7] at g1 g2
  have ed : Int.tdiv i 8 = i / 8 := Int.tdiv_eq_ediv_of_nonneg i0
  have em : Int.tmod i 8 = i % 8 := Int.tmod_eq_emod_of_nonneg i0
  have wd : wrap64 (i / 8) = i / 8 := yV (by omega) (by omega)
  have wm : wrap64 (7 - i % 8) = 7 - i % 8 := yV (by omega) (by omega)
  have wi : wrap64 (i + 1) = i + 1 := yV (by omega) (by omega)
  obtain ⟨r, r1, r3, r4, r5⟩ := ih (i + 1) (x.set (i / 8).toNat ((rd x (i / 8) + shl .u8 (rd bs i) (7 - i % 8)) % 256)) (by omega) (by omega) (by rw [List.length_set]; exact hx)
   (fun j j0 j1 => by
    rw [List.length_set] at j1
    rw [ku x (i / 8) j _ q0 q1 j0]
    split
    ·omega
    ·exact h1 j j0 j1)
   (fun j j0 j1 => by
    rw [List.length_set] at j1
    rw [ku x (i / 8) j _ q0 q1 (by omega), if_neg (by omega)]
    exact h2 j (by omega) j1)
   (fun j1 => by
    rw [List.length_set] at j1
    rw [ku x (i / 8) _ _ q0 q1 (by omega)]
    by_cases z : (i + 1) / 8 = i / 8
    ·rw [if_pos z, show 8 - ((i + 1) % 8).toNat = 7 - (i % 8).toNat by omega]
     exact g2
    ·rw [if_neg z, h2 _ (by omega) j1]
     exact Int.zero_emod _)
   (fun j j0 j1 => by
    unfold js
    rw [ku x (i / 8) (j / 8) _ q0 q1 (by omega)]
    by_cases z : j / 8 = i / 8
    ·rw [if_pos z]
     have pb := packBit (v := rd x (i / 8)) (b := rd bs i) (m := (i % 8).toNat) (j := (j % 8).toNat) v0 v1 (by omega) (by omega) hbi (h3 q1)
     rw [show (((i % 8).toNat : Nat) : Int) = i % 8 by omega, show (((j % 8).toNat : Nat) : Int) = j % 8 by omega] at pb
     rw [pb]
     by_cases y : j = i
     ·rw [if_pos (by omega), y]
     ·rw [if_neg (by omega), ← z]
      exact h4 j j0 (by omega)
    ·rw [if_neg z]
     exact h4 j j0 (by omega))
  rw [List.length_set] at r3
  refine ⟨r, ?_, r3, r4, r5⟩
  refine vE.step (fun k => by rw [wV.l0]) ?_
  rw [ed, em, wd, wm, wi, g1]
  exact vE.pos i1 (vE.pos i0 (vE.pos i1 (vE.neg (by omega) (vE.pos q0 (vE.pos q1 (vE.pos (by omega) r1))))))
theorem packP (bs : List Int) (hb : ∀ b ∈ bs, b = 0 ∨ b = 1) (hl : (bs.length : Int) ≤ 100000000) : ∃ r : List Int, vE (fun k => wV.f k bs) (· = (r, 0)) ∧ (r.length : Int) = ((bs.length : Int) + 7) / 8 ∧ zw r ∧ ∀ j, 0 ≤ j → j < (bs.length : Int) → js r j = rd bs j := by
 have w1 : wrap64 ((bs.length : Int) + 7) = (bs.length : Int) + 7 := yV (by omega) (by omega)
 have ed : Int.tdiv ((bs.length : Int) + 7) 8 = ((bs.length : Int) + 7) / 8 := Int.tdiv_eq_ediv_of_nonneg (by omega)
 have w2 : wrap64 (((bs.length : Int) + 7) / 8) = ((bs.length : Int) + 7) / 8 := yV (by omega) (by omega)
 have hz : ∀ j : Int, 0 ≤ j → j < ((List.replicate (((bs.length : Int) + 7) / 8).toNat (0 : Int)).length : Int) → rd (List.replicate (((bs.length : Int) + 7) / 8).toNat (0 : Int)) j = 0 := fun j j0 j1 => by
  rw [List.length_replicate] at j1
  exact jy _ _ _ j0 j1
 obtain ⟨r, r1, r3, r4, r5⟩ := packP_l0 bs hb hl bs.length 0 (List.replicate (((bs.length : Int) + 7) / 8).toNat 0) (by omega) (by omega) (by rw [List.length_replicate]; omega) (fun j j0 j1 => by rw [hz j j0 j1]; omega) (fun j j0 j1 => hz j (by omega) j1) (fun j1 => by rw [show (0 : Int) / 8 = 0 from rfl] at *; rw [hz 0 (by omega) j1]; rfl) (fun j a b => by omega)
 rw [List.length_replicate] at r3
 refine ⟨r, ?_, by omega, ⟨fun y hy => ?_, by omega⟩, r5⟩
 ·unfold wV.f
  rw [w1, ed, w2]
  exact vE.pos (by omega) (vE.pos (by omega) r1)
 ·obtain ⟨i, hi, he⟩ := List.getElem_of_mem hy
  have := r4 (i : Int) (by omega) (by omega)
  rw [jU r i hi, he] at this
  exact this
theorem blank_is (w h : Int) : zd.f w h = some (if Sid w h then (w, h, tab w h (fun _ _ => 0), 0) else (0, 0, [], 4)) := by
 unfold zd.f
 rw [fits_is, Option.bind_some]
 by_cases s : Sid w h
 ·have hm := kf s.1 s.2.1 s.2.2.1 s.2.2.2.1
  rw [if_pos (decide_eq_true s), if_pos s, yV (by omega) (by omega), if_pos (by omega), if_pos (by omega), replicate_tab s.1 s.2.1]
 ·rw [if_neg (by simpa using s), if_neg s]
def newR (w h c : Int) : Int × Int × List Int × Int := if w < 0 ∨ h < 0 ∨ (c ≠ 0 ∧ c ≠ 1) then (0, 0, [], 2) else if Sid w h then (w, h, tab w h (fun _ _ => c), 0) else (0, 0, [], 4)
theorem New_j0 (w h c : Int) (b : Bool) (hb : b = true ↔ (w < 0 ∨ h < 0 ∨ (c ≠ 0 ∧ c ≠ 1))) : vE (fun k => wN.j0 k w h c b) (· = newR w h c) := by
 refine vE.step (fun k => by rw [wN.j0]) ?_
 refine vE.ite (fun h1 => vE.ret ?_) (fun h1 => ?_)
 ·unfold newR
  rw [if_pos (hb.mp h1)]
 ·have hn : ¬ (w < 0 ∨ h < 0 ∨ (c ≠ 0 ∧ c ≠ 1)) := fun q => h1 (hb.mpr q)
  unfold newR
  rw [if_neg hn]
  refine vE.zz (blank_is w h) ?_
  by_cases s : Sid w h
  ·simp only [if_pos s]
   have hm := kf s.1 s.2.1 s.2.2.1 s.2.2.2.1
   have hlen : ((tab w h fun _ _ => (0 : Int)).length : Int) = w * h := by rw [ql]; omega
   refine vE.fill (L := fun k i l => wN.l0 k c 0 ((tab w h fun _ _ => 0).length : Int) i w h l) (tab w h fun _ _ => 0) (fun _ => c) ?_ ?_
   ·intro i l h0 h2 hl hr hk
    refine vE.step (fun k => by rw [wN.l0]) ?_
    refine vE.pos h2 (vE.pos h0 (vE.pos (by omega) ?_))
    rw [yV (by omega) (by omega), show c % 256 = c by omega]
    exact hk
   ·refine vE.step (fun k => by rw [wN.l0]) ?_
    refine vE.neg (by omega) (vE.ret ?_)
    rw [lmap_tab (w := w) (h := h) (g := fun _ _ => c) s.1 s.2.1 (by omega) (fun _ _ _ _ _ _ => rfl)]
  ·simp only [if_neg s]
   refine vE.step (fun k => by rw [wN.l0]) ?_
   exact vE.neg (by simp) (vE.ret rfl)
theorem New_is (w h c : Int) : vE (fun k => wN.f k w h c) (· = newR w h c) := by
 unfold wN.f
 refine vE.ite (fun h1 => New_j0 w h c true (by simp [h1])) (fun h1 => ?_)
 refine vE.ite (fun h2 => New_j0 w h c true (by simp [h2])) (fun h2 => ?_)
 refine vE.ite (fun h3 => New_j0 w h c _ (by simp; omega)) (fun h3 => New_j0 w h c _ (by simp; omega))
theorem jb.len {α β : Type} {R : α → β → Prop} {l : List α} {m : List β} (h : jb R l m) : l.length = m.length := by
 induction h with
 | nil => rfl
 | cons _ _ ih => rw [List.length_cons, List.length_cons, ih]
def kC (above row bs : List Int) : Prop := ∃ (d1 : List yP) (bss : List (List Int)), d1.length ≤ 201 ∧ vE (fun k => vB.f k above row) (· = d1) ∧ jb MBR d1 bss ∧ bs = bss.flatten
theorem bss_01 {d1 : List yP} {bss : List (List Int)} (h : jb MBR d1 bss) : B01 bss.flatten ∧ bss.flatten.length ≤ d1.length * 200 := by
 induction h with
 | nil => exact ⟨(fun b hb => by cases hb), Nat.le_refl _⟩
 | cons a t ih =>
  rw [List.flatten_cons, List.length_append, List.length_cons]
  exact ⟨B01.app a.2.2 ih.1, by have := a.2.1; have := ih.2; omega⟩
theorem kC.b01 {above row bs : List Int} (h : kC above row bs) : B01 bs ∧ bs.length ≤ 40200 := by
 obtain ⟨d1, bss, h1, h2, h3, rfl⟩ := h
 have := bss_01 h3
 exact ⟨this.1, by omega⟩
theorem jb.det {d1 : List yP} {b1 b2 : List (List Int)} (h : jb MBR d1 b1) : ∀ {b2 : List (List Int)}, jb MBR d1 b2 → b1 = b2 := by
 induction h with
 | nil => intro b2 k; cases k; rfl
 | cons a t ih =>
  intro b2 k
  cases k with
  | cons c u => rw [vE.det a.1 c.1, ih u]
theorem kC.det {above row a b : List Int} (h : kC above row a) (k : kC above row b) : a = b := by
 obtain ⟨d1, bss, h1, h2, h3, rfl⟩ := h
 obtain ⟨d2, css, k1, k2, k3, rfl⟩ := k
 obtain rfl := vE.det h2 k2
 rw [jb.det (b2 := css) h3 k3]
theorem twoP_row (above : List Int) (rows : List (List Int)) (m y : Int) (P : List Int × Int → Prop) (ds : List yP) : ∀ (d1 : List yP) (bss : List (List Int)) (i : Int) (out : List Int), jb MBR d1 bss → 0 ≤ i → ds.drop i.toNat = d1 → out.length + d1.length * 200 ≤ 50000000 → (ds.length : Int) ≤ 300 →
  vE (fun k => xd.l0 k (out ++ bss.flatten) above rows m (wrap64 (y + 1))) P → vE (fun k => xd.l1 k out above rows m y ds (ds.length : Int) i) P := by
 intro d1
 induction d1 with
 | nil =>
  intro bss i out h i0 hd ho hl hp
  cases h
  have : ds.length ≤ i.toNat := List.drop_eq_nil_iff.mp hd
  rw [List.flatten_nil, List.append_nil] at hp
  exact vE.step (fun k => by rw [xd.l1]) (vE.neg (by omega) hp)
 | cons a t ih =>
  intro bss i out h i0 hd ho hl hp
  cases h with
  | cons h1 h2 =>
   have hlt : i.toNat < ds.length := by
    rcases Nat.lt_or_ge i.toNat ds.length with z | z
    ·exact z
    ·rw [List.drop_eq_nil_of_le z] at hd
     cases hd
   rw [List.drop_eq_getElem_cons hlt] at hd
   injection hd with e1 e2
   have er : vS ds i = a := by simp [vS, List.getD, hlt, e1]
   rename_i b bs
   rw [List.length_cons] at ho
   refine vE.step (fun k => by rw [xd.l1]) (vE.pos (by omega) (vE.pos i0 (vE.pos (by omega) ?_)))
   rw [er, yV (x := i + 1) (by omega) (by omega)]
   refine vE.bind h1.1 ?_
   intro r hr
   rw [show r = b from hr]
   have := h1.2.1
   refine vE.pos (by omega) (ih bs (i + 1) (out ++ b) h2 (by omega) (by rw [show (i + 1).toNat = i.toNat + 1 by omega]; exact e2) (by rw [List.length_append]; omega) hl ?_)
   rw [List.flatten_cons, ← List.append_assoc] at hp
   exact hp
theorem rowF {above row : List Int} (ha : Px above) (hr : Px row) (he : above.length = row.length) : ∃ bs : List Int, kC above row bs ∧ ∀ (l : List Int) (p q : Int), zw l → 0 ≤ p → q ≤ en l → Are l p q bs → vE (fun k => wJ.f k l p true row.length above) (· = (row, 0, q, true)) := by
 have hl := hr.1
 obtain ⟨d1, bss, h1, h2, h3, h4⟩ := modesF ha hr he 201 (-1) 0 [] ⟨by omega, by omega, .inl rfl, fun z => by omega⟩ (by omega) (by decide)
 refine ⟨bss.flatten, ⟨d1, bss, h1, by unfold vB.f; exact h2, h3, rfl⟩, fun l p q hb p0 hq hA => ?_⟩
 unfold wJ.f
 exact h4 l p q hb p0 hq hA
theorem twoF {w h : Int} {p : List Int} (v : Val w h p) : ∀ (n : Nat) (y : Int), 0 ≤ y → h - y = n →
  ∃ bl : List (List Int), bl.length = n ∧ (∀ i : Nat, i < n → kC (kx w p (y + i)) (rowAt w p (y + i)) (bl.getD i [])) ∧ B01 bl.flatten ∧ bl.flatten.length ≤ n * 40200 ∧
   (∀ (out : List Int) (P : List Int × Int → Prop), out.length + n * 40200 ≤ 50000000 → vE (fun k => (wV.f k (out ++ bl.flatten)).bind fun bt => some (bt.1, bt.2)) P → vE (fun k => xd.l0 k out (kx w p y) ((List.range h.toNat).map fun y : Nat => rowAt w p y) (((List.range h.toNat).map fun y : Nat => rowAt w p y).length : Int) y) P) ∧
   (∀ (l : List Int) (s q : Int), zw l → 0 ≤ s → q ≤ en l → Are l s q bl.flatten → vE (fun k => wU.l0 k l w h s true (kx w p y) y (p.take (y * w).toNat)) (· = (w, h, p, q, 0))) := by
 have hh := v.2.2.2.1
 have hh0 := v.2.1
 have w0 := v.1
 have hv := v.2.2.2.2.2.1
 have hw1 := v.2.2.1
 have hlen : (((List.range h.toNat).map fun y : Nat => rowAt w p y).length : Int) = h := by rw [List.length_map, List.length_range]; omega
 intro n
 induction n with
 | zero =>
  intro y y0 hn
  refine ⟨[], rfl, (fun i hi => by omega), (fun b hb => by cases hb), Nat.le_refl _, fun out P ho hp => ?_, fun l s q hb s0 hq hA => ?_⟩
  ·rw [List.flatten_nil, List.append_nil] at hp
   exact vE.step (fun k => by rw [xd.l0]) (vE.neg (by omega) hp)
  ·have hq' := hA.len
   simp only [List.flatten_nil, List.length_nil] at hq'
   refine vE.step (fun k => by rw [wU.l0]) (vE.neg (by omega) ?_)
   refine vE.zz (a := (s, s, true)) (by simp [yX.f, xr.f]) (vE.ret ?_)
   have : y = h := by omega
   rw [List.take_of_length_le (by rw [this, Int.mul_comm]; omega)]
   congr 4
   omega
 | succ n ih =>
  intro y y0 hn
  have y1 : y < h := by omega
  obtain ⟨hpx, hw⟩ := qc v y0 y1
  obtain ⟨upx, uw, _⟩ := upAt_is v y0 y1
  obtain ⟨m0, m1, m2, m3⟩ := mulB v y0 y1
  obtain ⟨bs, r1, r2⟩ := rowF upx hpx (by omega)
  obtain ⟨bl, b1, b2, b3, b4, b5, b6⟩ := ih (y + 1) (by omega) (by omega)
  have c1 := r1.b01
  have wy : wrap64 (y + 1) = y + 1 := yV (by omega) (by omega)
  have eu : kx w p (y + 1) = rowAt w p y := by
   unfold kx
   rw [if_neg (by omega), show y + 1 - 1 = y by omega]
  rw [eu] at b5 b6
  refine ⟨bs :: bl, by rw [List.length_cons, b1], fun i hi => ?_, by rw [List.flatten_cons]; exact c1.1.app b3, by rw [List.flatten_cons, List.length_append]; have := c1.2; omega, fun out P ho hp => ?_, fun l s q hb s0 hq hA => ?_⟩
  ·cases i with
   | zero => simpa using r1
   | succ i =>
    have := b2 i (by omega)
    rw [show y + 1 + (i : Int) = y + ((i + 1 : Nat) : Int) by omega] at this
    simpa using this
  ·obtain ⟨d1, bss, q1, q2, q3, q4⟩ := r1
   refine vE.step (fun k => by rw [xd.l0]) (vE.pos (by omega) (vE.pos y0 (vE.pos (by omega) ?_)))
   rw [rd_lines y0 y1]
   refine vE.bind q2 ?_
   intro r_ hr_
   rw [show r_ = d1 from hr_]
   refine twoP_row (rowAt w p y) _ _ y P d1 d1 bss 0 out q3 (by omega) rfl (by omega) (by omega) ?_
   rw [wy]
   refine b5 _ P (by rw [List.length_append]; have := c1.2; rw [q4] at this; omega) ?_
   rw [List.flatten_cons, q4, ← List.append_assoc] at hp
   exact hp
  ·rw [List.flatten_cons] at hA
   obtain ⟨A1, A2⟩ := hA.parts
   have l2 := A2.len
   have hone := r2 l s _ hb s0 (by omega) A1
   rw [hw] at hone
   refine vE.step (fun k => by rw [wU.l0]) (vE.pos (by omega) ?_)
   refine vE.bind hone ?_
   rintro _ rfl
   have hlt : ((p.take (y * w).toNat).length : Int) = y * w := by rw [List.length_take]; omega
   have hj : p.take (y * w).toNat ++ rowAt w p y = p.take ((y + 1) * w).toNat := by
    unfold rowAt
    have : p.take (y * w).toNat = (p.take ((y + 1) * w).toNat).take (y * w).toNat := by rw [List.take_take, Nat.min_eq_left (by omega)]
    rw [this, List.take_append_drop]
   refine vE.pos rfl (vE.pos (show (p.take (y * w).toNat).length + (rowAt w p y).length < 140737488355328 by omega) ?_)
   rw [wy, hj]
   exact b6 l _ q hb (show 0 ≤ s + (bs.length : Int) by omega) hq A2
theorem twoBack {w h : Int} {p : List Int} (v : Val w h p) : ∃ (bl : List (List Int)) (r : List Int), (bl.length : Int) = h ∧ (∀ i : Nat, (i : Int) < h → kC (kx w p i) (rowAt w p i) (bl.getD i [])) ∧ vE (fun k => xd.f k w h p) (· = (r, 0)) ∧ zw r ∧ (r.length : Int) = ((bl.flatten.length : Int) + 7) / 8 ∧ bl.flatten.length ≤ 8040000 ∧ Are r 0 bl.flatten.length bl.flatten ∧
  ∀ (l : List Int) (q : Int), zw l → q ≤ en l → Are l 0 q bl.flatten → vE (fun k => yg.f k l w h) (· = (w, h, p, q, 0)) := by
 obtain ⟨w0, h0, w1, h1, wh, hlen, h01⟩ := id v
 obtain ⟨bl, b1, b2, b3, b4, b5, b6⟩ := twoF v h.toNat 0 (by omega) (by omega)
 obtain ⟨r, p1, p2, p3, p4⟩ := packP bl.flatten b3 (by omega)
 rw [show kx w p 0 = List.replicate w.toNat 0 from if_pos rfl] at b5 b6
 refine ⟨bl, r, by omega, fun i hi => ?_, ?_, p3, p2, by omega, ⟨by omega, fun j j0 j1 => by rw [Int.zero_add]; exact p4 j j0 j1⟩, fun l q hb hq hA => ?_⟩
 ·have := b2 i (by omega)
  rwa [Int.zero_add] at this
 ·unfold xd.f
  refine vE.bind (Valid_is w h p (fun x hx => (h01 x hx).1) (by have := kf w0 h0 w1 h1; omega)) ?_
  rintro _ rfl
  refine vE.pos (decide_eq_true v) (vE.pos v.1 (vE.pos (by have := v.2.2.1; omega) ?_))
  refine vE.bind (lines_is v) ?_
  rintro _ rfl
  refine b5 [] _ (by simp; omega) ?_
  rw [List.nil_append]
  refine vE.bind p1 ?_
  rintro _ rfl
  exact vE.ret rfl
 ·have h2 := hb.2
  unfold yg.f wU.f
  refine vE.bind (New_is w h 0) ?_
  rintro _ rfl
  unfold newR
  rw [if_neg (by omega), if_pos v.sid]
  have := b6 l 0 q hb (by omega) hq hA
  rw [show ((0 : Int) * w).toNat = 0 by simp, List.take_zero] at this
  exact vE.pos rfl (vE.pos w0 (vE.pos (by omega) (vE.pos (by omega) this)))
def chN : Int → List Int → Nat
 | _, [] => 0
 | p, x :: xs => (if x = p then 0 else 1) + chN x xs
theorem chN_same {row : List Int} {c x : Int} (x1 : x ≤ row.length) : ∀ (n : Nat) (z : Int), 0 ≤ z → z ≤ x → x - z = n → (∀ j, z ≤ j → j < x → rd row j = c) → chN c (row.drop z.toNat) = chN c (row.drop x.toNat) := by
 intro n
 induction n with
 | zero => intro z z0 zx hn h; rw [show z = x by omega]
 | succ n ih =>
  intro z z0 zx hn h
  rw [drop_rd z0 (by omega), chN, h z (by omega) (by omega), if_pos rfl, ih (z + 1) (by omega) (by omega) (by omega) (fun j j0 j1 => h j (by omega) j1)]
  omega
theorem marksS {row : List Int} (hr : Px row) {c x : Int} (hc : c = 0 ∨ c = 1) (x1 : x ≤ row.length) (h4 : x < row.length → rd row x = 1 - c) (hp : 0 < x → x < row.length → rd row (x - 1) = c) (hz : x = 0 → c = 0) : ∀ (n : Nat) (z : Int), 0 ≤ z → z ≤ x → x - z = n → (∀ j, z ≤ j → j < x → rd row j = c) → ∃ b2 : Int, x ≤ b2 ∧ vE (fun k => ww.l0 k row c z) (· = (x, b2)) := by
 have hl := hr.1
 have mnx : ∀ x : Int, x ≤ (row.length : Int) → mn x (row.length : Int) = x := fun x hx => by
  unfold mn
  split <;> omega
 intro n
 induction n with
 | zero =>
  intro z z0 zx hn h
  obtain rfl : z = x := by omega
  obtain ⟨b2, y1, y2, y3, y4, y5⟩ := chg_is hr c z (by omega) x1
  refine ⟨b2, by omega, ?_⟩
  have last : vE (fun k => (vQ.f k row (mn z (row.length : Int)) c).bind fun t => some (mn z (row.length : Int), t)) (· = (z, b2)) := by
   rw [mnx z x1]
   refine vE.bind y5 ?_
   rintro _ rfl
   exact vE.ret rfl
  refine vE.step (fun k => by rw [ww.l0]) (vE.ite (fun hx => ?_) (fun _ => last))
  have e1 := h4 hx
  refine vE.ite (fun xp => ?_) (fun xn => ?_)
  ·rw [yV (x := z - 1) (by omega) (by omega)]
   exact vE.pos (by omega) (vE.pos (by omega) (vE.pos z0 (vE.neg (by omega) (vE.pos (hp (by omega) hx) last))))
  ·have := hz (by omega)
   exact vE.pos z0 (vE.neg (by omega) (vE.pos (by omega) last))
 | succ n ih =>
  intro z z0 zx hn h
  obtain ⟨b2, g1, g2⟩ := ih (z + 1) (by omega) (by omega) (by omega) (fun j j0 j1 => h j (by omega) j1)
  refine ⟨b2, g1, ?_⟩
  have e1 := h z (by omega) (by omega)
  refine vE.step (fun k => by rw [ww.l0]) (vE.pos (by omega) ?_)
  rw [yV (x := z + 1) (by omega) (by omega)]
  refine vE.ite (fun xp => ?_) (fun xn => vE.pos z0 (vE.pos e1 g2))
  rw [yV (x := z - 1) (by omega) (by omega)]
  exact vE.pos (by omega) (vE.pos (by omega) (vE.pos z0 (vE.pos e1 g2)))
def up0 : yP := ⟨(⟨#[117, 112]⟩ : ByteArray), 0, (⟨0, 0⟩ : jg), 0⟩
theorem modesS {row : List Int} (hr : Px row) (h0 : 0 < row.length) : ∀ (n : Nat) (a c : Int) (o : List yP), At06 row a c → (a = -1 → c = 0) → a < row.length → (row.length : Int) - a ≤ n → o.length + n ≤ 500 → vE (fun k => vB.l0 k row row o a c row.length) (· = o ++ List.replicate (chN c (row.drop (a + 1).toNat) + 1) up0) := by
 have hl := hr.1
 intro n
 induction n with
 | zero => intro a c o hA hz ha hn; omega
 | succ n ih =>
  intro a c o hA hz ha hn ho
  obtain ⟨a0, a1, hc, hrow⟩ := id hA
  obtain ⟨x, x1, x2, x3, x4, x5⟩ := chg_is hr (1 - c) a a0 (by omega)
  have ex : a < x := by omega
  have same : ∀ j, a < j → j < x → rd row j = c := fun j j0 j1 => by
   have q1 := x3 j (by omega) j1
   have q2 := hr.at (i := j) (by omega) (by omega)
   omega
  obtain ⟨b2, g1, g2⟩ := marksS hr hc x2 x4 (fun p q => by
   by_cases z : x - 1 = a
   ·rw [z]; exact hrow (by omega) (by omega)
   ·exact same (x - 1) (by omega) (by omega)) (fun z => hz (by omega)) (x - (a + 1)).toNat (a + 1) (by omega) (by omega) (by omega) (fun j j0 j1 => same j (by omega) j1)
  have e256 : (1 - c) % 256 = 1 - c := by omega
  have ec := chN_same x2 (x - (a + 1)).toNat (a + 1) (by omega) (by omega) (by omega) (fun j j0 j1 => same j (by omega) j1)
  refine vE.step (fun k => by rw [vB.l0]) (vE.pos ha ?_)
  refine vE.step (fun k => by rw [vB.j1]) (vE.pos (decide_eq_true (show (row.length : Int) > 0 by omega)) ?_)
  refine vE.bind (Q := (· = (x, b2))) ?_ ?_
  ·unfold ww.f
   rw [yV (x := a + 1) (by omega) (by omega)]
   exact g2
  rintro _ rfl
  rw [e256]
  refine vE.bind x5 ?_
  intro r_ hr_
  rw [show r_ = x from hr_]
  refine vE.neg (show ¬ b2 < x by omega) ?_
  dsimp only
  rw [show x - x = 0 by omega, yV (x := 0) (by omega) (by omega)]
  refine vE.pos (by decide) (vE.pos (by decide) (vE.pos (by omega) ?_))
  rw [ec]
  by_cases hx : x < row.length
  ·have := ih x (1 - c) (o ++ [up0]) ⟨by omega, x2, by omega, fun _ z => x4 z⟩ (fun z => by omega) hx (by omega) (by rw [List.length_append]; show o.length + 1 + n ≤ 500; omega)
   refine this.mono ?_
   rintro _ rfl
   rw [drop_rd (by omega) hx, chN, x4 hx, if_neg (by omega), List.append_assoc]
   congr 1
   rw [show 1 + chN (1 - c) (List.drop (x + 1).toNat row) + 1 = (chN (1 - c) (List.drop (x + 1).toNat row) + 1) + 1 by omega, List.replicate_succ (n := chN (1 - c) (List.drop (x + 1).toNat row) + 1)]
   rfl
  ·rw [drop_end (by omega)]
   have no : vE (fun k => vB.j1 k row row (o ++ [up0]) x (1 - c) row.length false) (· = o ++ [up0]) := vE.step (fun k => by rw [vB.j1]) (vE.neg (by decide) (vE.ret rfl))
   refine vE.step (fun k => by rw [vB.l0]) ?_
   exact vE.neg hx no
theorem up0_bits : ∀ n : Nat, jb MBR (List.replicate n up0) (List.replicate n [1])
 | 0 => .nil
 | n + 1 => .cons ⟨vE.of (fun k => we.mono _ _ _ _ _ k) (show we.f 20 (⟨#[117, 112]⟩ : ByteArray) 0 0 0 0 = some [1] by decide +kernel), by decide, by decide⟩ (up0_bits n)
theorem ones_len : ∀ n : Nat, (List.replicate n ([1] : List Int)).flatten.length = n
 | 0 => rfl
 | n + 1 => by rw [List.replicate_succ, List.flatten_cons, List.length_append, ones_len n]; simp; omega
theorem chN_le : ∀ (l : List Int) (p : Int), chN p l ≤ l.length
 | [], _ => Nat.le_refl _
 | x :: xs, p => by have := chN_le xs x; rw [chN, List.length_cons]; split <;> omega
theorem rowS {row : List Int} (hr : Px row) (h0 : 0 < row.length) : vE (fun k => vB.f k row row) (· = List.replicate (chN 0 row + 1) up0) ∧ ∀ bs, kC row row bs → bs.length = chN 0 row + 1 := by
 have hl := hr.1
 have := modesS hr h0 201 (-1) 0 [] ⟨by omega, by omega, .inl rfl, fun z => by omega⟩ (fun _ => rfl) (by omega) (by omega) (by decide)
 rw [List.nil_append, show ((-1 : Int) + 1).toNat = 0 from rfl, List.drop_zero] at this
 have hm : vE (fun k => vB.f k row row) (· = List.replicate (chN 0 row + 1) up0) := by unfold vB.f; exact this
 refine ⟨hm, fun bs hb => ?_⟩
 have hc := chN_le row 0
 rw [kC.det hb ⟨_, _, by rw [List.length_replicate]; omega, hm, up0_bits _, rfl⟩, ones_len]
theorem isRow06_is (l : List Int) (hb : ∀ x ∈ l, 0 ≤ x) (hl : (l.length : Int) ≤ 9223372036854775806) : vE (fun k => wQ.f k l) (· = decide ((l.length : Int) ≤ 200 ∧ ∀ x ∈ l, x ≤ 1)) := by
 unfold wQ.f
 refine vE.ite (fun a => ?_) (fun a => vE.ret (decide_eq_false (fun z => a z.1)).symm)
 have row : vE (fun k => wg.f k l) (· = decide (∀ x ∈ l, x ≤ 1)) := by
  unfold wg.f
  refine vE.up (L := fun k i (_ : Unit) => wg.l0 k l (l.length : Int) i) (fun i _ => 0 ≤ i ∧ ∀ j, 0 ≤ j → j < i → rd l j ≤ 1) l.length ?_ 0 () (by omega) ⟨by omega, fun j a b => by omega⟩
  intro i _ ⟨i0, hi⟩ hn ih
  refine vE.step (fun k => by rw [wg.l0]) ?_
  refine vE.ite (fun i1 => vE.pos i0 (vE.pos i1 (vE.ite (fun c => vE.ret ?_) (fun c => ?_)))) (fun i1 => vE.ret ?_)
  ·exact (decide_eq_false (fun z => by have := z _ (kz i0 i1); omega)).symm
  ·rw [yV (x := i + 1) (by omega) (by omega)]
   refine ih () i1 ⟨by omega, fun j a b => ?_⟩
   by_cases z : j = i
   ·subst z; omega
   ·exact hi j a (by omega)
  ·refine (decide_eq_true (fun x hx => ?_)).symm
   obtain ⟨n, hn', rfl⟩ := List.getElem_of_mem hx
   have := hi n (by omega) (by omega)
   rw [jU l n hn'] at this
   exact this
 refine vE.bind row ?_
 rintro _ rfl
 exact vE.ret (decide_eq_decide.mpr ⟨fun z => ⟨a, z⟩, fun z => z.2⟩)
theorem runsIsRow_is (l : List Int) (hl : (l.length : Int) ≤ 9223372036854775806) : vE (fun k => xK.f k l) (· = decide ((l.length : Int) ≤ 200 ∧ ∀ x ∈ l, x ≤ 1)) := by
 unfold xK.f
 refine vE.ite (fun a => ?_) (fun a => vE.ret (decide_eq_false (fun z => a z.1)).symm)
 have row : vE (fun k => wR.f k l) (· = decide (¬ ∀ x ∈ l, x ≤ 1)) := by
  unfold wR.f vD.f
  refine vE.bind (Q := fun r => (0 ≤ r ↔ ¬ ∀ x ∈ l, x ≤ 1)) ?_ ?_
  ·refine vE.up (L := fun k i (_ : Unit) => vD.l0 k l (l.length : Int) i) (fun i _ => 0 ≤ i ∧ ∀ j, 0 ≤ j → j < i → rd l j ≤ 1) l.length ?_ 0 () (by omega) ⟨by omega, fun j a b => by omega⟩
   intro i _ ⟨i0, hi⟩ hn ih
   refine vE.step (fun k => by rw [vD.l0]) ?_
   refine vE.ite (fun i1 => vE.pos i0 (vE.pos i1 (vE.zz (zu.f.eq_1 _) (vE.ite (fun c => vE.ret ?_) (fun c => ?_))))) (fun i1 => vE.ret ?_)
   ·have c := of_decide_eq_true c
    exact ⟨fun _ z => by have := z _ (kz i0 i1); omega, fun _ => i0⟩
   ·have c : ¬ rd l i > 1 := fun z => c (decide_eq_true z)
    rw [yV (x := i + 1) (by omega) (by omega)]
    refine ih () i1 ⟨by omega, fun j a b => ?_⟩
    by_cases z : j = i
    ·subst z; omega
    ·exact hi j a (by omega)
   ·refine ⟨fun z => absurd z (by decide), fun z => absurd (fun x hx => ?_) z⟩
    obtain ⟨n, hn', rfl⟩ := List.getElem_of_mem hx
    have := hi n (by omega) (by omega)
    rw [jU l n hn'] at this
    exact this
  ·intro r hr
   exact vE.ret (decide_eq_decide.mpr hr)
 refine vE.bind row ?_
 rintro _ rfl
 refine vE.ret ?_
 by_cases z : ∀ x ∈ l, x ≤ 1
 ·rw [decide_eq_true (show (l.length : Int) ≤ 200 ∧ ∀ x ∈ l, x ≤ 1 from ⟨a, z⟩), decide_eq_false (fun y => y z)]
  rfl
 ·rw [decide_eq_false (show ¬ ((l.length : Int) ≤ 200 ∧ ∀ x ∈ l, x ≤ 1) from fun y => z y.2), decide_eq_true z]
  rfl
theorem byt06 {l : List Int} (g : l.length ≤ 9223372036854775807 ∧ l.length * 1 ≤ 140737488351232 ∧ ∀ y0_ ∈ l, (Lit.int .u8 y0_).wf = true) : zw l := ⟨fun y hy => wf_byt g.2.2 y hy, by omega⟩
theorem rowAt_mid {w y : Int} {a b c : List Int} (w0 : 0 ≤ w) (y0 : 0 ≤ y) (ha : (a.length : Int) = y * w) (hb : (b.length : Int) = w) : rowAt w (a ++ (b ++ c)) y = b := by
 unfold rowAt
 have e : (y + 1) * w = y * w + w := by rw [Int.add_mul, Int.one_mul]
 have hm : 0 ≤ y * w := Int.mul_nonneg y0 w0
 rw [e, show (y * w + w).toNat = a.length + b.length by omega, show (y * w).toNat = a.length by omega]
 rw [← List.append_assoc, List.take_append_of_le_length (by simp), List.take_of_length_le (by simp), List.drop_left]
theorem ki (row : List Int) : ∀ n : Nat, ((List.replicate n row).flatten.length : Int) = n * row.length
 | 0 => by simp
 | n + 1 => by rw [List.replicate_succ, List.flatten_cons, List.length_append, Int.natCast_add, ki row n, Int.natCast_add, Int.add_mul]; simp; omega
theorem many_mem (row : List Int) : ∀ (n : Nat), ∀ x ∈ (List.replicate n row).flatten, x ∈ row
 | n, x, hx => by
  obtain ⟨l, hl, h⟩ := List.mem_flatten.mp hx
  rw [(List.mem_replicate.mp hl).2] at h
  exact h
theorem kg (row : List Int) (n : Nat) (i : Nat) (hi : i < n) : rowAt row.length ((List.replicate n row).flatten) i = row := by
 have e : (List.replicate n row).flatten = (List.replicate i row).flatten ++ (row ++ (List.replicate (n - i - 1) row).flatten) := by
  have : n = i + ((n - i - 1) + 1) := by omega
  rw [← List.flatten_cons, ← List.replicate_succ, ← List.flatten_append, List.replicate_append_replicate, ← this]
 rw [e]
 exact rowAt_mid (by omega) (by omega) (ki row i) rfl
theorem jb.snd {d1 : List yP} {d2 : List jf} (h : jb MB d1 d2) : jb MBR d1 (d2.map (·.f1)) := by
 induction h with
 | nil => exact .nil
 | cons a t ih => exact .cons ⟨a.1, a.2.1, a.2.2⟩ ih
theorem refTwo_row (y w h : Int) (p : List Int) (P : List Int → Prop) (ds : List jf) (hl : ds.length ≤ 300) (hb : ∀ m ∈ ds, m.f1.length ≤ 200) : ∀ (n : Nat) (i : Int) (out : List Int), 0 ≤ i → (ds.length : Int) - i = n → out.length + n * 200 ≤ 50000000 →
  vE (fun k => vt.l0 k (out ++ ((ds.drop i.toNat).map (·.f1)).flatten) (wrap64 (y + 1)) w h p) P → vE (fun k => vt.l1 k out y ds (ds.length : Int) i w h p) P := by
 intro n
 induction n with
 | zero =>
  intro i out i0 hn ho hp
  rw [List.drop_eq_nil_of_le (by omega)] at hp
  simp only [List.map_nil, List.flatten_nil, List.append_nil] at hp
  exact vE.step (fun k => by rw [vt.l1]) (vE.neg (by omega) hp)
 | succ n ih =>
  intro i out i0 hn ho hp
  have hlt : i.toNat < ds.length := by omega
  have e : xJ ds i = ds[i.toNat] := by simp [xJ, List.getD, hlt]
  have := hb _ (List.getElem_mem hlt)
  rw [List.drop_eq_getElem_cons hlt, List.map_cons, List.flatten_cons, ← List.append_assoc] at hp
  refine vE.step (fun k => by rw [vt.l1]) (vE.pos (by omega) (vE.pos i0 (vE.pos (by omega) ?_)))
  rw [e, yV (x := i + 1) (by omega) (by omega)]
  refine vE.pos (by omega) (ih (i + 1) _ (by omega) (by omega) (by rw [List.length_append]; omega) ?_)
  rw [show (i + 1).toNat = i.toNat + 1 by omega]
  exact hp
theorem ref_first {row : List Int} (hr : Px row) (h0 : 0 < row.length) : ∃ bs : List Int, kC (List.replicate row.length 0) row bs ∧ vE (fun k => vt.f k row.length 1 row) (· = bs) := by
 have hl := hr.1
 have v : Val row.length 1 row := ⟨by omega, by omega, hl, by omega, by omega, by omega, fun x hx => by rcases hr.2 x hx with rfl | rfl <;> omega⟩
 have hwh : Px (List.replicate row.length (0 : Int)) := ⟨by rw [List.length_replicate]; exact hl, fun x hx => .inl (List.eq_of_mem_replicate hx)⟩
 obtain ⟨d1, d2, m1, m2, m3, m4⟩ := modes_both hwh hr (by rw [List.length_replicate])
 have e := m4.len
 have hs : ∀ {a : List yP} {b : List jf}, jb MB a b → ∀ m ∈ b, m.f1.length ≤ 200 := fun h => by
  induction h with
  | nil => intro m hm; cases hm
  | cons x t ih => intro m hm; rcases List.mem_cons.mp hm with rfl | hm; exact x.2.1; exact ih m hm
 refine ⟨(d2.map (·.f1)).flatten, ⟨d1, _, m1, m2, m4.snd, rfl⟩, ?_⟩
 unfold vt.f
 refine vE.step (fun k => by rw [vt.l0]) (vE.pos (by decide) ?_)
 have r1 : xf.f row.length 1 row (wrap64 (0 - 1)) = some (List.replicate row.length 0) := by
  have := kE (w := row.length) (h := 1) (p := row) (by omega) hl
  rw [yV (x := 0 - 1) (by omega) (by omega)]
  exact this
 have r2 : xf.f row.length 1 row 0 = some row := by
  rw [rowOf_is v (by omega) (by omega)]
  congr 1
  have := kg row 1 0 (by omega)
  simpa using this
 refine vE.zz r1 (vE.zz r2 ?_)
 refine vE.bind m3 ?_
 intro r_ hr_
 rw [show r_ = d2 from hr_]
 refine refTwo_row 0 _ _ _ _ d2 (by omega) (hs m4) d2.length 0 [] (by omega) (by omega) (by simp; omega) ?_
 rw [List.nil_append, show ((0 : Int)).toNat = 0 from rfl, List.drop_zero]
 exact vE.step (fun k => by rw [vt.l0]) (vE.neg (by rw [yV (x := 0 + 1) (by omega) (by omega)]; omega) (vE.ret rfl))
theorem names_up0 (n : Nat) (hn : n ≤ 300) : ∀ (m : Nat) (i : Int) (out : List ByteArray), 0 ≤ i → (n : Int) - i = m → (out.length : Int) = i → vE (fun k => wt.l0 k out (List.replicate n up0) n i) (fun r => (r.1.length : Int) = n ∧ r.2 = 0) := by
 intro m
 induction m with
 | zero => intro i out i0 hm ho; exact vE.step (fun k => by rw [wt.l0]) (vE.neg (by omega) (vE.ret ⟨by show (out.length : Int) = n; omega, rfl⟩))
 | succ m ih =>
  intro i out i0 hm ho
  have er : vS (List.replicate n up0) i = up0 := by simp [vS, List.getD, show i.toNat < n by omega]
  refine vE.step (fun k => by rw [wt.l0]) (vE.pos (by omega) (vE.pos i0 (vE.pos (by rw [List.length_replicate]; omega) ?_)))
  rw [er, yV (x := i + 1) (by omega) (by omega)]
  refine vE.pos (by decide +kernel) ?_
  obtain ⟨s, hs, hz⟩ : ∃ s, yF.f up0.f1 = some s ∧ s.size ≤ 100 := ⟨(yF.f up0.f1).getD ⟨#[]⟩, by decide +kernel, by decide +kernel⟩
  refine vE.zz hs (vE.pos ?_ (vE.pos (by omega) (ih (i + 1) _ (by omega) (by omega) (by rw [List.length_append]; simp; omega))))
  have : up0.f0.size = 2 := by decide +kernel
  omega
theorem ite01 (p : Prop) [Decidable p] : (if p then 0 else 1 : Nat) ≤ 1 := by split <;> omega
theorem same_l0 {row : List Int} {many : Int} (hr : Px row) (P : Bool → Prop) : ∀ (n : Nat) (i x : Int), 0 ≤ i → (row.length : Int) - i = n → 0 ≤ x → x ≤ 1000 - n →
  vE (fun k => vp.l1 k row many (x + chN (if i = 0 then 0 else rd row (i - 1)) (row.drop i.toNat)) many 0 row.length many []) P → vE (fun k => vp.l0 k row many x row.length i row.length many) P := by
 have hl := hr.1
 intro n
 induction n with
 | zero =>
  intro i x i0 hn x0 x1 hp
  rw [drop_end (by omega)] at hp
  simp only [chN, Int.natCast_zero, Int.add_zero] at hp
  refine vE.step (fun k => by rw [vp.l0]) ?_
  exact vE.neg (by omega) hp
 | succ n ih =>
  intro i x i0 hn x0 x1 hp
  have hi : i < (row.length : Int) := by omega
  rw [drop_rd i0 hi, chN] at hp
  have wi : wrap64 (i + 1) = i + 1 := yV (by omega) (by omega)
  have wx : wrap64 (x + 1) = x + 1 := yV (by omega) (by omega)
  have hd : (if rd row i = (if i = 0 then 0 else rd row (i - 1)) then 0 else 1 : Nat) ≤ 1 := ite01 _
  generalize hD : (if rd row i = (if i = 0 then 0 else rd row (i - 1)) then 0 else 1 : Nat) = D at hp hd
  have go : ∀ y, y = x + (D : Int) → vE (fun k => vp.l0 k row many y row.length (i + 1) row.length many) P := fun y hy => by
   refine ih (i + 1) y (by omega) (by omega) (by omega) (by omega) ?_
   rw [if_neg (by omega), show i + 1 - 1 = i by omega, hy, Int.add_assoc, ← Int.natCast_add]
   exact hp
  refine vE.step (fun k => by rw [vp.l0]) (vE.pos hi ?_)
  rw [wi, wx]
  by_cases z : i = 0
  ·subst z
   have p01 := hr.at (i := 0) (by omega) hi
   refine vE.pos rfl (vE.pos hi ?_)
   refine vE.ite (fun e => go _ ?_) (fun e => vE.neg (by omega) (go _ ?_))
   ·rw [← hD, if_pos rfl, if_neg (by omega)]; rfl
   ·rw [← hD, if_pos rfl, if_pos (by omega)]; omega
  ·refine vE.neg z (vE.pos (by omega) ?_)
   rw [yV (x := i - 1) (by omega) (by omega)]
   refine vE.pos i0 (vE.pos hi (vE.pos (by omega) (vE.pos (by omega) ?_)))
   refine vE.ite (fun e => go _ ?_) (fun e => go _ ?_)
   ·rw [← hD, if_neg z, if_pos e]; omega
   ·rw [← hD, if_neg z, if_neg e]; rfl
theorem copy_l1 {row : List Int} {many x : Int} (P : Bool → Prop) (hl : (row.length : Int) ≤ 200) (m : Nat) (hm : many = m) (h20 : m ≤ 20) : ∀ (n i : Nat), i + n = m → vE (fun k => vp.l1 k row many x many many row.length many (List.replicate m row).flatten) P → vE (fun k => vp.l1 k row many x many (i : Int) row.length many (List.replicate i row).flatten) P := by
 intro n
 induction n with
 | zero =>
  intro i hi hp
  obtain rfl : i = m := by omega
  rw [← hm]; exact hp
 | succ n ih =>
  intro i hi hp
  have e := ki row i
  have : (i : Int) * row.length ≤ 20 * 200 := Int.mul_le_mul (by omega) hl (by omega) (by omega)
  refine vE.step (fun k => by rw [vp.l1]) (vE.pos (by omega) (vE.pos (by omega) ?_))
  have e2 : (List.replicate i row).flatten ++ row = (List.replicate (i + 1) row).flatten := by rw [List.replicate_succ', List.flatten_append]; simp
  rw [yV (x := (i : Int) + 1) (by omega) (by omega), e2, show (i : Int) + 1 = ((i + 1 : Nat) : Int) by omega]
  exact ih (i + 1) (by omega) hp
theorem flat_len (c : Nat) : ∀ bl : List (List Int), (∀ b ∈ bl, b.length = c) → bl.flatten.length = bl.length * c
 | [], _ => by simp
 | b :: bl, h => by rw [List.flatten_cons, List.length_append, h b List.mem_cons_self, flat_len c bl (fun x hx => h x (List.mem_cons_of_mem _ hx)), List.length_cons, Nat.add_mul]; omega
theorem RunsSame : vp.Pure := by
 intro row many g0 g1
 have hb0 := byt06 g0
 have hb : ∀ x ∈ row, 0 ≤ x := fun x hx => (hb0.1 x hx).1
 have awake : vE (fun k => (vI.f k).bind fun t => some t) (· = true) := vE.bind Awake06_is (by rintro _ rfl; exact vE.ret rfl)
 have aj : vE (fun k => vp.j0 k row many true) (· = true) := vE.step (fun k => by rw [vp.j0]) (vE.pos rfl awake)
 refine vE.rounds (g := fun k => vp.f k row many) ?_
 unfold vp.f
 have hln := hb0.2
 refine vE.bind (isRow06_is row hb (by omega)) ?_
 rintro _ rfl
 refine vE.ite (fun a => ?_) (fun _ => aj)
 obtain ⟨hl, h01⟩ := of_decide_eq_true a
 have hr : Px row := ⟨hl, fun y hy => by have := hb y hy; have := h01 y hy; omega⟩
 refine vE.ite (fun _ => aj) (fun b => vE.ite (fun _ => aj) (fun c => vE.ite (fun _ => aj) (fun d => ?_)))
 have h0 : 0 < row.length := by omega
 obtain ⟨m, rfl⟩ : ∃ m : Nat, many = m := ⟨many.toNat, by omega⟩
 have hmul : (row.length : Int) * m ≤ 200 * 20 := Int.mul_le_mul hl (by omega) (by omega) (by omega)
 have hmul0 : 0 ≤ (row.length : Int) * m := Int.mul_nonneg (by omega) (by omega)
 rw [yV (x := (row.length : Int) * m) (by omega) (by omega)]
 refine vE.step (fun k => by rw [vp.j0]) (vE.ite (fun _ => awake) (fun e => ?_))
 have e8 : (row.length : Int) * m ≤ 8192 := by
  rw [decide_eq_true_iff] at e
  omega
 refine same_l0 hr _ row.length 0 0 (by omega) (by omega) (by omega) (by omega) ?_
 rw [if_pos rfl, show ((0 : Int)).toNat = 0 from rfl, List.drop_zero, Int.zero_add]
 have hch := chN_le row 0
 obtain ⟨hm1, hm2⟩ := rowS hr h0
 generalize chN 0 row = ch at hch hm1 hm2 ⊢
 refine copy_l1 (x := (ch : Int)) (fun x => x = true) hl m rfl (by omega) m 0 (by omega) ?_
 have hpl := ki row m
 have hcm : (m : Int) * row.length = row.length * m := Int.mul_comm _ _
 have v : Val row.length m (List.replicate m row).flatten := ⟨by omega, by omega, hl, by omega, e8, by omega, fun x hx => by rcases hr.2 x (many_mem row m x hx) with rfl | rfl <;> omega⟩
 obtain ⟨bl, r, b1, b2, b3, b4, b5, b6, b7, b8⟩ := twoBack v
 obtain ⟨bs, f1, f2⟩ := ref_first hr h0
 have hfl := f1.b01.2
 have rest : ∀ i : Nat, 0 < i → i < m → (bl.getD i []).length = ch + 1 := fun i i0 i1 => by
  have := b2 i (by omega)
  rw [kg row m i i1] at this
  unfold kx at this
  rw [if_neg (by omega), show (i : Int) - 1 = ((i - 1 : Nat) : Int) by omega, kg row m (i - 1) (by omega)] at this
  exact hm2 _ this
 have hn : bl.flatten.length = bs.length + (m - 1) * (ch + 1) := by
  cases bl with
  | nil => simp at b1; omega
  | cons x t =>
   have hx := b2 0 (by omega)
   rw [kg row m 0 (by omega)] at hx
   unfold kx at hx
   rw [if_pos (show ((0 : Nat) : Int) = 0 from rfl), Int.toNat_natCast] at hx
   have hx : kC (List.replicate row.length 0) row x := hx
   rw [List.flatten_cons, List.length_append, kC.det hx f1, flat_len (ch + 1) t (fun y hy => by
    obtain ⟨j, hj, rfl⟩ := List.getElem_of_mem hy
    have := rest (j + 1) (by omega) (by simp at b1; omega)
    simpa [List.getD, hj] using this)]
   rw [List.length_cons] at b1
   rw [show t.length = m - 1 by omega]
 have hk : (m - 1) * (ch + 1) ≤ 19 * 201 := Nat.mul_le_mul (by omega) (by omega)
 have hkc : (((m - 1) * (ch + 1) : Nat) : Int) = ((m : Int) - 1) * ((ch : Int) + 1) := by rw [Int.natCast_mul]; congr 1 <;> omega
 generalize (m - 1) * (ch + 1) = K at hn hk hkc
 refine vE.step (fun k => by rw [vp.l1]) (vE.neg (by omega) ?_)
 refine vE.bind b3 ?_
 rintro _ rfl
 refine vE.pos rfl ?_
 refine vE.bind f2 ?_
 intro r_ hr_
 rw [show r_ = bs from hr_]
 refine vE.bind (b8 r bl.flatten.length b4 (by unfold en; omega) b7) ?_
 rintro _ rfl
 refine vE.bind (Q := fun r => (r.1.length : Int) = ch + 1 ∧ r.2 = 0) ?_ ?_
 ·unfold wt.f
  have hir : vE (fun k => xK.f k row) (· = true) := (runsIsRow_is row (by omega)).mono (fun r hr => by rw [hr, decide_eq_true ⟨hl, h01⟩])
  refine vE.bind hir ?_
  rintro _ rfl
  refine vE.pos rfl (vE.bind hir ?_)
  rintro _ rfl
  refine vE.pos rfl ?_
  rw [show ((row.length : Int) != (row.length : Int)) = false by simp]
  refine vE.step (fun k => by rw [wt.j0]) (vE.neg (by decide) ?_)
  refine vE.bind hm1 ?_
  intro s_ hs_
  rw [show s_ = List.replicate (ch + 1) up0 from hs_, List.length_replicate]
  have := names_up0 (ch + 1) (by omega) (ch + 1) 0 [] (by omega) (by omega) rfl
  exact this
 ·rintro ⟨x, y⟩ ⟨q1, q2⟩
  dsimp only at q1 q2
  rw [yV (x := (ch : Int) + 1) (by omega) (by omega), yV (x := (m : Int) - 1) (by omega) (by omega), yV (x := ((m : Int) - 1) * ((ch : Int) + 1)) (by omega) (by omega), yV (x := (bs.length : Int) + _) (by omega) (by omega)]
  exact vE.pos rfl (vE.pos q2 (vE.pos (show (bl.flatten.length : Int) = _ by omega) (vE.pos q1 awake)))
end Go.Proofs.YtknclbodinfbeaaDoor.Pure
