/- The nearest word of a dictionary is that of the reference, for every input, no conditions. -/
import Derived.Test.YtmggeebpbacoiaaPLetterCorrectsx5
import Derived.Test.YtmggeebpbacoiaaQBase
namespace Go.Proofs.Ytmggeebpbacoiaa.Pure
open Go.RowKit Go.Proofs.Ytmggeebpbacoiaa.PLetterCorrects Go.Proofs.YtmggeebpbacoiaaW.PrintWords Go.Proofs.YtmggeebpbacoiaaW.PrintLast Go.Proofs.YtmggeebpbacoiaaW.PrintMore Go.Proofs.YtmggeebpbacoiaaW.Pu
set_option linter.unusedVariables false
set_option linter.unusedSimpArgs false
/-- The next row of distances. -/
def nxt (r : Nat → Nat) (i : Nat) (e : Nat → Nat) : Nat → Nat
  | 0 => i + 1
  | j + 1 => min (min (r j + e j) (r (j + 1) + 1)) (nxt r i e j + 1)
def un (x y : Int) : Nat := if x = y then 0 else 1
/-- The distance of the first i of a and the first j of b. -/
def lv (a b : Nat → Int) : Nat → Nat → Nat
  | 0 => fun j => j
  | i + 1 => nxt (lv a b i) i (fun j => un (a i) (b j))
theorem lv_0 (a b : Nat → Int) (j : Nat) : lv a b 0 j = j := rfl
theorem lv_s0 (a b : Nat → Int) (i : Nat) : lv a b (i + 1) 0 = i + 1 := rfl
theorem lv_i0 (a b : Nat → Int) (i : Nat) : lv a b i 0 = i := by cases i <;> rfl
theorem lv_ss (a b : Nat → Int) (i j : Nat) : lv a b (i + 1) (j + 1) = min (min (lv a b i j + un (a i) (b j)) (lv a b i (j + 1) + 1)) (lv a b (i + 1) j + 1) := rfl
theorem un_swap (x y : Int) : un x y = un y x := by
  unfold un
  by_cases h : x = y
  · rw [if_pos h, if_pos h.symm]
  · rw [if_neg h, if_neg (fun e => h e.symm)]
theorem un_tri (x y z : Int) : un x z ≤ un x y + un y z := by
  unfold un
  by_cases h : x = y
  · subst h
    simp
  · rw [if_neg h]
    split <;> omega
theorem un_01 (x y : Int) : un x y ≤ 1 := by
  unfold un
  split <;> omega
theorem lv_swap (a b : Nat → Int) : ∀ (n i j : Nat), i + j ≤ n → lv a b i j = lv b a j i
  | 0, i, j, h => by
    have h1 : i = 0 := by omega
    have h2 : j = 0 := by omega
    subst h1 h2
    rfl
  | n + 1, 0, j, h => by rw [lv_0, lv_i0]
  | n + 1, i + 1, 0, h => by rw [lv_s0, lv_0]
  | n + 1, i + 1, j + 1, h => by
    rw [lv_ss, lv_ss, lv_swap a b n i j (by omega), lv_swap a b n i (j + 1) (by omega), lv_swap a b n (i + 1) j (by omega), un_swap]
    omega
theorem lv_le (a b : Nat → Int) : ∀ (n i j : Nat), i + j ≤ n → lv a b i j ≤ i + j
  | 0, i, j, h => by
    have h1 : i = 0 := by omega
    subst h1
    rw [lv_0]
    omega
  | n + 1, 0, j, h => by rw [lv_0]; omega
  | n + 1, i + 1, 0, h => by rw [lv_s0]; omega
  | n + 1, i + 1, j + 1, h => by
    rw [lv_ss]
    have := lv_le a b n i (j + 1) (by omega)
    omega
theorem lv_del (a b : Nat → Int) (i j : Nat) : lv a b (i + 1) j ≤ lv a b i j + 1 := by
  cases j with
  | zero => rw [lv_s0, lv_i0]; omega
  | succ j => rw [lv_ss]; omega
theorem lv_ins (a b : Nat → Int) (i j : Nat) : lv a b i (j + 1) ≤ lv a b i j + 1 := by
  cases i with
  | zero => rw [lv_0, lv_0]; omega
  | succ i => rw [lv_ss]; omega
theorem lv_way (a b : Nat → Int) (i k : Nat) : (∃ i', i = i' + 1 ∧ lv a b i (k + 1) = lv a b i' k + un (a i') (b k)) ∨ (∃ i', i = i' + 1 ∧ lv a b i (k + 1) = lv a b i' (k + 1) + 1) ∨ lv a b i (k + 1) = lv a b i k + 1 := by
  cases i with
  | zero => right; right; rfl
  | succ i =>
    have h := lv_ss a b i k
    rcases (show lv a b (i + 1) (k + 1) = lv a b i k + un (a i) (b k) ∨ lv a b (i + 1) (k + 1) = lv a b i (k + 1) + 1 ∨ lv a b (i + 1) (k + 1) = lv a b (i + 1) k + 1 by omega) with q | q | q
    · exact .inl ⟨i, rfl, q⟩
    · exact .inr (.inl ⟨i, rfl, q⟩)
    · exact .inr (.inr q)
theorem lv_way' (a b : Nat → Int) (k j : Nat) : (∃ j', j = j' + 1 ∧ lv a b (k + 1) j = lv a b k j' + un (a k) (b j')) ∨ (∃ j', j = j' + 1 ∧ lv a b (k + 1) j = lv a b (k + 1) j' + 1) ∨ lv a b (k + 1) j = lv a b k j + 1 := by
  cases j with
  | zero => right; right; rw [lv_s0, lv_i0]
  | succ j =>
    have h := lv_ss a b k j
    rcases (show lv a b (k + 1) (j + 1) = lv a b k j + un (a k) (b j) ∨ lv a b (k + 1) (j + 1) = lv a b k (j + 1) + 1 ∨ lv a b (k + 1) (j + 1) = lv a b (k + 1) j + 1 by omega) with q | q | q
    · exact .inl ⟨j, rfl, q⟩
    · exact .inr (.inr q)
    · exact .inr (.inl ⟨j, rfl, q⟩)
theorem lv_tri (a b c : Nat → Int) : ∀ (n i k j : Nat), i + k + j ≤ n → lv a b i j ≤ lv a c i k + lv c b k j
  | n, i, 0, j, _ => by
    rw [lv_i0, lv_0]
    exact lv_le a b _ i j (Nat.le_refl _)
  | 0, i, k + 1, j, h => by omega
  | n + 1, i, k + 1, j, h => by
    rcases lv_way a c i k with ⟨i', rfl, q⟩ | ⟨i', rfl, q⟩ | q
    · rcases lv_way' c b k j with ⟨j', rfl, r⟩ | ⟨j', rfl, r⟩ | r
      · have ih := lv_tri a b c n i' k j' (by omega)
        have t := un_tri (a i') (c k) (b j')
        rw [lv_ss]
        omega
      · have ih := lv_tri a b c n (i' + 1) (k + 1) j' (by omega)
        have t := lv_ins a b (i' + 1) j'
        omega
      · have ih := lv_tri a b c n i' k j (by omega)
        have t := lv_del a b i' j
        omega
    · have ih := lv_tri a b c n i' (k + 1) j (by omega)
      have t := lv_del a b i' j
      omega
    · rcases lv_way' c b k j with ⟨j', rfl, r⟩ | ⟨j', rfl, r⟩ | r
      · have ih := lv_tri a b c n i k j' (by omega)
        have t := lv_ins a b i j'
        omega
      · have ih := lv_tri a b c n i (k + 1) j' (by omega)
        have t := lv_ins a b i j'
        omega
      · have ih := lv_tri a b c n i k j (by omega)
        omega
theorem lv_zero (a b : Nat → Int) : ∀ (n i j : Nat), i + j ≤ n → lv a b i j = 0 → i = j ∧ ∀ t, t < i → a t = b t
  | 0, i, j, h, _ => ⟨by omega, fun t ht => by omega⟩
  | n + 1, 0, j, h, e => by
    rw [lv_0] at e
    exact ⟨e.symm, fun t ht => by omega⟩
  | n + 1, i + 1, 0, h, e => by
    rw [lv_s0] at e
    omega
  | n + 1, i + 1, j + 1, h, e => by
    rw [lv_ss] at e
    have e1 : lv a b i j = 0 ∧ un (a i) (b j) = 0 := by omega
    obtain ⟨q1, q2⟩ := lv_zero a b n i j (by omega) e1.1
    subst q1
    refine ⟨rfl, fun t ht => ?_⟩
    rcases Nat.lt_or_ge t i with z | z
    · exact q2 t z
    · have : t = i := by omega
      subst this
      have := e1.2
      unfold un at this
      split at this
      · assumption
      · omega
theorem lv_same (a b : Nat → Int) : ∀ n : Nat, (∀ t, t < n → a t = b t) → lv a b n n = 0
  | 0, _ => rfl
  | n + 1, h => by
    have e := lv_same a b n (fun t ht => h t (by omega))
    have u : un (a n) (b n) = 0 := by
      unfold un
      rw [if_pos (h n (by omega))]
    rw [lv_ss, e, u]
    omega
/-- The bytes of a string, by index. -/
def by' (s : ByteArray) (i : Nat) : Int := bt s (i : Int)
def lvw (a b : ByteArray) : Int := ((lv (by' a) (by' b) a.size b.size : Nat) : Int)
def wordsR (a b : ByteArray) : Int × Int := if a.size > 100 ∨ b.size > 100 then (0, 2) else (lvw a b, 0)
theorem size_list (s : ByteArray) : s.toList.length = s.size := by
  have : s.toList = s.data.toList := ByteArray.toList_eq s
  rw [this, Array.length_toList]
  rfl
theorem bt_list (s : ByteArray) (i : Nat) (h : i < s.size) : ∃ h2 : i < s.toList.length, bt s (i : Int) = ((s.toList[i]'h2).toNat : Int) := by
  have e : s.toList = s.data.toList := ByteArray.toList_eq s
  refine ⟨by rw [size_list]; exact h, ?_⟩
  rw [← bt_at s (i : Int) (by simpa using h)]
  simp only [e]
  rfl
theorem lvw_zero (a b : ByteArray) : lvw a b = 0 ↔ a.toList = b.toList := by
  unfold lvw
  constructor
  · intro h
    have h : lv (by' a) (by' b) a.size b.size = 0 := by omega
    obtain ⟨e, q⟩ := lv_zero _ _ _ a.size b.size (Nat.le_refl _) h
    refine List.ext_getElem (by rw [size_list, size_list, e]) (fun i h1 h2 => ?_)
    rw [size_list] at h1
    have := q i h1
    unfold by' at this
    obtain ⟨_, e1⟩ := bt_list a i h1
    obtain ⟨_, e2⟩ := bt_list b i (by omega)
    rw [e1, e2] at this
    exact UInt8.toNat_inj.mp (by omega)
  · intro h
    have e : a.size = b.size := by rw [← size_list, ← size_list, h]
    have : lv (by' a) (by' b) a.size b.size = 0 := by
      rw [← e]
      refine lv_same _ _ _ (fun t ht => ?_)
      unfold by'
      obtain ⟨_, e1⟩ := bt_list a t ht
      obtain ⟨_, e2⟩ := bt_list b t (by omega)
      rw [e1, e2]
      simp only [h]
    omega

theorem ncast (i : Nat) : (i : Int).toNat = i := by omega
theorem mn3 (x y z : Nat) : mn (mn (x : Int) (y : Int)) (z : Int) = ((min (min x y) z : Nat) : Int) := by
  unfold mn
  split <;> split <;> omega
theorem Words_l2 {P : Int × Int → Prop} (a b : ByteArray) (ha : a.size ≤ 100) (hb : b.size ≤ 100) (i : Nat) (hi : i < a.size)
    (hk : ∀ row : List Int, row.length = b.size + 1 → (∀ t : Nat, t ≤ b.size → rd row (t : Int) = ((lv (by' a) (by' b) (i + 1) t : Nat) : Int)) → EvP (fun k => letter_Words.l1 k a b row (a.size : Int) (wrap64 ((i : Int) + 1))) P) :
    ∀ (d j : Nat) (row : List Int) (was : Int), j ≤ b.size → b.size - j = d → row.length = b.size + 1 → was = ((lv (by' a) (by' b) i j : Nat) : Int) →
    (∀ t : Nat, t ≤ b.size → rd row (t : Int) = if t ≤ j then ((lv (by' a) (by' b) (i + 1) t : Nat) : Int) else ((lv (by' a) (by' b) i t : Nat) : Int)) →
    EvP (fun k => letter_Words.l2 k a b row (i : Int) was (a.size : Int) (i : Int) (b.size : Int) (j : Int)) P := by
  intro d
  induction d with
  | zero =>
    intro j row was h1 h2 hl hw hr
    refine EvP.step (fun k => by rw [letter_Words.l2]) ?_
    refine EvP.neg (by omega) ?_
    exact hk row hl (fun t ht => by rw [hr t ht, if_pos (by omega)])
  | succ d ih =>
    intro j row was h1 h2 hl hw hr
    have b1 := lv_le (by' a) (by' b) _ i j (Nat.le_refl _)
    have b2 := lv_le (by' a) (by' b) _ i (j + 1) (Nat.le_refl _)
    have b3 := lv_le (by' a) (by' b) _ (i + 1) j (Nat.le_refl _)
    have r0 : rd row (j : Int) = ((lv (by' a) (by' b) (i + 1) j : Nat) : Int) := by rw [hr j (by omega), if_pos (by omega)]
    have r1 : rd row ((j : Int) + 1) = ((lv (by' a) (by' b) i (j + 1) : Nat) : Int) := by
      have := hr (j + 1) (by omega)
      rw [if_neg (by omega)] at this
      rw [← this]
      rfl
    have es := lv_ss (by' a) (by' b) i j
    have go : ∀ x : Int, x = ((lv (by' a) (by' b) (i + 1) (j + 1) : Nat) : Int) →
        EvP (fun k => letter_Words.l2 k a b (row.set ((j : Int) + 1).toNat x) (i : Int) (rd row ((j : Int) + 1)) (a.size : Int) (i : Int) (b.size : Int) ((j : Int) + 1)) P := by
      intro x hx
      refine ih (j + 1) _ _ (by omega) (by omega) (by rw [List.length_set]; exact hl) r1 (fun t ht => ?_)
      rw [rd_set row _ _ _ (by omega) (by omega) (by omega)]
      by_cases c : t = j + 1
      · rw [if_pos (by omega), if_pos (by omega), c]
        exact hx
      · rw [if_neg (by omega), hr t ht]
        by_cases c2 : t ≤ j
        · rw [if_pos c2, if_pos (by omega)]
        · rw [if_neg c2, if_neg (by omega)]
    refine EvP.step (fun k => by rw [letter_Words.l2]) ?_
    refine EvP.pos (by omega) (EvP.pos (by omega) (EvP.pos (by omega) (EvP.pos (by omega) (EvP.pos (by omega) ?_))))
    rw [w64 (x := (j : Int) + 1) (by omega) (by omega), r0, r1, w64 (x := ((lv (by' a) (by' b) (i + 1) j : Nat) : Int) + 1) (by omega) (by omega), w64 (x := ((lv (by' a) (by' b) i (j + 1) : Nat) : Int) + 1) (by omega) (by omega)]
    rw [← r1]
    refine EvP.ite (fun c => ?_) (fun c => ?_)
    · refine EvP.pos (by omega) (EvP.pos (by omega) (EvP.pos (by omega) (go _ ?_)))
      have u : un (by' a i) (by' b j) = 0 := if_pos c
      have := mn3 (lv (by' a) (by' b) i j) (lv (by' a) (by' b) (i + 1) j + 1) (lv (by' a) (by' b) i (j + 1) + 1)
      rw [hw, r1, es, u]
      refine Eq.trans (Eq.trans ?_ this) ?_
      · rfl
      · omega
    · refine EvP.pos (by omega) (EvP.pos (by omega) (EvP.pos (by omega) (go _ ?_)))
      have u : un (by' a i) (by' b j) = 1 := if_neg c
      have := mn3 (lv (by' a) (by' b) i j + 1) (lv (by' a) (by' b) (i + 1) j + 1) (lv (by' a) (by' b) i (j + 1) + 1)
      rw [hw, r1, es, u, w64 (x := ((lv (by' a) (by' b) i j : Nat) : Int) + 1) (by omega) (by omega)]
      refine Eq.trans (Eq.trans ?_ this) ?_
      · rfl
      · omega
theorem Words_l1 (a b : ByteArray) (ha : a.size ≤ 100) (hb : b.size ≤ 100) : ∀ (d i : Nat) (row : List Int), i ≤ a.size → a.size - i = d → row.length = b.size + 1 →
    (∀ t : Nat, t ≤ b.size → rd row (t : Int) = ((lv (by' a) (by' b) i t : Nat) : Int)) → EvP (fun k => letter_Words.l1 k a b row (a.size : Int) (i : Int)) (· = (lvw a b, 0)) := by
  intro d
  induction d with
  | zero =>
    intro i row h1 h2 hl hr
    refine EvP.step (fun k => by rw [letter_Words.l1]) ?_
    refine EvP.neg (by omega) (EvP.pos (by omega) (EvP.pos (by omega) (EvP.ret ?_)))
    have : i = a.size := by omega
    subst this
    rw [hr b.size (Nat.le_refl _)]
    rfl
  | succ d ih =>
    intro i row h1 h2 hl hr
    refine EvP.step (fun k => by rw [letter_Words.l1]) ?_
    refine EvP.pos (by omega) (EvP.pos (by omega) ?_)
    have r0 := hr 0 (by omega)
    rw [lv_i0] at r0
    have r0 : rd row 0 = (i : Int) := r0
    rw [r0, w64 (x := (i : Int) + 1) (by omega) (by omega)]
    refine Words_l2 a b ha hb i (by omega) (fun row' hl' hr' => ?_) _ 0 _ (i : Int) (by omega) rfl (by rw [List.length_set]; exact hl) (by rw [lv_i0]) (fun t ht => ?_)
    · rw [w64 (x := (i : Int) + 1) (by omega) (by omega)]
      exact ih (i + 1) row' (by omega) (by omega) hl' hr'
    · have := rd_set row 0 (t : Int) ((i : Int) + 1) (by omega) (by omega) (by omega)
      rw [this]
      by_cases c : t = 0
      · subst c
        rw [if_pos (by omega), if_pos (by omega), lv_s0]
        omega
      · rw [if_neg (by omega), if_neg (by omega)]
        exact hr t ht
theorem Words_is (a b : ByteArray) (ha : a.size ≤ 140737488351232) (hb : b.size ≤ 140737488351232) : EvP (fun k => letter_Words.f k a b) (· = wordsR a b) := by
  unfold letter_Words.f wordsR
  refine EvP.ite (fun c => EvP.ret ?_) (fun c => ?_)
  · unfold mx at c
    split at c
    · rw [if_pos (by omega)]
    · rw [if_pos (by omega)]
  · have c' : a.size ≤ 100 ∧ b.size ≤ 100 := by
      unfold mx at c
      split at c <;> omega
    rw [if_neg (by omega), w64 (x := (b.size : Int) + 1) (by omega) (by omega)]
    refine EvP.pos (by omega) (EvP.pos (by omega) (EvP.bindv rfl ?_))
    have hlen : (List.replicate ((b.size : Int) + 1).toNat (0 : Int)).length = b.size + 1 := by rw [List.length_replicate]; omega
    refine EvP.fill (L := fun k i l => letter_Words.l0 k a b l ((List.replicate ((b.size : Int) + 1).toNat (0 : Int)).length : Int) i) (List.replicate ((b.size : Int) + 1).toNat 0) (fun i => i) ?_ ?_
    · intro i l i0 i1 hs hr hk
      refine EvP.step (fun k => by rw [letter_Words.l0]) ?_
      refine EvP.pos i1 (EvP.pos i0 (EvP.pos (by omega) ?_))
      rw [w64 (x := i + 1) (by omega) (by omega)]
      exact hk
    · refine EvP.step (fun k => by rw [letter_Words.l0]) ?_
      refine EvP.neg (by omega) ?_
      refine Words_l1 a b c'.1 c'.2 _ 0 _ (by omega) rfl (by rw [lmap_length]; exact hlen) (fun t ht => ?_)
      rw [rd_lmap _ _ _ (by omega) (by omega), lv_0]

def gts (l : List ByteArray) (i : Int) : ByteArray := rdOf ByteArray.empty l i
def lngs (l : List ByteArray) : Prop := ∃ j : Int, 0 ≤ j ∧ j < (l.length : Int) ∧ (gts l j).size > 100
/-- The place of the first nearest of the first n. -/
def bsi (e : Int → Int) : Nat → Int
  | 0 => -1
  | n + 1 => if bsi e n < 0 then (n : Int) else if e n < e (bsi e n) then (n : Int) else bsi e n
theorem bsi_in (e : Int → Int) : ∀ n : Nat, -1 ≤ bsi e n ∧ bsi e n < n ∧ (0 < n → 0 ≤ bsi e n)
  | 0 => by simp [bsi]
  | n + 1 => by
    have := bsi_in e n
    unfold bsi
    split
    · omega
    · split <;> omega
def pck (l : List ByteArray) (w : ByteArray) (m : Int) (n : Nat) : ByteArray := if 0 ≤ bsi (fun i => lvw (gts l i) w) n then (if lvw (gts l (bsi (fun i => lvw (gts l i) w) n)) w ≤ m then gts l (bsi (fun i => lvw (gts l i) w) n) else w) else w
def lst (l : List ByteArray) (w : ByteArray) (m : Int) (n : Nat) : Int := if 0 ≤ bsi (fun i => lvw (gts l i) w) n then (if lvw (gts l (bsi (fun i => lvw (gts l i) w) n)) w ≤ m then lvw (gts l (bsi (fun i => lvw (gts l i) w) n)) w else -1) else -1
theorem lvw_0 (a b : ByteArray) : 0 ≤ lvw a b := by unfold lvw; omega
theorem gts_size {l : List ByteArray} (h : ∀ s ∈ l, s.size ≤ 140737488351232) {i : Int} (h0 : 0 ≤ i) (h1 : i < (l.length : Int)) : (gts l i).size ≤ 140737488351232 := by
  have h2 : i.toNat < l.length := by omega
  have e : gts l i = l[i.toNat] := by simp [gts, rdOf, List.getD, h2]
  rw [e]
  exact h _ (List.getElem_mem _)
theorem IndexFunc_is (l : List ByteArray) (hl : (l.length : Int) ≤ 9223372036854775807) : EvP (fun k => slices_IndexFunc_string_string_18.f k l) (fun r => 0 ≤ r ↔ lngs l) := by
  unfold slices_IndexFunc_string_string_18.f
  refine EvP.up (L := fun k i (_ : Unit) => slices_IndexFunc_string_string_18.l0 k l (l.length : Int) i) (fun i _ => 0 ≤ i ∧ ∀ j, 0 ≤ j → j < i → ¬ (gts l j).size > 100) l.length ?_ 0 () (by omega) ⟨by omega, fun j _ _ => by omega⟩
  intro i s ⟨h0, hs⟩ hi ih
  refine EvP.step (fun k => by rw [slices_IndexFunc_string_string_18.l0]) ?_
  refine EvP.ite (fun h1 => ?_) (fun h1 => ?_)
  · refine EvP.pos h0 (EvP.pos h1 (EvP.bindv rfl ?_))
    refine EvP.ite (fun c => EvP.ret ?_) (fun c => ?_)
    · have c : ((gts l i).size : Int) > 100 := of_decide_eq_true c
      exact ⟨fun _ => ⟨i, h0, h1, by omega⟩, fun _ => h0⟩
    · have c : ¬ ((gts l i).size : Int) > 100 := fun h => c (decide_eq_true h)
      rw [w64 (by omega) (by omega)]
      refine ih () h1 ⟨by omega, fun j a b => ?_⟩
      by_cases d : j = i
      · subst d; omega
      · exact hs j a (by omega)
  · refine EvP.ret ⟨fun h => by omega, fun ⟨j, a, b, c⟩ => absurd c (hs j a (by omega))⟩
theorem ContainsFunc_is (l : List ByteArray) (hl : (l.length : Int) ≤ 9223372036854775807) : EvP (fun k => slices_ContainsFunc_string_string_18.f k l) (fun r => r = true ↔ lngs l) := by
  unfold slices_ContainsFunc_string_string_18.f
  refine EvP.bind (IndexFunc_is l hl) (fun r hr => EvP.ret ?_)
  rw [decide_eq_true_iff]
  exact hr
theorem Correct_j0 (l : List ByteArray) (w : ByteArray) (m : Int) (hw : w.size ≤ 100) (hl : l.length ≤ 1000) (hs : ¬ lngs l) : EvP (fun k => letter_Correct.j0 k l w m false) (· = (pck l w m l.length, 0)) := by
  refine EvP.step (fun k => by rw [letter_Correct.j0]) ?_
  refine EvP.neg (by simp) ?_
  refine EvP.up (L := fun k i (s : ByteArray × Int) => letter_Correct.l0 k w m s.1 s.2 l (l.length : Int) i) (fun i s => 0 ≤ i ∧ s = (pck l w m i.toNat, lst l w m i.toNat)) l.length ?_ 0 (w, -1) (by omega) ⟨by omega, rfl⟩
  intro i s ⟨h0, hq⟩ hi ih
  refine EvP.step (fun k => by rw [letter_Correct.l0]) ?_
  refine EvP.ite (fun h1 => ?_) (fun h1 => ?_)
  · refine EvP.pos h0 (EvP.pos h1 ?_)
    have hz : (gts l i).size ≤ 100 := by
      rcases Nat.lt_or_ge 100 (gts l i).size with h | h
      · exact absurd ⟨i, h0, h1, h⟩ hs
      · exact h
    refine EvP.bind (Words_is (gts l i) w (by omega) (by omega)) ?_
    rintro _ rfl
    have e1 : wordsR (gts l i) w = (lvw (gts l i) w, 0) := by
      unfold wordsR
      rw [if_neg (by omega)]
    rw [e1]
    have hb := bsi_in (fun i => lvw (gts l i) w) i.toNat
    have ei : (i + 1).toNat = i.toNat + 1 := by omega
    have ec : ((i.toNat : Nat) : Int) = i := by omega
    have hb1 : bsi (fun i => lvw (gts l i) w) (i.toNat + 1) = if bsi (fun i => lvw (gts l i) w) i.toNat < 0 then i else if lvw (gts l i) w < lvw (gts l (bsi (fun i => lvw (gts l i) w) i.toNat)) w then i else bsi (fun i => lvw (gts l i) w) i.toNat := by
      show (if _ then _ else _) = _
      rw [ec]
    have n0 := lvw_0 (gts l i) w
    have n1 := lvw_0 (gts l (bsi (fun i => lvw (gts l i) w) i.toNat)) w
    obtain ⟨s1, s2⟩ := s
    obtain ⟨rfl, rfl⟩ := Prod.mk.inj hq
    have go : ∀ x : Bool, (x = true ↔ (lvw (gts l i) w ≤ m ∧ (lst l w m i.toNat < 0 ∨ lvw (gts l i) w < lst l w m i.toNat))) → EvP (fun k => letter_Correct.j2 k w m (pck l w m i.toNat) (lst l w m i.toNat) (gts l i) (lvw (gts l i) w) l (l.length : Int) i x) (· = (pck l w m l.length, 0)) := by
      intro x hx
      refine EvP.step (fun k => by rw [letter_Correct.j2]) ?_
      rw [w64 (x := i + 1) (by omega) (by omega)]
      refine EvP.ite (fun c => ih (gts l i, lvw (gts l i) w) h1 ⟨by omega, ?_⟩) (fun c => ih (pck l w m i.toNat, lst l w m i.toNat) h1 ⟨by omega, ?_⟩)
      · obtain ⟨c1, c2⟩ := hx.mp c
        have e : bsi (fun i => lvw (gts l i) w) (i.toNat + 1) = i := by
          rw [hb1]
          unfold lst at c2
          split
          · rfl
          · rw [if_pos]
            split at c2
            · split at c2 <;> omega
            · omega
        rw [ei]
        unfold pck lst
        rw [e, if_pos h0, if_pos h0, if_pos c1, if_pos c1]
      · have c : ¬ (lvw (gts l i) w ≤ m ∧ (lst l w m i.toNat < 0 ∨ lvw (gts l i) w < lst l w m i.toNat)) := fun h => c (hx.mpr h)
        rw [ei]
        unfold pck lst at *
        rw [hb1]
        by_cases d : bsi (fun i => lvw (gts l i) w) i.toNat < 0
        · rw [if_pos d, if_pos h0, if_pos h0]
          rw [if_neg (show ¬ 0 ≤ bsi (fun i => lvw (gts l i) w) i.toNat by omega)] at c ⊢
          rw [if_neg (show ¬ 0 ≤ bsi (fun i => lvw (gts l i) w) i.toNat by omega), if_neg (show ¬ lvw (gts l i) w ≤ m by omega), if_neg (show ¬ lvw (gts l i) w ≤ m by omega)]
        · have d' : 0 ≤ bsi (fun i => lvw (gts l i) w) i.toNat := by omega
          rw [if_pos d'] at c
          rw [if_neg d, if_pos d', if_pos d']
          by_cases f : lvw (gts l (bsi (fun i => lvw (gts l i) w) i.toNat)) w ≤ m
          · rw [if_pos f] at c
            rw [if_neg (show ¬ lvw (gts l i) w < lvw (gts l (bsi (fun i => lvw (gts l i) w) i.toNat)) w by omega), if_pos d', if_pos d']
          · rw [if_neg f] at c
            rw [if_neg f, if_neg f]
            by_cases g : lvw (gts l i) w < lvw (gts l (bsi (fun i => lvw (gts l i) w) i.toNat)) w
            · simp only [if_pos g, if_pos h0, if_neg (show ¬ lvw (gts l i) w ≤ m by omega)]
            · simp only [if_neg g, if_pos d', if_neg f]
    refine EvP.ite (fun c => ?_) (fun c => go false (by simp [c]))
    refine EvP.ite (fun d => go true (by simp [d]; exact c)) (fun d => go _ ?_)
    rw [decide_eq_true_iff]
    exact ⟨fun h => ⟨c, .inr h⟩, fun h => h.2.resolve_left d⟩
  · refine EvP.ret ?_
    have e : i.toNat = l.length := by omega
    rw [hq, e]
def corR (l : List ByteArray) (w : ByteArray) (m : Int) (r : ByteArray × Int) : Prop := (m < 0 ∨ w.size > 100 ∨ l.length > 1000 ∨ lngs l → r = ((⟨#[]⟩ : ByteArray), 2)) ∧ (¬ (m < 0 ∨ w.size > 100 ∨ l.length > 1000 ∨ lngs l) → r = (pck l w m l.length, 0))
theorem Correct_is (l : List ByteArray) (w : ByteArray) (m : Int) (hl : (l.length : Int) ≤ 9223372036854775807) : EvP (fun k => letter_Correct.f k l w m) (corR l w m) := by
  have bad : (m < 0 ∨ w.size > 100 ∨ l.length > 1000 ∨ lngs l) → EvP (fun k => letter_Correct.j0 k l w m true) (corR l w m) := fun h => EvP.step (fun k => by rw [letter_Correct.j0]) (EvP.pos rfl (EvP.ret ⟨fun _ => rfl, fun g => absurd h g⟩))
  unfold letter_Correct.f
  refine EvP.ite (fun a => bad (.inl a)) (fun a => ?_)
  refine EvP.ite (fun b => bad (.inr (.inl (by omega)))) (fun b => ?_)
  refine EvP.ite (fun c => bad (.inr (.inr (.inl (by omega))))) (fun c => ?_)
  refine EvP.bind (ContainsFunc_is l hl) (fun r hr => ?_)
  cases r with
  | true => exact bad (.inr (.inr (.inr (hr.mp rfl))))
  | false =>
    have hn : ¬ lngs l := fun h => by have := hr.mpr h; cases this
    refine (Correct_j0 l w m (by omega) (by omega) hn).mono ?_
    rintro _ rfl
    refine ⟨fun h => ?_, fun _ => rfl⟩
    rcases h with h | h | h | h
    · exact absurd h a
    · omega
    · omega
    · exact absurd h hn

theorem rmn3 (x y z : Nat) : mn (mn (x : Int) (y : Int)) (z : Int) = ((min (min x y) z : Nat) : Int) := by
  unfold mn
  split <;> split <;> omega
theorem refwords_l2 {P : Int → Prop} (a b : ByteArray) (ha : a.size ≤ 100) (hb : b.size ≤ 100) (i : Nat) (hi : i < a.size) (row : List Int) (hl : row.length = b.size + 1) (hr : ∀ t : Nat, t ≤ b.size → rd row (t : Int) = ((lv (by' a) (by' b) i t : Nat) : Int))
    (hk : ∀ row : List Int, row.length = b.size + 1 → (∀ t : Nat, t ≤ b.size → rd row (t : Int) = ((lv (by' a) (by' b) (i + 1) t : Nat) : Int)) → EvP (fun k => incunableref30_words.l1 k a b row (wrap64 ((i : Int) + 1))) P) :
    ∀ (d j : Nat) (nx : List Int), j ≤ b.size → b.size - j = d → nx.length = j + 1 → (∀ t : Nat, t ≤ j → rd nx (t : Int) = ((lv (by' a) (by' b) (i + 1) t : Nat) : Int)) →
    EvP (fun k => incunableref30_words.l2 k a b row (i : Int) nx (j : Int)) P := by
  intro d
  induction d with
  | zero =>
    intro j nx h1 h2 hn hnx
    refine EvP.step (fun k => by rw [incunableref30_words.l2]) ?_
    refine EvP.neg (by omega) ?_
    exact hk nx (by omega) (fun t ht => hnx t (by omega))
  | succ d ih =>
    intro j nx h1 h2 hn hnx
    have b1 := lv_le (by' a) (by' b) _ i j (Nat.le_refl _)
    have b2 := lv_le (by' a) (by' b) _ i (j + 1) (Nat.le_refl _)
    have b3 := lv_le (by' a) (by' b) _ (i + 1) j (Nat.le_refl _)
    have r0 := hr j (by omega)
    have r1 : rd row ((j : Int) + 1) = ((lv (by' a) (by' b) i (j + 1) : Nat) : Int) := hr (j + 1) (by omega)
    have r2 := hnx j (Nat.le_refl _)
    have es := lv_ss (by' a) (by' b) i j
    have go : ∀ x : Int, x = ((lv (by' a) (by' b) (i + 1) (j + 1) : Nat) : Int) → EvP (fun k => incunableref30_words.l2 k a b row (i : Int) (nx ++ [x]) ((j : Int) + 1)) P := by
      intro x hx
      refine ih (j + 1) _ (by omega) (by omega) (by rw [List.length_append, hn]; rfl) (fun t ht => ?_)
      rw [rd_append nx x _ (by omega)]
      by_cases c : t = j + 1
      · rw [if_pos (by omega), c]
        exact hx
      · rw [if_neg (by omega)]
        exact hnx t (by omega)
    refine EvP.step (fun k => by rw [incunableref30_words.l2]) ?_
    refine EvP.pos (by omega) (EvP.pos (by omega) (EvP.pos (by omega) (EvP.pos (by omega) (EvP.pos (by omega) ?_))))
    rw [w64 (x := (j : Int) + 1) (by omega) (by omega), r0, r1, r2, w64 (x := ((lv (by' a) (by' b) (i + 1) j : Nat) : Int) + 1) (by omega) (by omega), w64 (x := ((lv (by' a) (by' b) i (j + 1) : Nat) : Int) + 1) (by omega) (by omega)]
    refine EvP.ite (fun c => ?_) (fun c => ?_)
    · refine EvP.pos (by omega) (EvP.pos (by omega) (EvP.pos (by omega) (EvP.pos (by omega) (go _ ?_))))
      have u : un (by' a i) (by' b j) = 0 := if_pos c
      have := rmn3 (lv (by' a) (by' b) i j) (lv (by' a) (by' b) i (j + 1) + 1) (lv (by' a) (by' b) (i + 1) j + 1)
      rw [es, u]
      refine Eq.trans (Eq.trans ?_ this) ?_
      · rfl
      · omega
    · refine EvP.pos (by omega) (EvP.pos (by omega) (EvP.pos (by omega) (EvP.pos (by omega) (go _ ?_))))
      have u : un (by' a i) (by' b j) = 1 := if_neg c
      have := rmn3 (lv (by' a) (by' b) i j + 1) (lv (by' a) (by' b) i (j + 1) + 1) (lv (by' a) (by' b) (i + 1) j + 1)
      rw [es, u, w64 (x := ((lv (by' a) (by' b) i j : Nat) : Int) + 1) (by omega) (by omega)]
      refine Eq.trans (Eq.trans ?_ this) ?_
      · rfl
      · omega
theorem refwords_l1 (a b : ByteArray) (ha : a.size ≤ 100) (hb : b.size ≤ 100) : ∀ (d i : Nat) (row : List Int), i ≤ a.size → a.size - i = d → row.length = b.size + 1 →
    (∀ t : Nat, t ≤ b.size → rd row (t : Int) = ((lv (by' a) (by' b) i t : Nat) : Int)) → EvP (fun k => incunableref30_words.l1 k a b row (i : Int)) (· = lvw a b) := by
  intro d
  induction d with
  | zero =>
    intro i row h1 h2 hl hr
    refine EvP.step (fun k => by rw [incunableref30_words.l1]) ?_
    refine EvP.neg (by omega) (EvP.pos (by omega) (EvP.pos (by omega) (EvP.ret ?_)))
    have : i = a.size := by omega
    subst this
    rw [hr b.size (Nat.le_refl _)]
    rfl
  | succ d ih =>
    intro i row h1 h2 hl hr
    refine EvP.step (fun k => by rw [incunableref30_words.l1]) ?_
    refine EvP.pos (by omega) ?_
    rw [w64 (x := (i : Int) + 1) (by omega) (by omega)]
    refine refwords_l2 a b ha hb i (by omega) row hl hr (fun row' hl' hr' => ?_) _ 0 _ (by omega) rfl rfl (fun t ht => ?_)
    · rw [w64 (x := (i : Int) + 1) (by omega) (by omega)]
      exact ih (i + 1) row' (by omega) (by omega) hl' hr'
    · have : t = 0 := by omega
      subst this
      rw [lv_s0]
      simp [rd]
theorem refwords_is (a b : ByteArray) (ha : a.size ≤ 100) (hb : b.size ≤ 100) : EvP (fun k => incunableref30_words.f k a b) (· = lvw a b) := by
  unfold incunableref30_words.f
  rw [w64 (x := (b.size : Int) + 1) (by omega) (by omega)]
  refine EvP.pos (by omega) (EvP.pos (by omega) (EvP.bindv rfl ?_))
  have hlen : (List.replicate ((b.size : Int) + 1).toNat (0 : Int)).length = b.size + 1 := by rw [List.length_replicate]; omega
  refine EvP.fill (L := fun k i l => incunableref30_words.l0 k a b l ((List.replicate ((b.size : Int) + 1).toNat (0 : Int)).length : Int) i) (List.replicate ((b.size : Int) + 1).toNat 0) (fun i => i) ?_ ?_
  · intro i l i0 i1 hs hr hk
    refine EvP.step (fun k => by rw [incunableref30_words.l0]) ?_
    refine EvP.pos i1 (EvP.pos i0 (EvP.pos (by omega) ?_))
    rw [w64 (x := i + 1) (by omega) (by omega)]
    exact hk
  · refine EvP.step (fun k => by rw [incunableref30_words.l0]) ?_
    refine EvP.neg (by omega) ?_
    refine refwords_l1 a b ha hb _ 0 _ (by omega) rfl (by rw [lmap_length]; exact hlen) (fun t ht => ?_)
    rw [rd_lmap _ _ _ (by omega) (by omega), lv_0]

theorem refCorrect_l0 (l : List ByteArray) (w : ByteArray) (m : Int) (hm : ¬ m < 0) (hw : w.size ≤ 100) (hl : l.length ≤ 1000) : EvP (fun k => incunableref30_Correct.l0 k l w m (-1) l (l.length : Int) 0) (corR l w m) := by
  refine EvP.up (L := fun k i (s : Int) => incunableref30_Correct.l0 k l w m s l (l.length : Int) i) (fun i s => 0 ≤ i ∧ s = bsi (fun i => lvw (gts l i) w) i.toNat ∧ ∀ j, 0 ≤ j → j < i → (gts l j).size ≤ 100) l.length ?_ 0 (-1) (by omega) ⟨by omega, rfl, fun j _ _ => by omega⟩
  intro i s ⟨h0, hq, hz⟩ hi ih
  have hb := bsi_in (fun i => lvw (gts l i) w) i.toNat
  refine EvP.step (fun k => by rw [incunableref30_Correct.l0]) ?_
  refine EvP.ite (fun h1 => ?_) (fun h1 => ?_)
  · refine EvP.pos h0 (EvP.pos h1 ?_)
    refine EvP.ite (fun c => EvP.ret ⟨fun _ => rfl, fun h => absurd (.inr (.inr (.inr ⟨i, h0, h1, by have : ((gts l i).size : Int) > 100 := c; omega⟩))) h⟩) (fun c => ?_)
    have c : ¬ ((gts l i).size : Int) > 100 := c
    have hz' : ∀ j, 0 ≤ j → j < i + 1 → (gts l j).size ≤ 100 := fun j a b => by
      by_cases e : j = i
      · subst e; omega
      · exact hz j a (by omega)
    have ei : (i + 1).toNat = i.toNat + 1 := by omega
    have ec : ((i.toNat : Nat) : Int) = i := by omega
    have hb1 : bsi (fun i => lvw (gts l i) w) (i.toNat + 1) = if bsi (fun i => lvw (gts l i) w) i.toNat < 0 then i else if lvw (gts l i) w < lvw (gts l (bsi (fun i => lvw (gts l i) w) i.toNat)) w then i else bsi (fun i => lvw (gts l i) w) i.toNat := by
      show (if _ then _ else _) = _
      rw [ec]
    rw [w64 (x := i + 1) (by omega) (by omega)]
    refine EvP.ite (fun d => ih i h1 ⟨by omega, ?_, hz'⟩) (fun d => ?_)
    · rw [ei, hb1, if_pos (by omega)]
    · refine EvP.bind (refwords_is (gts l i) w (by omega) hw) ?_
      rintro _ rfl
      refine EvP.pos (by omega) (EvP.pos (by omega) ?_)
      refine EvP.bind (refwords_is (gts l s) w (hz s (by omega) (by omega)) hw) ?_
      rintro _ rfl
      subst hq
      refine EvP.ite (fun f => ih i h1 ⟨by omega, ?_, hz'⟩) (fun f => ih _ h1 ⟨by omega, ?_, hz'⟩)
      · rw [ei, hb1, if_neg d, if_pos f]
      · rw [ei, hb1, if_neg d, if_neg f]
  · have e : i.toNat = l.length := by omega
    have hn : ¬ lngs l := fun ⟨j, a, b, c⟩ => by have := hz j a (by omega); omega
    have nb : ¬ (m < 0 ∨ w.size > 100 ∨ l.length > 1000 ∨ lngs l) := by
      rintro (h | h | h | h)
      · exact hm h
      · omega
      · omega
      · exact hn h
    rw [e] at hq hb
    subst hq
    refine EvP.ite (fun a => ?_) (fun a => EvP.ret ⟨fun h => absurd h nb, fun _ => ?_⟩)
    · refine EvP.pos a (EvP.pos (by omega) ?_)
      refine EvP.bind (refwords_is (gts l (bsi (fun i => lvw (gts l i) w) l.length)) w (hz _ a (by omega)) hw) ?_
      rintro _ rfl
      refine EvP.ite (fun f => EvP.ret ⟨fun h => absurd h nb, fun _ => ?_⟩) (fun f => EvP.ret ⟨fun h => absurd h nb, fun _ => ?_⟩)
      · unfold pck
        rw [if_pos a, if_pos f]
        rfl
      · unfold pck
        rw [if_pos a, if_neg f]
    · unfold pck
      rw [if_neg a]
theorem refCorrect_is (l : List ByteArray) (w : ByteArray) (m : Int) : EvP (fun k => incunableref30_Correct.f k l w m) (corR l w m) := by
  have bad : (m < 0 ∨ w.size > 100 ∨ l.length > 1000 ∨ lngs l) → EvP (fun k => incunableref30_Correct.j0 k l w m true) (corR l w m) := fun h => EvP.step (fun k => by rw [incunableref30_Correct.j0]) (EvP.pos rfl (EvP.ret ⟨fun _ => rfl, fun g => absurd h g⟩))
  unfold incunableref30_Correct.f
  refine EvP.ite (fun c => bad (.inr (.inr (.inl (by omega))))) (fun c => ?_)
  refine EvP.ite (fun b => bad (.inr (.inl (by omega)))) (fun b => ?_)
  by_cases a : m < 0
  · rw [decide_eq_true a]
    exact bad (.inl a)
  · rw [decide_eq_false a]
    refine EvP.step (fun k => by rw [incunableref30_Correct.j0]) ?_
    refine EvP.neg (by simp) ?_
    exact refCorrect_l0 l w m a (by omega) (by omega)

theorem Awake_is : EvP (fun k => incunablelaw30_Awake.f k) (· = true) := by
  unfold incunablelaw30_Awake.f
  refine EvP.bind (Words_is _ _ (by decide) (by decide)) ?_
  rintro _ rfl
  have e : wordsR (⟨#[102, 111, 114, 109]⟩ : ByteArray) (⟨#[102, 114, 111, 109]⟩ : ByteArray) = (2, 0) := by decide +kernel
  rw [e]
  exact EvP.pos rfl (EvP.ret rfl)

theorem corR_eq {l : List ByteArray} {w : ByteArray} {m : Int} {r s : ByteArray × Int} (hr : corR l w m r) (hs : corR l w m s) : r = s := by
  by_cases h : m < 0 ∨ w.size > 100 ∨ l.length > 1000 ∨ lngs l
  · rw [hr.1 h, hs.1 h]
  · rw [hr.2 h, hs.2 h]
theorem corrects_j1 (l : List ByteArray) (w : ByteArray) (m : Int) (hl : (l.length : Int) ≤ 9223372036854775807) (x : Bool) : EvP (fun k => incunablelaw30_LetterCorrects.j1 k l w m x) (· = true) := by
  refine EvP.step (fun k => by rw [incunablelaw30_LetterCorrects.j1]) ?_
  refine EvP.ite (fun _ => ?_) (fun _ => ?_)
  · refine EvP.bind Awake_is ?_
    rintro _ rfl
    exact EvP.ret rfl
  · refine EvP.bind (Correct_is l w m hl) (fun r hr => ?_)
    refine EvP.bind (refCorrect_is l w m) (fun s hs => ?_)
    have e := corR_eq hr hs
    subst e
    refine EvP.pos rfl (EvP.pos rfl ?_)
    refine EvP.bind Awake_is ?_
    rintro _ rfl
    exact EvP.ret rfl
theorem LetterCorrects : incunablelaw30_LetterCorrects.Pure := by
  intro l w m hl _ _
  have hl : (l.length : Int) ≤ 9223372036854775807 := by have := hl.1; omega
  refine EvP.rounds ?_
  unfold incunablelaw30_LetterCorrects.f
  refine EvP.up (L := fun k i (s : Int) => incunablelaw30_LetterCorrects.l0 k l w m s l (l.length : Int) i) (fun i _ => 0 ≤ i) l.length ?_ 0 _ (by omega) (by omega)
  intro i s h0 hi ih
  refine EvP.step (fun k => by rw [incunablelaw30_LetterCorrects.l0]) ?_
  refine EvP.ite (fun h1 => ?_) (fun h1 => ?_)
  · refine EvP.pos h0 (EvP.pos h1 ?_)
    rw [w64 (x := i + 1) (by omega) (by omega)]
    exact ih _ h1 (by omega)
  · exact EvP.ite (fun _ => corrects_j1 l w m hl _) (fun _ => corrects_j1 l w m hl _)

end Go.Proofs.Ytmggeebpbacoiaa.Pure
