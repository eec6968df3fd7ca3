/- NoteHits of incunablelaw25 answers true for every expression and pixel: the program and the reference lead to the same place, within the area of a note that leads there. -/
import Derived.Test.YtacdchogjpeffaaDoorPNoteHitsx13
import Derived.Test.YtacdchogjpeffaaDoorQBase
namespace Go.Proofs.YtacdchogjpeffaaDoor.Pure
open Go.RowKit Go.Proofs.YtacdchogjpeffaaDoor.PNoteHits Go.Proofs.YtacdchogjpeffaaDoorW.PrintWords Go.Proofs.YtacdchogjpeffaaDoorW.PrintLast Go.Proofs.YtacdchogjpeffaaDoorW.PrintMore Go.Proofs.YtacdchogjpeffaaDoorW.Pu
set_option linter.unusedVariables false
set_option linter.unusedSimpArgs false
/-- The numbers of a list are those of bytes. -/
def Byt (p : List Int) : Prop := ∀ x ∈ p, 0 ≤ x ∧ x ≤ 255
theorem val_byt {w h : Int} {p : List Int} (v : Val w h p) : Byt p := fun x hx => ⟨(v.2.2.2.2.2.2 x hx).1, by have := (v.2.2.2.2.2.2 x hx).2; omega⟩

theorem wf_byt {p : List Int} (h : ∀ y ∈ p, (Lit.int .u8 y).wf = true) : Byt p := fun x hx => by
  have h1 : (decide (IntKind.u8.min ≤ x) && decide (x ≤ IntKind.u8.max)) = true := h x hx
  obtain ⟨a, b⟩ := Bool.and_eq_true_iff.mp h1
  exact ⟨of_decide_eq_true a, of_decide_eq_true b⟩
theorem wf_i64 {x : Int} (h : (Lit.int .i64 x).wf = true) : -9223372036854775808 ≤ x ∧ x ≤ 9223372036854775807 := by
  have h1 : (decide (IntKind.i64.min ≤ x) && decide (x ≤ IntKind.i64.max)) = true := h
  obtain ⟨a, b⟩ := Bool.and_eq_true_iff.mp h1
  exact ⟨of_decide_eq_true a, of_decide_eq_true b⟩

mutual
def cntE : S33 → Nat
  | ⟨_, _, _, ks⟩ => 1 + cntEL ks
def cntEL : List S33 → Nat
  | [] => 0
  | x :: xs => cntE x + cntEL xs
end
mutual
def dpE : S33 → Nat
  | ⟨_, _, _, ks⟩ => 1 + dpEL ks
def dpEL : List S33 → Nat
  | [] => 0
  | x :: xs => max (dpE x) (dpEL xs)
end
def wordU (b : UInt8) : Bool := (decide (97 ≤ b.toNat) && decide (b.toNat ≤ 122)) || (decide (48 ≤ b.toNat) && decide (b.toNat ≤ 57)) || decide (b.toNat = 45)
def nameB (s : ByteArray) : Bool := decide (1 ≤ s.size) && decide (s.size ≤ 30) && decide (97 ≤ bt s 0) && decide (bt s 0 ≤ 122) && s.data.toList.all wordU
/-- An expression by itself, without its kids. -/
def oneB (k : Int) (t : ByteArray) (n : Int) (len : Nat) : Bool :=
  if k = 0 then decide (t.toList = ([] : List UInt8)) && decide (n = 0)
  else if k = 1 then nameB t && decide (n = 0) && decide (len = 0)
  else if k = 2 then decide (t.toList = ([] : List UInt8)) && decide (-999999 ≤ n) && decide (n ≤ 999999) && decide (len = 0)
  else if k = 3 then decide (t.size ≤ 200) && decide (n = 0) && decide (len = 0) else false
mutual
def rightE : S33 → Bool
  | ⟨k, t, n, ks⟩ => oneB k t n ks.length && rightEL ks
def rightEL : List S33 → Bool
  | [] => true
  | x :: xs => rightE x && rightEL xs
end
theorem cntE_kids (x : S33) : cntE x = 1 + cntEL x.f3 := by cases x; simp [cntE]
theorem dpE_kids (x : S33) : dpE x = 1 + dpEL x.f3 := by cases x; simp [dpE]
theorem rightE_kids (x : S33) : rightE x = (oneB x.f0 x.f1 x.f2 x.f3.length && rightEL x.f3) := by cases x; simp [rightE]
theorem drop_rd33 (l : List S33) (i : Int) (h0 : 0 ≤ i) (h1 : i < l.length) : l.drop i.toNat = rd_T33 l i :: l.drop (i + 1).toNat := by
  have hl : i.toNat < l.length := by omega
  rw [show (i + 1).toNat = i.toNat + 1 by omega, List.drop_eq_getElem_cons hl]
  congr 1
  simp [rd_T33, List.getD, List.getElem?_eq_getElem hl]
theorem drop_none33 (l : List S33) (i : Int) (h0 : 0 ≤ i) (h1 : ¬ i < l.length) : l.drop i.toNat = [] := List.drop_eq_nil_of_le (by omega)
theorem rd_mem33 (l : List S33) (i : Int) (h0 : 0 ≤ i) (h1 : i < l.length) : rd_T33 l i ∈ l := by
  have hl : i.toNat < l.length := by omega
  have e : rd_T33 l i = l[i.toNat] := by simp [rd_T33, List.getD, List.getElem?_eq_getElem hl]
  rw [e]
  exact List.getElem_mem hl
theorem rd_drop33 (l : List S33) (n : Nat) (j : Int) (h0 : 0 ≤ j) : rd_T33 (l.drop n) j = rd_T33 l (j + n) := by
  simp only [rd_T33, List.getD, List.getElem?_drop]
  congr 2
  omega
theorem cntEL_le : ∀ (l : List S33), l.length ≤ cntEL l
  | [] => by simp [cntEL]
  | x :: xs => by have := cntEL_le xs; have := cntE_kids x; simp [cntEL]; omega
theorem dpE_cnt : ∀ (n : Nat) (l : List S33), cntEL l < n → dpEL l ≤ cntEL l
  | 0, _, h => by omega
  | n + 1, [], _ => by simp [dpEL]
  | n + 1, x :: xs, h => by
    have e1 := cntE_kids x
    have e2 := dpE_kids x
    simp only [cntEL, dpEL] at h ⊢
    have h1 := dpE_cnt n x.f3 (by omega)
    have h2 := dpE_cnt n xs (by omega)
    omega
theorem cntEL_mem : ∀ (l : List S33) (x : S33), x ∈ l → cntE x ≤ cntEL l
  | y :: ys, x, h => by
    simp only [cntEL]
    rcases List.mem_cons.1 h with rfl | h
    · omega
    · have := cntEL_mem ys x h; omega
def GE (l : List S33) : Prop := l.length ≤ 9223372036854775807 ∧ l.length * 56 ≤ 140737488351232 ∧ ∀ y ∈ l, ∃ n, Good33 n y
theorem GE.kids {l : List S33} {x : S33} (h : GE l) (hx : x ∈ l) : (-9223372036854775808 ≤ x.f0 ∧ x.f0 ≤ 9223372036854775807) ∧ x.f1.size ≤ 140737488351232 ∧ (-9223372036854775808 ≤ x.f2 ∧ x.f2 ≤ 9223372036854775807) ∧ GE x.f3 := by
  obtain ⟨n, hn⟩ := h.2.2 x hx
  cases n with
  | zero => exact hn.elim
  | succ n =>
    obtain ⟨z, a, b, c, d, e⟩ := hn
    exact ⟨wf_i64 z, a, wf_i64 b, c, d, fun y hy => ⟨n, e y hy⟩⟩
theorem cntEL_drop (l : List S33) (i : Int) (h0 : 0 ≤ i) (h1 : i < l.length) : cntEL (l.drop i.toNat) = 1 + cntEL (rd_T33 l i).f3 + cntEL (l.drop (i + 1).toNat) := by
  rw [drop_rd33 l i h0 h1, cntEL, cntE_kids]
theorem dpEL_drop (l : List S33) (i : Int) (h0 : 0 ≤ i) (h1 : i < l.length) : dpEL (l.drop i.toNat) = max (1 + dpEL (rd_T33 l i).f3) (dpEL (l.drop (i + 1).toNat)) := by
  rw [drop_rd33 l i h0 h1, dpEL, dpE_kids]
theorem rightEL_drop (l : List S33) (i : Int) (h0 : 0 ≤ i) (h1 : i < l.length) : rightEL (l.drop i.toNat) = (rightE (rd_T33 l i) && rightEL (l.drop (i + 1).toNat)) := by
  rw [drop_rd33 l i h0 h1, rightEL]
theorem cntE_kid (l : List S33) (i : Int) (h0 : 0 ≤ i) (h1 : i < l.length) : 1 + cntEL (rd_T33 l i).f3 ≤ cntEL l := by
  have := cntEL_mem l _ (rd_mem33 l i h0 h1)
  have := cntE_kids (rd_T33 l i)
  omega

theorem sizeOf_ev : ∀ (n : Nat) (a0 : Int) (a1 : ByteArray) (a2 : Int) (l : List S33), cntEL l < n → a1.size ≤ 140737488351232 → GE l → ∀ (d left : Int), 0 ≤ d → d ≤ 60 → 0 ≤ left → left ≤ 6000 →
    EvP (fun k => incunablelaw25_sizeOf.f k a0 a1 a2 l d left) (fun r => -140737488360000 ≤ r ∧ r ≤ 6000 ∧ (0 ≤ r → (1 + cntEL l : Int) + r ≤ left))
  | 0, _, _, _, _, h, _, _, _, _, _, _, _, _ => by omega
  | n + 1, a0, a1, a2, l, hn, ht, hg, d, left, hd0, hd1, hl0, hl1 => by
    refine EvP.step (fun k => by rw [incunablelaw25_sizeOf.f]) ?_
    refine EvP.ite (fun c => EvP.ret ⟨by omega, by omega, by omega⟩) (fun c => ?_)
    rw [w64 (x := left - 1) (by omega) (by omega), w64 (x := left - 1 - _) (by omega) (by omega)]
    refine EvP.up (L := fun k i (s : Int) => incunablelaw25_sizeOf.l0 k d s i a0 a1 a2 l) (fun i s => 0 ≤ i ∧ -140737488360000 ≤ s ∧ s ≤ 6000 ∧ (0 ≤ s → (1 + cntEL l : Int) + s ≤ left + cntEL (l.drop i.toNat))) l.length ?_ 0 _ (by omega) ⟨by omega, by omega, by omega, fun _ => by simp; omega⟩
    intro i s hi hin ih
    obtain ⟨i0, hs0, hs1, hs⟩ := hi
    refine EvP.step (fun k => by rw [incunablelaw25_sizeOf.l0]) ?_
    refine EvP.ite (fun c1 => ?_) (fun c1 => ?_)
    · refine EvP.ite (fun c2 => ?_) (fun c2 => EvP.ret ⟨hs0, hs1, fun h => by omega⟩)
      refine EvP.pos i0 ?_
      have hm := rd_mem33 l i i0 c1
      obtain ⟨_, k1, _, k3⟩ := hg.kids hm
      have hlen := hg.1
      have e2 := cntEL_drop l i i0 c1
      have hk := cntE_kid l i i0 c1
      rw [w64 (x := d - 1) (by omega) (by omega)]
      refine EvP.bind (sizeOf_ev n _ _ _ (rd_T33 l i).f3 (by omega) k1 k3 (d - 1) s (by omega) (by omega) (by omega) (by omega)) (fun r hr => ?_)
      obtain ⟨r0, r1, r2⟩ := hr
      rw [w64 (x := i + 1) (by omega) (by omega)]
      refine ih r c1 ⟨by omega, r0, r1, fun h => ?_⟩
      have := r2 h
      have := hs c2
      omega
    · refine EvP.ret ⟨hs0, hs1, fun h => ?_⟩
      have := hs h
      have e : l.drop i.toNat = [] := drop_none33 l i i0 c1
      rw [e] at this
      simp [cntEL] at this
      omega
theorem deep_ev (a0 : Int) (a1 : ByteArray) (a2 : Int) (l : List S33) (ht : a1.size ≤ 140737488351232) (hg : GE l) : EvP (fun k => incunablelaw25_Deep.f k a0 a1 a2 l) (fun b => b = false → 1 + cntEL l ≤ 6000) := by
  refine EvP.bind (Q := fun r => 0 ≤ r → (1 + cntEL l : Int) + r ≤ 6000) ?_ (fun r hr => EvP.ret (fun h => ?_))
  · refine EvP.bind (sizeOf_ev (cntEL l + 1) a0 a1 a2 l (by omega) ht hg 60 6000 (by omega) (by omega) (by omega) (by omega)) (fun r hr => EvP.ret hr.2.2)
  · have h3 : ¬ r < 0 := by simpa using h
    have := hr (by omega)
    omega

theorem dropW_nil {p : UInt8 → Bool} : ∀ (l : List UInt8), (l.dropWhile p = []) ↔ l.all p = true
  | [] => by simp
  | x :: xs => by
    by_cases h : p x = true
    · simp [List.dropWhile, h, dropW_nil xs]
    · simp [List.dropWhile, h]
theorem trimS_nil (l cs : List UInt8) : (Go.Lib.trimS l cs = []) ↔ l.all (cs.contains ·) = true := by
  unfold Go.Lib.trimS Go.Lib.trimRightS Go.Lib.trimLeftS
  rw [dropW_nil, List.all_reverse, ← List.all_reverse (l := l)]
  have key : ∀ m : List UInt8, (m.dropWhile (cs.contains ·)).all (cs.contains ·) = true → m.all (cs.contains ·) = true := by
    intro m
    induction m with
    | nil => intro _; rfl
    | cons x xs ih =>
      intro h
      by_cases hx : cs.contains x = true
      · rw [List.dropWhile_cons_of_pos hx] at h
        rw [List.all_cons, hx, Bool.true_and]
        exact ih h
      · rw [List.dropWhile_cons_of_neg hx, List.all_cons] at h
        exact absurd (Bool.and_eq_true_iff.1 h).1 hx
  constructor
  · exact key _
  · intro h
    rw [(dropW_nil (p := (cs.contains ·)) _).2 h]
    rfl
def letU : List UInt8 := [97, 98, 99, 100, 101, 102, 103, 104, 105, 106, 107, 108, 109, 110, 111, 112, 113, 114, 115, 116, 117, 118, 119, 120, 121, 122, 48, 49, 50, 51, 52, 53, 54, 55, 56, 57, 45]
theorem letU_word : ∀ b : UInt8, letU.contains b = wordU b := by
  have h : ∀ n : Fin 256, letU.contains (UInt8.ofNat n.val) = wordU (UInt8.ofNat n.val) := by decide +kernel
  intro b
  have := h ⟨b.toNat, b.toNat_lt⟩
  simpa using this
theorem toList_nil (s : ByteArray) : s.toList = [] ↔ s.size = 0 := by
  rw [ByteArray.toList_eq]
  constructor
  · intro h
    have := congrArg List.length h
    simpa using this
  · intro h
    exact List.eq_nil_of_length_eq_zero (by simpa using h)
theorem nameP (s : ByteArray) : note_isName.f s = some (nameB s) := by
  unfold note_isName.f nameB
  by_cases h0 : s.toList = ([] : List UInt8)
  · rw [if_pos h0]
    have := (toList_nil s).1 h0
    simp [this]
  · rw [if_neg h0]
    have hs : 1 ≤ s.size := by
      have hz : ¬ s.size = 0 := fun h => h0 ((toList_nil s).2 h)
      omega
    by_cases h1 : (s.size : Int) ≤ 30
    · have h1' : s.size ≤ 30 := by omega
      rw [if_pos h1, if_pos (by omega)]
      by_cases h2 : bt s 0 ≥ 97
      · have h2' : 97 ≤ bt s 0 := h2
        rw [if_pos h2]
        by_cases h3 : bt s 0 ≤ 122
        · rw [if_pos h3]
          unfold strings_Trim.f
          rw [if_pos (by omega), if_pos (by decide), if_pos (by decide)]
          simp only [Option.bind_some, hs, h1', h2', h3, decide_true, Bool.true_and]
          congr 1
          have e := trimS_nil s.data.toList letU
          have e2 : s.data.toList.all (letU.contains ·) = s.data.toList.all wordU := by
            congr 1
            funext b
            exact letU_word b
          rw [e2] at e
          rw [Bool.eq_iff_iff, ← e]
          rw [ByteArray.toList_eq]
          simp [letU]
        · rw [if_neg h3]
          simp [h3]
      · rw [if_neg h2]
        have h2' : ¬ 97 ≤ bt s 0 := h2
        simp [h2']
    · rw [if_neg h1]
      have h1' : ¬ s.size ≤ 30 := by omega
      simp [h1']
theorem oneP (k : Int) (t : ByteArray) (n : Int) (l : List S33) : note_isExpr.f k t n l = some (oneB k t n l.length) := by
  unfold note_isExpr.f oneB
  have e : ((l.length : Int) == 0) = decide (l.length = 0) := by
    rw [Bool.eq_iff_iff]; simp
  rw [nameP]
  by_cases c0 : k = 0
  · rw [if_pos c0, if_pos c0]
    by_cases c1 : t.toList = ([] : List UInt8)
    · rw [if_pos c1]
      simp only [c1, decide_true, Bool.true_and]
      exact congrArg some (Bool.eq_iff_iff.2 (by simp))
    · rw [if_neg c1]; simp [c1]
  · rw [if_neg c0, if_neg c0]
    by_cases c1 : k = 1
    · rw [if_pos c1, if_pos c1, Option.bind_some]
      cases nameB t
      · simp
      · rw [if_pos rfl, e]
        by_cases c2 : n = 0
        · rw [if_pos c2]; simp [c2]
        · rw [if_neg c2]; simp [c2]
    · rw [if_neg c1, if_neg c1]
      by_cases c2 : k = 2
      · rw [if_pos c2, if_pos c2, e]
        by_cases d1 : t.toList = ([] : List UInt8)
        · rw [if_pos d1]
          by_cases d2 : n ≥ -999999
          · have d2' : -999999 ≤ n := d2
            rw [if_pos d2]
            by_cases d3 : n ≤ 999999
            · rw [if_pos d3]; simp [d1, d2', d3]
            · rw [if_neg d3]; simp [d3]
          · have d2' : ¬ -999999 ≤ n := d2
            rw [if_neg d2]; simp [d2']
        · rw [if_neg d1]; simp [d1]
      · rw [if_neg c2, if_neg c2]
        by_cases c3 : k = 3
        · rw [if_pos c3, if_pos c3, e]
          by_cases d1 : (t.size : Int) ≤ 200
          · have d1' : t.size ≤ 200 := by omega
            rw [if_pos d1]
            by_cases d2 : n = 0
            · rw [if_pos d2]; simp [d1', d2]
            · rw [if_neg d2]; simp [d2]
          · have d1' : ¬ t.size ≤ 200 := by omega
            rw [if_neg d1]; simp [d1']
        · rw [if_neg c3, if_neg c3]

theorem right_ev : ∀ (n : Nat) (a0 : Int) (a1 : ByteArray) (a2 : Int) (l : List S33), cntEL l < n → GE l → ∀ (m d : Int), 0 ≤ m → m ≤ 400 → 1 ≤ d → d ≤ 21 →
    EvP (fun k => note_looks_right.f k m a0 a1 a2 l d) (fun r => (0 ≤ r.2 ∧ r.2 ≤ 401) ∧ (r.1 = true ↔ (oneB a0 a1 a2 l.length = true ∧ rightEL l = true ∧ m + 1 + cntEL l ≤ 400 ∧ d + dpEL l ≤ 20)) ∧ (r.1 = true → r.2 = m + 1 + cntEL l))
  | 0, _, _, _, _, h, _, _, _, _, _, _, _ => by omega
  | n + 1, a0, a1, a2, l, hn, hg, m, d, hm0, hm1, hd0, hd1 => by
    refine EvP.step (fun k => by rw [note_looks_right.f]) ?_
    rw [w64 (x := m + 1) (by omega) (by omega)]
    refine EvP.ite (fun c => ?_) (fun c => ?_)
    · refine EvP.step (fun k => by rw [note_looks_right.j0]) (EvP.pos rfl (EvP.ret ⟨⟨by omega, by omega⟩, ⟨fun h => (by cases h), fun h => by omega⟩, fun h => (by cases h)⟩))
    refine EvP.ite (fun c' => ?_) (fun c' => ?_)
    · refine EvP.step (fun k => by rw [note_looks_right.j0]) (EvP.pos rfl (EvP.ret ⟨⟨by omega, by omega⟩, ⟨fun h => (by cases h), fun h => by omega⟩, fun h => (by cases h)⟩))
    refine EvP.bindv (oneP a0 a1 a2 l) ?_
    refine EvP.step (fun k => by rw [note_looks_right.j0]) ?_
    refine EvP.ite (fun c1 => EvP.ret ⟨⟨by omega, by omega⟩, ⟨fun h => (by cases h), fun h => by simp [h.1] at c1⟩, fun h => (by cases h)⟩) (fun c1 => ?_)
    have h1 : oneB a0 a1 a2 l.length = true := by simpa using c1
    refine EvP.up (L := fun k i (s : Int) => note_looks_right.l0 k d l (l.length : Int) i s) (fun i s => 0 ≤ i ∧ 0 ≤ s ∧ s ≤ 400 ∧ rightEL l = rightEL (l.drop i.toNat) ∧ m + 1 + cntEL l = s + cntEL (l.drop i.toNat) ∧ (d + dpEL l ≤ 20 ↔ d + dpEL (l.drop i.toNat) ≤ 20)) l.length ?_ 0 (m + 1) (by omega) ⟨by omega, by omega, by omega, by simp, by simp, by simp⟩
    intro i s hi hin ih
    obtain ⟨i0, hs0, hs1, e1, e2, e3⟩ := hi
    refine EvP.step (fun k => by rw [note_looks_right.l0]) ?_
    refine EvP.ite (fun c2 => ?_) (fun c2 => ?_)
    · refine EvP.pos i0 (EvP.pos c2 ?_)
      have hm := rd_mem33 l i i0 c2
      obtain ⟨_, k1, _, k3⟩ := hg.kids hm
      have hlen := hg.1
      have hk := cntE_kid l i i0 c2
      have f1 := rightEL_drop l i i0 c2
      have f2 := cntEL_drop l i i0 c2
      have f3 := dpEL_drop l i i0 c2
      rw [f1, rightE_kids] at e1
      rw [f2] at e2
      rw [f3] at e3
      rw [w64 (x := d + 1) (by omega) (by omega)]
      refine EvP.bind (right_ev n _ _ _ (rd_T33 l i).f3 (by omega) k3 s (d + 1) (by omega) (by omega) (by omega) (by omega)) (fun r hr => ?_)
      obtain ⟨⟨r0, r1⟩, r2, r3⟩ := hr
      refine EvP.ite (fun c3 => ?_) (fun c3 => ?_)
      · rw [w64 (x := i + 1) (by omega) (by omega)]
        obtain ⟨g0, g1, g2, g3⟩ := r2.1 c3
        have g4 := r3 c3
        refine ih r.2 c2 ⟨by omega, r0, by omega, ?_, by omega, ?_⟩
        · rw [e1, g0, g1]
          simp
        · rw [e3]
          omega
      · refine EvP.ret ⟨⟨r0, r1⟩, ⟨fun h => (by cases h), fun h => ?_⟩, fun h => (by cases h)⟩
        obtain ⟨h1, h2, h3, h4⟩ := h
        have h5 := e1.symm.trans h2
        simp only [Bool.and_eq_true] at h5
        have h6 := e3.1 h4
        exact absurd (r2.2 ⟨h5.1.1, h5.1.2, by omega, by omega⟩) c3
    · have e : l.drop i.toNat = [] := drop_none33 l i i0 c2
      rw [e] at e1 e2 e3
      simp only [rightEL, cntEL, dpEL] at e1 e2 e3
      refine EvP.ret ⟨⟨hs0, by omega⟩, ⟨fun _ => ⟨h1, e1, by omega, e3.2 (by omega)⟩, fun _ => rfl⟩, fun _ => by show s = _; omega⟩
def validB (a0 : Int) (a1 : ByteArray) (a2 : Int) (l : List S33) : Bool := oneB a0 a1 a2 l.length && rightEL l && decide (1 + cntEL l ≤ 400) && decide (1 + dpEL l ≤ 20)
theorem validE_ev (a0 : Int) (a1 : ByteArray) (a2 : Int) (l : List S33) (hg : GE l) : EvP (fun k => note_Valid.f k a0 a1 a2 l) (· = validB a0 a1 a2 l) := by
  refine EvP.bind (right_ev (cntEL l + 1) a0 a1 a2 l (by omega) hg 0 1 (by omega) (by omega) (by omega) (by omega)) (fun r hr => EvP.ret ?_)
  obtain ⟨_, h, _⟩ := hr
  show r.1 = _
  rw [Bool.eq_iff_iff, h]
  unfold validB
  simp only [Bool.and_eq_true, decide_eq_true_eq]
  constructor
  · rintro ⟨a, b, c, d⟩; exact ⟨⟨⟨a, b⟩, by omega⟩, by omega⟩
  · rintro ⟨⟨⟨a, b⟩, c⟩, d⟩; exact ⟨a, b, by omega, by omega⟩

/-- A shape of a note. -/
def Shape (k : Int) (l : List S33) : Prop := k = 0 ∧ l.length = 5 ∧ (rd_T33 l 0).f0 = 1 ∧ ((rd_T33 l 0).f1.toList = ([114, 101, 99, 116] : List UInt8) ∨ (rd_T33 l 0).f1.toList = ([111, 118, 97, 108] : List UInt8)) ∧ (∀ i : Int, 1 ≤ i → i < 5 → (rd_T33 l i).f0 = 2) ∧ 1 ≤ (rd_T33 l 3).f2 ∧ 1 ≤ (rd_T33 l 4).f2 ∧ (rd_T33 l 3).f2 ≤ 30000 ∧ (rd_T33 l 4).f2 ≤ 30000
def Head (k : Int) (l : List S33) : Prop := k = 0 ∧ l.length = 5 ∧ (rd_T33 l 0).f0 = 1 ∧ ((rd_T33 l 0).f1.toList = ([114, 101, 99, 116] : List UInt8) ∨ (rd_T33 l 0).f1.toList = ([111, 118, 97, 108] : List UInt8))
theorem mx_is (x y : Int) : mx x y = max x y := by unfold mx; split <;> omega
theorem mn_is (x y : Int) : mn x y = min x y := by unfold mn; split <;> omega
theorem isShape_j (a0 : Int) (a1 : ByteArray) (a2 : Int) (l : List S33) (b : Bool) (hb : b = false ↔ Head a0 l) : EvP (fun k => note_isShape.j0 k b a0 a1 a2 l) (fun r => (r = true ↔ Shape a0 l)) := by
  refine EvP.step (fun k => by rw [note_isShape.j0]) ?_
  refine EvP.ite (fun c => EvP.ret (Iff.intro (fun h => by cases h) (fun h => ?_))) (fun c => ?_)
  · have := hb.2 ⟨h.1, h.2.1, h.2.2.1, h.2.2.2.1⟩
    rw [this] at c
    cases c
  obtain ⟨h1, h2, h3, h4⟩ := hb.1 (by simpa using c)
  refine EvP.pos (by omega) ?_
  simp only [Option.bind_some]
  have hl : ((l.drop 1).length : Int) = 4 := by simp [h2]
  rw [hl]
  refine EvP.up (L := fun k i (_ : Unit) => note_isShape.l0 k (l.drop 1) 4 i a0 a1 a2 l) (fun i _ => 0 ≤ i ∧ ∀ j : Int, 1 ≤ j → j < i + 1 → (rd_T33 l j).f0 = 2) 4 ?_ 0 () (by omega) ⟨by omega, fun j _ _ => by omega⟩
  intro i u hi hin ih
  obtain ⟨i0, hk⟩ := hi
  refine EvP.step (fun k => by rw [note_isShape.l0]) ?_
  rw [hl]
  have er : rd_T33 (l.drop 1) i = rd_T33 l (i + 1) := rd_drop33 l 1 i i0
  rw [er]
  refine EvP.ite (fun c1 => ?_) (fun c1 => ?_)
  · refine EvP.pos i0 (EvP.pos c1 ?_)
    refine EvP.ite (fun c2 => ?_) (fun c2 => EvP.ret (Iff.intro (fun h => by cases h) (fun h => absurd (h.2.2.2.2.1 (i + 1) (by omega) (by omega)) c2)))
    rw [w64 (x := i + 1) (by omega) (by omega)]
    refine ih () c1 ⟨by omega, fun j j0 j1 => ?_⟩
    by_cases hj : j = i + 1
    · rw [hj]; exact c2
    · exact hk j j0 (by omega)
  · have hall : ∀ j : Int, 1 ≤ j → j < 5 → (rd_T33 l j).f0 = 2 := fun j j0 j1 => hk j j0 (by omega)
    refine EvP.pos (by omega) (EvP.pos (by omega) ?_)
    rw [mx_is, mn_is]
    refine EvP.ite (fun c2 => EvP.ret ?_) (fun c2 => EvP.ret (Iff.intro (fun h => by cases h) (fun h => by
      obtain ⟨_, _, _, _, _, a, b, _, _⟩ := h
      omega)))
    rw [decide_eq_true_eq]
    constructor
    · intro h
      exact ⟨h1, h2, h3, h4, hall, by omega, by omega, by omega, by omega⟩
    · rintro ⟨_, _, _, _, _, a, b, c, d⟩
      omega
theorem isShape_ev (a0 : Int) (a1 : ByteArray) (a2 : Int) (l : List S33) : EvP (fun k => note_isShape.f k a0 a1 a2 l) (fun r => (r = true ↔ Shape a0 l)) := by
  unfold note_isShape.f
  have J := isShape_j a0 a1 a2 l
  refine EvP.ite (fun c0 => ?_) (fun c0 => J true (Iff.intro (fun h => by cases h) (fun h => absurd h.1 c0)))
  refine EvP.ite (fun c1 => ?_) (fun c1 => J true (Iff.intro (fun h => by cases h) (fun h => absurd (by have := h.2.1; omega) c1)))
  refine EvP.pos (by omega) ?_
  refine EvP.ite (fun c2 => ?_) (fun c2 => J true (Iff.intro (fun h => by cases h) (fun h => absurd h.2.2.1 c2)))
  have hl : l.length = 5 := by omega
  refine EvP.ite (fun c3 => J false (Iff.intro (fun _ => ⟨c0, hl, c2, .inl c3⟩) (fun _ => rfl))) (fun c3 => J _ ?_)
  constructor
  · intro h
    exact ⟨c0, hl, c2, .inr (by simpa using h)⟩
  · intro h
    rcases h.2.2.2 with h | h
    · exact absurd h c3
    · simpa using h
def ShR (l : List S33) (r : Int × Int × Int × Int × Bool × Bool) : Prop := r = ((rd_T33 l 1).f2, (rd_T33 l 2).f2, (rd_T33 l 3).f2, (rd_T33 l 4).f2, ((rd_T33 l 0).f1.toList == ([111, 118, 97, 108] : List UInt8)), true)
theorem refShape_j (a0 : Int) (a1 : ByteArray) (a2 : Int) (l : List S33) (b : Bool) (hb : b = false ↔ Head a0 l) : EvP (fun k => incunableref25_shape.j0 k b a0 a1 a2 l) (fun r => (r.2.2.2.2.2 = true ↔ Shape a0 l) ∧ (Shape a0 l → ShR l r)) := by
  refine EvP.step (fun k => by rw [incunableref25_shape.j0]) ?_
  refine EvP.ite (fun c => EvP.ret ?_) (fun c => ?_)
  · have hn : ¬ Shape a0 l := fun h => by
      have := hb.2 ⟨h.1, h.2.1, h.2.2.1, h.2.2.2.1⟩
      rw [this] at c
      cases c
    exact ⟨Iff.intro (fun h => by cases h) (fun h => absurd h hn), fun h => absurd h hn⟩
  obtain ⟨h1, h2, h3, h4⟩ := hb.1 (by simpa using c)
  refine EvP.up (L := fun k i (_ : Unit) => incunableref25_shape.l0 k i a0 a1 a2 l) (fun i _ => 1 ≤ i ∧ ∀ j : Int, 1 ≤ j → j < i → (rd_T33 l j).f0 = 2) 5 ?_ 1 () (by omega) ⟨by omega, fun j _ _ => by omega⟩
  intro i u hi hin ih
  obtain ⟨i0, hk⟩ := hi
  refine EvP.step (fun k => by rw [incunableref25_shape.l0]) ?_
  refine EvP.ite (fun c1 => ?_) (fun c1 => ?_)
  · refine EvP.pos (by omega) (EvP.pos (by omega) ?_)
    refine EvP.ite (fun c2 => ?_) (fun c2 => EvP.ret ?_)
    · rw [w64 (x := i + 1) (by omega) (by omega)]
      refine ih () c1 ⟨by omega, fun j j0 j1 => ?_⟩
      by_cases hj : j = i
      · rw [hj]; exact c2
      · exact hk j j0 (by omega)
    · have hn : ¬ Shape a0 l := fun h => absurd (h.2.2.2.2.1 i i0 c1) c2
      exact ⟨Iff.intro (fun h => by cases h) (fun h => absurd h hn), fun h => absurd h hn⟩
  · have hall : ∀ j : Int, 1 ≤ j → j < 5 → (rd_T33 l j).f0 = 2 := fun j j0 j1 => hk j j0 (by omega)
    refine EvP.pos (by omega) (EvP.pos (by omega) (EvP.pos (by omega) (EvP.pos (by omega) (EvP.pos (by omega) ?_))))
    have no : ∀ x : Int × Int × Int × Int × Bool, ¬ Shape a0 l → ((x.1, x.2.1, x.2.2.1, x.2.2.2.1, x.2.2.2.2, false).2.2.2.2.2 = true ↔ Shape a0 l) ∧ (Shape a0 l → ShR l (x.1, x.2.1, x.2.2.1, x.2.2.2.1, x.2.2.2.2, false)) :=
      fun x hn => ⟨Iff.intro (fun h => by cases h) (fun h => absurd h hn), fun h => absurd h hn⟩
    refine EvP.ite (fun c2 => ?_) (fun c2 => EvP.ret (no (_, _, _, _, _) (fun h => by obtain ⟨_, _, _, _, _, a, b, _, _⟩ := h; omega)))
    refine EvP.ite (fun c3 => ?_) (fun c3 => EvP.ret (no (_, _, _, _, _) (fun h => by obtain ⟨_, _, _, _, _, a, b, _, _⟩ := h; omega)))
    refine EvP.ite (fun c4 => EvP.ret ?_) (fun c4 => EvP.ret (no (_, _, _, _, _) (fun h => by obtain ⟨_, _, _, _, _, a, b, c, _⟩ := h; omega)))
    constructor
    · show decide _ = true ↔ _
      rw [decide_eq_true_eq]
      constructor
      · intro h
        exact ⟨h1, h2, h3, h4, hall, by omega, by omega, by omega, by omega⟩
      · rintro ⟨_, _, _, _, _, a, b, c, d⟩
        exact d
    · intro h
      have : decide ((rd_T33 l 4).f2 ≤ 30000) = true := decide_eq_true h.2.2.2.2.2.2.2.2
      unfold ShR
      rw [this]
theorem refShape_ev (a0 : Int) (a1 : ByteArray) (a2 : Int) (l : List S33) : EvP (fun k => incunableref25_shape.f k a0 a1 a2 l) (fun r => (r.2.2.2.2.2 = true ↔ Shape a0 l) ∧ (Shape a0 l → ShR l r)) := by
  unfold incunableref25_shape.f
  have J := refShape_j a0 a1 a2 l
  refine EvP.ite (fun c0 => ?_) (fun c0 => J true (Iff.intro (fun h => by cases h) (fun h => absurd h.1 c0)))
  refine EvP.ite (fun c1 => ?_) (fun c1 => J true (Iff.intro (fun h => by cases h) (fun h => absurd (by have := h.2.1; omega) c1)))
  refine EvP.pos (by omega) ?_
  refine EvP.ite (fun c2 => ?_) (fun c2 => J true (Iff.intro (fun h => by cases h) (fun h => absurd h.2.2.1 c2)))
  have hl : l.length = 5 := by omega
  refine EvP.ite (fun c3 => J false (Iff.intro (fun _ => ⟨c0, hl, c2, .inl c3⟩) (fun _ => rfl))) (fun c3 => J _ ?_)
  constructor
  · intro h
    exact ⟨c0, hl, c2, .inr (by simpa using h)⟩
  · intro h
    rcases h.2.2.2 with h | h
    · exact absurd h c3
    · simpa using h

/-- A further part of a note. -/
def partB (x : S33) : Bool := decide (x.f0 = 0) && decide (x.f3.length ≠ 0) && decide ((rd_T33 x.f3 0).f0 = 1)
def Note (k : Int) (l : List S33) : Prop := k = 0 ∧ 4 ≤ l.length ∧ (rd_T33 l 0).f0 = 1 ∧ (rd_T33 l 0).f1.toList = ([97, 114, 101, 97] : List UInt8) ∧ (rd_T33 l 1).f0 = 3 ∧ (rd_T33 l 2).f0 = 3 ∧ Shape (rd_T33 l 3).f0 (rd_T33 l 3).f3 ∧ (l.drop 4).all partB = true
theorem any_step (p : S33 → Bool) (l : List S33) (i : Int) (h0 : 0 ≤ i) (h1 : i < l.length) : (l.drop i.toNat).any p = (p (rd_T33 l i) || (l.drop (i + 1).toNat).any p) := by
  rw [drop_rd33 l i h0 h1, List.any_cons]
theorem partP (x : S33) : note_isNote_1.f x.f0 x.f1 x.f2 x.f3 = some (!partB x) := by
  unfold note_isNote_1.f partB
  by_cases c0 : x.f0 = 0
  · rw [if_pos c0]
    by_cases c1 : (x.f3.length : Int) = 0
    · have c1' : x.f3.length = 0 := by omega
      rw [if_pos c1]
      simp [c1']
    · have c1' : ¬ x.f3.length = 0 := by omega
      rw [if_neg c1, if_pos (by omega)]
      simp only [c0, c1', decide_true, Bool.true_and, ne_eq, not_false_eq_true]
      refine congrArg some (Bool.eq_iff_iff.2 ?_)
      simp
  · rw [if_neg c0]
    simp [c0]
theorem index69 (l : List S33) (hl : l.length ≤ 9223372036854775807) : EvP (fun k => slices_ContainsFunc_69.f k l) (· = l.any (fun x => !partB x)) := by
  refine EvP.bind (Q := fun r => (0 ≤ r ↔ l.any (fun x => !partB x) = true)) ?_ (fun r hr => EvP.ret ?_)
  · unfold slices_IndexFunc_69.f
    refine EvP.up (L := fun k i (_ : Unit) => slices_IndexFunc_69.l0 k l (l.length : Int) i) (fun i _ => 0 ≤ i ∧ l.any (fun x => !partB x) = (l.drop i.toNat).any (fun x => !partB x)) l.length ?_ 0 () (by omega) ⟨by omega, by simp⟩
    intro i u hi hin ih
    obtain ⟨i0, e⟩ := hi
    refine EvP.step (fun k => by rw [slices_IndexFunc_69.l0]) ?_
    refine EvP.ite (fun c1 => ?_) (fun c1 => EvP.ret ?_)
    · refine EvP.pos i0 (EvP.pos c1 (EvP.bindv (partP _) ?_))
      rw [any_step _ l i i0 c1] at e
      refine EvP.ite (fun c2 => EvP.ret ?_) (fun c2 => ?_)
      · rw [e, c2]
        exact ⟨fun _ => rfl, fun _ => i0⟩
      · rw [w64 (x := i + 1) (by omega) (by omega)]
        refine ih () c1 ⟨by omega, ?_⟩
        rw [e]
        simp [c2]
    · rw [e, drop_none33 l i i0 c1]
      exact ⟨fun h => by omega, fun h => by cases h⟩
  · show decide (r ≥ 0) = _
    rw [Bool.eq_iff_iff, decide_eq_true_eq]
    exact hr
theorem isNote_ev (a0 : Int) (a1 : ByteArray) (a2 : Int) (l : List S33) (hl : l.length ≤ 9223372036854775807) : EvP (fun k => note_isNote.f k a0 a1 a2 l) (fun r => (r = true ↔ Note a0 l)) := by
  unfold note_isNote.f
  have no : ∀ {g : Nat → Option Bool}, ¬ Note a0 l → EvP (fun _ => some false) (fun r => (r = true ↔ Note a0 l)) := fun hn => EvP.ret (Iff.intro (fun h => by cases h) (fun h => absurd h hn))
  refine EvP.ite (fun c0 => ?_) (fun c0 => no (g := fun _ => none) (fun h => c0 h.1))
  refine EvP.ite (fun c1 => no (g := fun _ => none) (fun h => by have := h.2.1; omega)) (fun c1 => ?_)
  refine EvP.pos (by omega) ?_
  refine EvP.ite (fun c2 => ?_) (fun c2 => no (g := fun _ => none) (fun h => c2 h.2.2.1))
  refine EvP.ite (fun c3 => ?_) (fun c3 => no (g := fun _ => none) (fun h => c3 h.2.2.2.1))
  refine EvP.pos (by omega) ?_
  refine EvP.ite (fun c4 => ?_) (fun c4 => no (g := fun _ => none) (fun h => c4 h.2.2.2.2.1))
  refine EvP.pos (by omega) ?_
  refine EvP.ite (fun c5 => ?_) (fun c5 => no (g := fun _ => none) (fun h => c5 h.2.2.2.2.2.1))
  refine EvP.pos (by omega) ?_
  refine EvP.bind (isShape_ev _ _ _ _) (fun r hr => ?_)
  refine EvP.ite (fun c6 => ?_) (fun c6 => no (g := fun _ => none) (fun h => c6 (hr.2 h.2.2.2.2.2.2.1)))
  refine EvP.pos (by omega) ?_
  refine EvP.bind (index69 (l.drop 4) (by rw [List.length_drop]; omega)) (fun q hq => EvP.ret ?_)
  have e : (!q) = (l.drop 4).all partB := by
    rw [hq, List.all_eq_not_any_not]
  rw [e]
  exact ⟨fun h => ⟨c0, by omega, c2, c3, c4, c5, hr.1 c6, h⟩, fun h => h.2.2.2.2.2.2.2⟩
theorem refNote_j (a0 : Int) (a1 : ByteArray) (a2 : Int) (l : List S33) (hl : l.length ≤ 9223372036854775807) (b : Bool) (hb : b = false ↔ (a0 = 0 ∧ 4 ≤ l.length ∧ (rd_T33 l 0).f0 = 1 ∧ (rd_T33 l 0).f1.toList = ([97, 114, 101, 97] : List UInt8) ∧ (rd_T33 l 1).f0 = 3 ∧ (rd_T33 l 2).f0 = 3)) : EvP (fun k => incunableref25_isNote.j0 k b a0 a1 a2 l) (fun r => (r = true ↔ Note a0 l)) := by
  refine EvP.step (fun k => by rw [incunableref25_isNote.j0]) ?_
  refine EvP.ite (fun c => EvP.ret (Iff.intro (fun h => by cases h) (fun h => ?_))) (fun c => ?_)
  · have := hb.2 ⟨h.1, h.2.1, h.2.2.1, h.2.2.2.1, h.2.2.2.2.1, h.2.2.2.2.2.1⟩
    rw [this] at c
    cases c
  obtain ⟨h1, h2, h3, h4, h5, h6⟩ := hb.1 (by simpa using c)
  refine EvP.up (L := fun k i (_ : Unit) => incunableref25_isNote.l0 k i a0 a1 a2 l) (fun i _ => 4 ≤ i ∧ (l.drop 4).all partB = (l.drop i.toNat).all partB) l.length ?_ 4 () (by omega) ⟨by omega, rfl⟩
  intro i u hi hin ih
  obtain ⟨i0, e⟩ := hi
  refine EvP.step (fun k => by rw [incunableref25_isNote.l0]) ?_
  refine EvP.ite (fun c1 => ?_) (fun c1 => ?_)
  · refine EvP.pos (by omega) ?_
    rw [drop_rd33 l i (by omega) c1, List.all_cons] at e
    have no : partB (rd_T33 l i) = false → EvP (fun _ => some false) (fun r => (r = true ↔ Note a0 l)) := fun hn => EvP.ret (Iff.intro (fun h => by cases h) (fun h => by
      have := h.2.2.2.2.2.2.2
      rw [e, hn] at this
      cases this))
    refine EvP.ite (fun d0 => ?_) (fun d0 => no (by simp [partB, d0]))
    refine EvP.ite (fun d1 => no (by have : (rd_T33 l i).f3.length = 0 := by omega
                                     simp [partB, this])) (fun d1 => ?_)
    refine EvP.pos (by omega) ?_
    refine EvP.ite (fun d2 => ?_) (fun d2 => no (by simp [partB, d2]))
    rw [w64 (x := i + 1) (by omega) (by omega)]
    refine ih () c1 ⟨by omega, ?_⟩
    have hp : partB (rd_T33 l i) = true := by
      have d1' : ¬ (rd_T33 l i).f3.length = 0 := by omega
      unfold partB
      simp only [d0, d2, d1', decide_true, ne_eq, not_false_eq_true, Bool.and_self]
    rw [e, hp, Bool.true_and]
  · refine EvP.pos (by omega) ?_
    rw [List.drop_eq_nil_of_le (by omega : l.length ≤ i.toNat)] at e
    refine EvP.bind (refShape_ev _ _ _ _) (fun r hr => EvP.ret ?_)
    rw [hr.1]
    exact ⟨fun h => ⟨h1, h2, h3, h4, h5, h6, h, e⟩, fun h => h.2.2.2.2.2.2.1⟩
theorem refNote_ev (a0 : Int) (a1 : ByteArray) (a2 : Int) (l : List S33) (hl : l.length ≤ 9223372036854775807) : EvP (fun k => incunableref25_isNote.f k a0 a1 a2 l) (fun r => (r = true ↔ Note a0 l)) := by
  unfold incunableref25_isNote.f
  have J := refNote_j a0 a1 a2 l hl
  refine EvP.ite (fun c0 => ?_) (fun c0 => J true (Iff.intro (fun h => by cases h) (fun h => absurd h.1 c0)))
  refine EvP.ite (fun c1 => J true (Iff.intro (fun h => by cases h) (fun h => by have := h.2.1; omega))) (fun c1 => ?_)
  refine EvP.pos (by omega) ?_
  refine EvP.ite (fun c2 => ?_) (fun c2 => J true (Iff.intro (fun h => by cases h) (fun h => absurd h.2.2.1 c2)))
  refine EvP.ite (fun c3 => ?_) (fun c3 => J true (Iff.intro (fun h => by cases h) (fun h => absurd h.2.2.2.1 c3)))
  refine EvP.pos (by omega) ?_
  refine EvP.ite (fun c4 => ?_) (fun c4 => J true (Iff.intro (fun h => by cases h) (fun h => absurd h.2.2.2.2.1 c4)))
  refine EvP.pos (by omega) (J _ ?_)
  constructor
  · intro h
    exact ⟨c0, by omega, c2, c3, c4, by simpa using h⟩
  · intro h
    simpa using h.2.2.2.2.2

theorem isLetterR (c : Int) : incunableref25_isLetter.f c = some (decide (97 ≤ c) && decide (c ≤ 122)) := by
  unfold incunableref25_isLetter.f
  by_cases h : c ≥ 97
  · have h' : 97 ≤ c := h
    rw [if_pos h]; simp [h']
  · have h' : ¬ 97 ≤ c := h
    rw [if_neg h]; simp [h']
def wordI (c : Int) : Bool := (decide (97 ≤ c) && decide (c ≤ 122)) || (decide (48 ≤ c) && decide (c ≤ 57)) || decide (c = 45)
theorem isWordR (c : Int) : incunableref25_isWord.f c = some (wordI c) := by
  unfold incunableref25_isWord.f wordI
  have e : (c == 45) = decide (c = 45) := by rw [Bool.eq_iff_iff]; simp
  rw [isLetterR, Option.bind_some]
  cases h : (decide (97 ≤ c) && decide (c ≤ 122))
  · rw [if_neg (by simp)]
    by_cases h1 : c ≥ 48
    · have h1' : 48 ≤ c := h1
      rw [if_pos h1]
      by_cases h2 : c ≤ 57
      · rw [if_pos h2]; simp [h1', h2]
      · rw [if_neg h2, e]; simp [h2]
    · have h1' : ¬ 48 ≤ c := h1
      rw [if_neg h1, e]; simp [h1']
  · rw [if_pos rfl]; simp
theorem bt_data (s : ByteArray) (i : Int) (h0 : 0 ≤ i) (h1 : i < s.size) : s.data.toList.drop i.toNat = UInt8.ofNat (bt s i).toNat :: s.data.toList.drop (i + 1).toNat ∧ wordU (UInt8.ofNat (bt s i).toNat) = wordI (bt s i) := by
  have hl : i.toNat < s.data.toList.length := by simp; omega
  have hb : bt s i = ((s.data.toList[i.toNat]'hl).toNat : Int) := by
    have hs : i.toNat < s.size := by omega
    unfold bt
    rw [dif_pos hs]
    rfl
  rw [hb]
  have e : UInt8.ofNat ((s.data.toList[i.toNat]'hl).toNat : Int).toNat = s.data.toList[i.toNat]'hl := by simp
  rw [e]
  constructor
  · rw [show (i + 1).toNat = i.toNat + 1 by omega, List.drop_eq_getElem_cons hl]
  · unfold wordU wordI
    rw [Bool.eq_iff_iff]
    simp only [Bool.or_eq_true, Bool.and_eq_true, decide_eq_true_eq]
    omega
theorem nameR (s : ByteArray) (hs : s.size ≤ 140737488351232) : EvP (fun k => incunableref25_isName.f k s) (· = nameB s) := by
  unfold incunableref25_isName.f
  refine EvP.ite (fun c => ?_) (fun c => ?_)
  · refine EvP.step (fun k => by rw [incunableref25_isName.j0]) (EvP.pos rfl (EvP.ret ?_))
    have : ¬ 1 ≤ s.size := by omega
    simp [nameB, this]
  refine EvP.ite (fun c1 => ?_) (fun c1 => ?_)
  · refine EvP.step (fun k => by rw [incunableref25_isName.j0]) (EvP.pos rfl (EvP.ret ?_))
    have : ¬ s.size ≤ 30 := by omega
    simp [nameB, this]
  have d1 : 1 ≤ s.size := by omega
  have d2 : s.size ≤ 30 := by omega
  refine EvP.pos (by omega) (EvP.bindv (isLetterR _) ?_)
  refine EvP.step (fun k => by rw [incunableref25_isName.j0]) ?_
  refine EvP.ite (fun c2 => EvP.ret ?_) (fun c2 => ?_)
  · unfold nameB
    have c3 : (decide (97 ≤ bt s 0) && decide (bt s 0 ≤ 122)) = false := by
      cases h : (decide (97 ≤ bt s 0) && decide (bt s 0 ≤ 122)) with
      | false => rfl
      | true => rw [h] at c2; cases c2
    rw [Bool.and_assoc (decide (1 ≤ s.size) && decide (s.size ≤ 30)), c3]
    simp
  have c3 : (decide (97 ≤ bt s 0) && decide (bt s 0 ≤ 122)) = true := by
    cases h : (decide (97 ≤ bt s 0) && decide (bt s 0 ≤ 122)) with
    | true => rfl
    | false => rw [h] at c2; exact absurd rfl c2
  have e : nameB s = s.data.toList.all wordU := by
    unfold nameB
    rw [Bool.and_assoc (decide (1 ≤ s.size) && decide (s.size ≤ 30)), c3]
    simp [d1, d2]
  rw [e]
  refine EvP.up (L := fun k i (_ : Unit) => incunableref25_isName.l0 k s i) (fun i _ => 0 ≤ i ∧ s.data.toList.all wordU = (s.data.toList.drop i.toNat).all wordU) s.size ?_ 0 () (by omega) ⟨by omega, by simp⟩
  intro i u hi hin ih
  obtain ⟨i0, e1⟩ := hi
  refine EvP.step (fun k => by rw [incunableref25_isName.l0]) ?_
  refine EvP.ite (fun c4 => ?_) (fun c4 => ?_)
  · obtain ⟨h1, h2⟩ := bt_data s i i0 c4
    rw [h1, List.all_cons, h2] at e1
    refine EvP.pos i0 (EvP.bindv (isWordR _) ?_)
    refine EvP.ite (fun c5 => ?_) (fun c5 => EvP.ret ?_)
    · rw [w64 (x := i + 1) (by omega) (by omega)]
      refine ih () c4 ⟨by omega, ?_⟩
      rw [e1, c5, Bool.true_and]
    · rw [e1]
      simp [c5]
  · refine EvP.ret ?_
    have hz : s.data.toList.drop i.toNat = [] := List.drop_eq_nil_of_le (by simp; omega)
    rw [e1, hz]
    rfl
theorem rrj (n : Nat) (a0 : Int) (a1 : ByteArray) (a2 : Int) (l : List S33) (ht : a1.size ≤ 140737488351232) (hg : GE l)
    (kids : ∀ i, 0 ≤ i → i < (l.length : Int) → EvP (fun k => incunableref25_right.f k (rd_T33 l i).f0 (rd_T33 l i).f1 (rd_T33 l i).f2 (rd_T33 l i).f3) (· = rightE (rd_T33 l i)))
    (b : Bool) (hb : b = false → (a0 ≠ 0 → l.length = 0) ∧ (a0 ≠ 2 → a2 = 0) ∧ (a0 = 0 ∨ a0 = 2 → a1.toList = ([] : List UInt8))) (hb2 : b = true → oneB a0 a1 a2 l.length = false) :
    EvP (fun k => incunableref25_right.j0 k b a0 a1 a2 l) (· = (oneB a0 a1 a2 l.length && rightEL l)) := by
  refine EvP.step (fun k => by rw [incunableref25_right.j0]) ?_
  refine EvP.ite (fun c => EvP.ret ?_) (fun c => ?_)
  · rw [hb2 c]; rfl
  obtain ⟨h1, h2, h3⟩ := hb (by simpa using c)
  have hnil : a0 ≠ 0 → rightEL l = true := fun h => by
    have := List.eq_nil_of_length_eq_zero (h1 h)
    rw [this]; rfl
  refine EvP.ite (fun c0 => ?_) (fun c0 => ?_)
  · have e1 : oneB a0 a1 a2 l.length = true := by
      unfold oneB
      rw [if_pos c0]
      simp [h3 (.inl c0), h2 (by omega)]
    rw [e1, Bool.true_and]
    refine EvP.up (L := fun k i (_ : Unit) => incunableref25_right.l0 k i a0 a1 a2 l) (fun i _ => 0 ≤ i ∧ rightEL l = rightEL (l.drop i.toNat)) l.length ?_ 0 () (by omega) ⟨by omega, by simp⟩
    intro i u hi hin ih
    obtain ⟨i0, e1⟩ := hi
    have hlen := hg.1
    refine EvP.step (fun k => by rw [incunableref25_right.l0]) ?_
    refine EvP.ite (fun c4 => ?_) (fun c4 => ?_)
    · rw [rightEL_drop l i i0 c4] at e1
      refine EvP.pos i0 (EvP.bind (kids i i0 c4) (fun r hr => ?_))
      refine EvP.ite (fun c5 => ?_) (fun c5 => EvP.ret ?_)
      · rw [w64 (x := i + 1) (by omega) (by omega)]
        refine ih () c4 ⟨by omega, ?_⟩
        rw [e1, ← hr, c5, Bool.true_and]
      · rw [e1, ← hr]
        simp [c5]
    · refine EvP.ret ?_
      rw [e1, drop_none33 l i i0 c4]
      rfl
  have hl0 := h1 c0
  rw [hnil c0, Bool.and_true]
  refine EvP.ite (fun c1 => ?_) (fun c1 => ?_)
  · refine EvP.bind (nameR a1 ht) (fun r hr => EvP.ret ?_)
    rw [hr]
    unfold oneB
    rw [if_neg c0, if_pos c1]
    simp [h2 (by omega), hl0]
  refine EvP.ite (fun c2 => ?_) (fun c2 => ?_)
  · have e : oneB a0 a1 a2 l.length = (decide (-999999 ≤ a2) && decide (a2 ≤ 999999)) := by
      unfold oneB
      rw [if_neg c0, if_neg c1, if_pos c2]
      simp [h3 (.inr c2), hl0]
    rw [e]
    refine EvP.ite (fun c3 => EvP.ret ?_) (fun c3 => EvP.ret ?_)
    · have c3' : -999999 ≤ a2 := c3
      simp [c3']
    · have c3' : ¬ -999999 ≤ a2 := c3
      simp [c3']
  refine EvP.ite (fun c3 => EvP.ret ?_) (fun c3 => EvP.ret ?_)
  · unfold oneB
    rw [if_neg c0, if_neg c1, if_neg c2, if_pos c3]
    simp [h2 c2, hl0]
    omega
  · unfold oneB
    rw [if_neg c0, if_neg c1, if_neg c2, if_neg c3]
theorem refRight_ev : ∀ (n : Nat) (a0 : Int) (a1 : ByteArray) (a2 : Int) (l : List S33), cntEL l < n → a1.size ≤ 140737488351232 → GE l →
    EvP (fun k => incunableref25_right.f k a0 a1 a2 l) (· = (oneB a0 a1 a2 l.length && rightEL l))
  | 0, _, _, _, _, h, _, _ => by omega
  | n + 1, a0, a1, a2, l, hn, ht, hg => by
    refine EvP.step (fun k => by rw [incunableref25_right.f]) ?_
    have kids : ∀ i, 0 ≤ i → i < (l.length : Int) → EvP (fun k => incunableref25_right.f k (rd_T33 l i).f0 (rd_T33 l i).f1 (rd_T33 l i).f2 (rd_T33 l i).f3) (· = rightE (rd_T33 l i)) := by
      intro i h0 h1
      obtain ⟨_, k1, _, k3⟩ := hg.kids (rd_mem33 l i h0 h1)
      have hk := cntE_kid l i h0 h1
      rw [rightE_kids]
      exact refRight_ev n _ _ _ _ (by omega) k1 k3
    have J := rrj n a0 a1 a2 l ht hg kids
    have tx : ∀ b : Bool, b = (a1.toList != ([] : List UInt8)) → (b = false ↔ a1.toList = ([] : List UInt8)) := by
      intro b hb
      rw [hb]
      simp
    refine EvP.ite (fun c0 => ?_) (fun c0 => ?_)
    · refine EvP.neg (by omega) ?_
      refine EvP.ite (fun c1 => ?_) (fun c1 => ?_)
      · refine J _ (fun h => ⟨fun h => absurd c0 h, fun _ => c1, fun _ => (tx _ rfl).1 h⟩) (fun h => ?_)
        have : ¬ a1.toList = ([] : List UInt8) := fun hh => by rw [(tx _ rfl).2 hh] at h; cases h
        unfold oneB
        rw [if_pos c0]
        simp [this]
      · refine J true (fun h => by cases h) (fun _ => ?_)
        unfold oneB
        rw [if_pos c0]
        simp [c1]
    refine EvP.ite (fun c1 => ?_) (fun c1 => ?_)
    · refine J true (fun h => by cases h) (fun _ => ?_)
      have hl : ¬ l.length = 0 := by omega
      unfold oneB
      rw [if_neg c0]
      simp only [hl, decide_false, Bool.and_false]
      split
      · rfl
      · split
        · rfl
        · split <;> rfl
    have hl : l.length = 0 := by omega
    refine EvP.ite (fun c2 => ?_) (fun c2 => ?_)
    · refine J _ (fun h => ⟨fun _ => hl, fun h => absurd c2 h, fun _ => (tx _ rfl).1 h⟩) (fun h => ?_)
      have : ¬ a1.toList = ([] : List UInt8) := fun hh => by rw [(tx _ rfl).2 hh] at h; cases h
      unfold oneB
      rw [if_neg c0, if_neg (by omega), if_pos c2]
      simp [this]
    · refine EvP.ite (fun c3 => ?_) (fun c3 => ?_)
      · exact J false (fun _ => ⟨fun _ => hl, fun _ => c3, fun h => by omega⟩) (fun h => by cases h)
      · refine J true (fun h => by cases h) (fun _ => ?_)
        unfold oneB
        rw [if_neg c0, if_neg c2]
        simp [c3]
theorem measure_ev : ∀ (n : Nat) (a0 : Int) (a1 : ByteArray) (a2 : Int) (l : List S33), cntEL l < n → GE l → cntEL l ≤ 6000 →
    EvP (fun k => incunableref25_measure.f k a0 a1 a2 l) (fun r => r.1 = 1 + cntEL l ∧ r.2 = 1 + dpEL l)
  | 0, _, _, _, _, h, _, _ => by omega
  | n + 1, a0, a1, a2, l, hn, hg, hc => by
    refine EvP.step (fun k => by rw [incunableref25_measure.f]) ?_
    have hmx : ∀ x y : Int, mx x y = max x y := fun x y => by unfold mx; split <;> omega
    have hdc := dpE_cnt (cntEL l + 1) l (by omega)
    refine EvP.up (L := fun k i (s : Int × Int) => incunableref25_measure.l0 k s.1 s.2 i a0 a1 a2 l) (fun i s => 0 ≤ i ∧ 0 ≤ s.1 ∧ 0 ≤ s.2 ∧ s.1 + cntEL (l.drop i.toNat) = 1 + cntEL l ∧ max s.2 (dpEL (l.drop i.toNat) : Int) = dpEL l) l.length ?_ 0 (1, 0) (by omega) ⟨by omega, by simp, by simp, by simp, by simp⟩
    intro i s hi hin ih
    obtain ⟨i0, hs0, hs1, e2, e3⟩ := hi
    refine EvP.step (fun k => by rw [incunableref25_measure.l0]) ?_
    refine EvP.ite (fun c1 => ?_) (fun c1 => ?_)
    · refine EvP.pos i0 ?_
      obtain ⟨_, k1, _, k3⟩ := hg.kids (rd_mem33 l i i0 c1)
      have hlen := hg.1
      have hk := cntE_kid l i i0 c1
      rw [cntEL_drop l i i0 c1] at e2
      rw [dpEL_drop l i i0 c1] at e3
      refine EvP.bind (measure_ev n _ _ _ (rd_T33 l i).f3 (by omega) k3 (by omega)) (fun r hr => ?_)
      obtain ⟨r1, r2⟩ := hr
      rw [w64 (x := i + 1) (by omega) (by omega), w64 (x := s.1 + r.1) (by omega) (by omega), hmx]
      exact ih (s.1 + r.1, max s.2 r.2) c1 ⟨by omega, by show 0 ≤ s.1 + r.1; omega, by show 0 ≤ max _ _; omega, by show s.1 + r.1 + _ = _; omega, by show max (max _ _) _ = _; omega⟩
    · rw [drop_none33 l i i0 c1] at e2 e3
      simp only [cntEL, dpEL] at e2 e3
      refine EvP.ret ⟨by show s.1 = _; omega, ?_⟩
      show wrap64 (s.2 + 1) = _
      rw [w64 (x := s.2 + 1) (by omega) (by omega)]
      omega
theorem refValidE_ev (a0 : Int) (a1 : ByteArray) (a2 : Int) (l : List S33) (ht : a1.size ≤ 140737488351232) (hg : GE l) (hc : cntEL l ≤ 6000) : EvP (fun k => incunableref25_Valid.f k a0 a1 a2 l) (· = validB a0 a1 a2 l) := by
  refine EvP.bind (refRight_ev (cntEL l + 1) a0 a1 a2 l (by omega) ht hg) (fun r hr => ?_)
  unfold validB
  rw [← hr]
  refine EvP.ite (fun c => ?_) (fun c => EvP.ret (by simp [c]))
  refine EvP.bind (Q := (· = (decide (1 + cntEL l ≤ 400) && decide (1 + dpEL l ≤ 20)))) ?_ (fun b hb => EvP.ret (by rw [hb, c]; simp))
  refine EvP.bind (measure_ev (cntEL l + 1) a0 a1 a2 l (by omega) hg hc) (fun q hq => ?_)
  obtain ⟨q1, q2⟩ := hq
  refine EvP.ite (fun d => EvP.ret ?_) (fun d => EvP.ret ?_)
  · have d1 : 1 + cntEL l ≤ 400 := by omega
    have d2 : decide (q.2 ≤ 20) = decide (1 + dpEL l ≤ 20) := by
      rw [Bool.eq_iff_iff]; simp only [decide_eq_true_eq]; omega
    rw [d2]; simp [d1]
  · have d1 : ¬ 1 + cntEL l ≤ 400 := by omega
    simp [d1]

def Notes (a0 : Int) (a1 : ByteArray) (a2 : Int) (l : List S33) : Prop := validB a0 a1 a2 l = true ∧ a0 = 0 ∧ ∀ x ∈ l, Note x.f0 x.f3
theorem all_step {P : S33 → Prop} (l : List S33) (i : Int) (h0 : 0 ≤ i) (h1 : i < l.length) : (∀ x ∈ l.drop i.toNat, P x) ↔ (P (rd_T33 l i) ∧ ∀ x ∈ l.drop (i + 1).toNat, P x) := by
  rw [drop_rd33 l i h0 h1]
  simp
theorem index45 (l : List S33) (hg : GE l) : EvP (fun k => slices_ContainsFunc_45.f k l) (fun r => (r = true ↔ ¬ ∀ x ∈ l, Note x.f0 x.f3)) := by
  have hlen := hg.1
  refine EvP.bind (Q := fun r => (0 ≤ r ↔ ¬ ∀ x ∈ l, Note x.f0 x.f3)) ?_ (fun r hr => EvP.ret ?_)
  · unfold slices_IndexFunc_45.f
    refine EvP.up (L := fun k i (_ : Unit) => slices_IndexFunc_45.l0 k l (l.length : Int) i) (fun i _ => 0 ≤ i ∧ ((∀ x ∈ l, Note x.f0 x.f3) ↔ ∀ x ∈ l.drop i.toNat, Note x.f0 x.f3)) l.length ?_ 0 () (by omega) ⟨by omega, by simp⟩
    intro i u hi hin ih
    obtain ⟨i0, e⟩ := hi
    refine EvP.step (fun k => by rw [slices_IndexFunc_45.l0]) ?_
    refine EvP.ite (fun c1 => ?_) (fun c1 => EvP.ret ?_)
    · rw [all_step l i i0 c1] at e
      obtain ⟨_, _, _, k3⟩ := hg.kids (rd_mem33 l i i0 c1)
      refine EvP.pos i0 (EvP.pos c1 ?_)
      refine EvP.bind (Q := fun r => (r = true ↔ ¬ Note (rd_T33 l i).f0 (rd_T33 l i).f3)) ?_ (fun r hr => ?_)
      · refine EvP.bind (isNote_ev _ _ _ _ k3.1) (fun r hr => EvP.ret ?_)
        rw [← hr]
        cases r <;> simp
      refine EvP.ite (fun c2 => EvP.ret ?_) (fun c2 => ?_)
      · rw [e]
        exact ⟨fun _ h => hr.1 c2 h.1, fun _ => i0⟩
      · rw [w64 (x := i + 1) (by omega) (by omega)]
        refine ih () c1 ⟨by omega, ?_⟩
        rw [e]
        refine ⟨fun h => h.2, fun h => ⟨?_, h⟩⟩
        refine Classical.byContradiction (fun hn => c2 (hr.2 hn))
    · rw [e, drop_none33 l i i0 c1]
      exact ⟨fun h => by omega, fun h => absurd (fun x hx => by cases hx) h⟩
  · show decide (r ≥ 0) = true ↔ _
    rw [decide_eq_true_eq]
    exact hr
theorem isNotes_ev (a0 : Int) (a1 : ByteArray) (a2 : Int) (l : List S33) (hg : GE l) : EvP (fun k => note_IsNotes.f k a0 a1 a2 l) (fun r => (r = true ↔ Notes a0 a1 a2 l)) := by
  refine EvP.bind (validE_ev a0 a1 a2 l hg) (fun v hv => ?_)
  refine EvP.ite (fun c => ?_) (fun c => EvP.ret (Iff.intro (fun h => by cases h) (fun h => absurd (hv.trans h.1) c)))
  refine EvP.ite (fun c1 => ?_) (fun c1 => EvP.ret (Iff.intro (fun h => by cases h) (fun h => absurd h.2.1 c1)))
  refine EvP.bind (index45 l hg) (fun r hr => EvP.ret ?_)
  constructor
  · intro h
    refine ⟨hv.symm.trans c, c1, Classical.byContradiction (fun hn => ?_)⟩
    rw [hr.2 hn] at h
    cases h
  · intro h
    cases r with
    | false => rfl
    | true => exact absurd h.2.2 (hr.1 rfl)
theorem refIsNotes_ev (a0 : Int) (a1 : ByteArray) (a2 : Int) (l : List S33) (ht : a1.size ≤ 140737488351232) (hg : GE l) (hc : cntEL l ≤ 6000) : EvP (fun k => incunableref25_IsNotes.f k a0 a1 a2 l) (fun r => (r = true ↔ Notes a0 a1 a2 l)) := by
  have hlen := hg.1
  have J : ∀ b : Bool, (b = false ↔ (validB a0 a1 a2 l = true ∧ a0 = 0)) → EvP (fun k => incunableref25_IsNotes.j0 k b a0 a1 a2 l) (fun r => (r = true ↔ Notes a0 a1 a2 l)) := by
    intro b hb
    refine EvP.step (fun k => by rw [incunableref25_IsNotes.j0]) ?_
    refine EvP.ite (fun c => EvP.ret (Iff.intro (fun h => by cases h) (fun h => ?_))) (fun c => ?_)
    · rw [hb.2 ⟨h.1, h.2.1⟩] at c
      cases c
    obtain ⟨h1, h2⟩ := hb.1 (by simpa using c)
    refine EvP.up (L := fun k i (_ : Unit) => incunableref25_IsNotes.l0 k i a0 a1 a2 l) (fun i _ => 0 ≤ i ∧ ((∀ x ∈ l, Note x.f0 x.f3) ↔ ∀ x ∈ l.drop i.toNat, Note x.f0 x.f3)) l.length ?_ 0 () (by omega) ⟨by omega, by simp⟩
    intro i u hi hin ih
    obtain ⟨i0, e⟩ := hi
    refine EvP.step (fun k => by rw [incunableref25_IsNotes.l0]) ?_
    refine EvP.ite (fun c1 => ?_) (fun c1 => EvP.ret ?_)
    · rw [all_step l i i0 c1] at e
      obtain ⟨_, _, _, k3⟩ := hg.kids (rd_mem33 l i i0 c1)
      refine EvP.pos i0 (EvP.bind (refNote_ev _ _ _ _ k3.1) (fun r hr => ?_))
      refine EvP.ite (fun c2 => ?_) (fun c2 => EvP.ret (Iff.intro (fun h => by cases h) (fun h => absurd (hr.2 (e.1 h.2.2).1) c2)))
      rw [w64 (x := i + 1) (by omega) (by omega)]
      exact ih () c1 ⟨by omega, e.trans ⟨fun h => h.2, fun h => ⟨hr.1 c2, h⟩⟩⟩
    · rw [drop_none33 l i i0 c1] at e
      exact ⟨fun _ => ⟨h1, h2, e.2 (fun x hx => by cases hx)⟩, fun _ => rfl⟩
  refine EvP.bind (refValidE_ev a0 a1 a2 l ht hg hc) (fun v hv => ?_)
  refine EvP.ite (fun c => ?_) (fun c => J true (Iff.intro (fun h => by cases h) (fun h => absurd (hv.trans h.1) c)))
  refine J _ ?_
  constructor
  · intro h
    exact ⟨hv.symm.trans c, by simpa using h⟩
  · intro h
    simpa using h.2
def areaOf (x : S33) : S39 := ⟨(rd_T33 (rd_T33 x.f3 3).f3 1).f2, (rd_T33 (rd_T33 x.f3 3).f3 2).f2, (rd_T33 (rd_T33 x.f3 3).f3 3).f2, (rd_T33 (rd_T33 x.f3 3).f3 4).f2⟩
theorem area_is (x : S33) (h : Note x.f0 x.f3) : note_area.f x.f0 x.f1 x.f2 x.f3 = some ((areaOf x).f0, (areaOf x).f1, (areaOf x).f2, (areaOf x).f3) := by
  have h1 := h.2.1
  have h2 := h.2.2.2.2.2.2.1.2.1
  unfold note_area.f
  rw [if_pos (by omega), if_pos (by omega), if_pos (by omega), if_pos (by omega), if_pos (by omega)]
  rfl
theorem areas_ev (a0 : Int) (a1 : ByteArray) (a2 : Int) (l : List S33) (hg : GE l) : EvP (fun k => note_Areas.f k a0 a1 a2 l) (fun r => Notes a0 a1 a2 l ∧ r = (l.map areaOf, 0) ∨ ¬ Notes a0 a1 a2 l ∧ r = ([], 95)) := by
  have hlen := hg.1
  have hlen2 := hg.2.1
  refine EvP.bind (isNotes_ev a0 a1 a2 l hg) (fun v hv => ?_)
  refine EvP.ite (fun c => ?_) (fun c => EvP.ret (.inr ⟨fun h => c (hv.2 h), rfl⟩))
  have hN := hv.1 c
  refine EvP.up (L := fun k i (s : List S39) => note_Areas.l0 k s l (l.length : Int) i) (fun i s => 0 ≤ i ∧ s.length = i.toNat ∧ s ++ (l.drop i.toNat).map areaOf = l.map areaOf) l.length ?_ 0 [] (by omega) ⟨by omega, by simp, by simp⟩
  intro i s hi hin ih
  obtain ⟨i0, e1, e2⟩ := hi
  refine EvP.step (fun k => by rw [note_Areas.l0]) ?_
  refine EvP.ite (fun c1 => ?_) (fun c1 => EvP.ret (.inl ⟨hN, ?_⟩))
  · refine EvP.pos i0 (EvP.pos c1 (EvP.bindv (area_is _ (hN.2.2 _ (rd_mem33 l i i0 c1))) ?_))
    refine EvP.pos (by omega) ?_
    rw [w64 (x := i + 1) (by omega) (by omega)]
    refine ih _ c1 ⟨by omega, ?_, ?_⟩
    · rw [List.length_append, List.length_singleton]; omega
    · rw [← e2, drop_rd33 l i i0 c1]
      simp
  · rw [drop_none33 l i i0 c1] at e2
    rw [← e2]
    simp

def insB (a : S39) (px py : Int) : Bool := decide (a.f0 ≤ px) && (decide (a.f1 ≤ py) && (decide (px < wrap64 (a.f0 + a.f2)) && decide (py < wrap64 (a.f1 + a.f3))))
def ellP (a : S39) (px py : Int) : Prop := (wrap64 ((wrap64 ((wrap64 ((wrap64 ((wrap64 ((wrap64 ((wrap64 (2 * (wrap64 (px - a.f0)))) + 1)) - a.f2)) * (wrap64 ((wrap64 ((wrap64 (2 * (wrap64 (px - a.f0)))) + 1)) - a.f2)))) * a.f3)) * a.f3)) + (wrap64 ((wrap64 ((wrap64 ((wrap64 ((wrap64 ((wrap64 (2 * (wrap64 (py - a.f1)))) + 1)) - a.f3)) * (wrap64 ((wrap64 ((wrap64 (2 * (wrap64 (py - a.f1)))) + 1)) - a.f3)))) * a.f2)) * a.f2)))) ≤ (wrap64 ((wrap64 ((wrap64 (a.f2 * a.f2)) * a.f3)) * a.f3))
instance (a : S39) (px py : Int) : Decidable (ellP a px py) := by unfold ellP; exact inferInstance
def hitB (x : S33) (px py : Int) : Bool := insB (areaOf x) px py && (!((rd_T33 (rd_T33 x.f3 3).f3 0).f1.toList == ([111, 118, 97, 108] : List UInt8)) || decide (ellP (areaOf x) px py))
theorem wrap_cong (a b : Int) (h : a % 18446744073709551616 = b % 18446744073709551616) : wrap64 a = wrap64 b := by unfold wrap64; omega
theorem wrap_mod (a : Int) : wrap64 a % 18446744073709551616 = a % 18446744073709551616 := by unfold wrap64; omega
theorem wmul (a b : Int) : wrap64 (wrap64 a * b) = wrap64 (a * b) := wrap_cong _ _ (by rw [Int.mul_emod, wrap_mod, ← Int.mul_emod])
theorem wmul' (a b : Int) : wrap64 (a * wrap64 b) = wrap64 (a * b) := wrap_cong _ _ (by rw [Int.mul_emod, wrap_mod, ← Int.mul_emod])
theorem ellipse (A H : Int) : wrap64 (wrap64 (A * H) * wrap64 (A * H)) = wrap64 (wrap64 (wrap64 (A * A) * H) * H) := by
  rw [wmul, wmul', wmul, Int.mul_assoc (wrap64 (A * A)), wmul]
  congr 1
  ac_rfl
theorem insideR (a : S39) (px py : Int) : incunableref25_Inside.f a.f0 a.f1 a.f2 a.f3 px py = some (insB a px py) := by
  unfold incunableref25_Inside.f insB
  by_cases h1 : px ≥ a.f0
  · have h1' : a.f0 ≤ px := h1
    rw [if_pos h1]
    by_cases h2 : py ≥ a.f1
    · have h2' : a.f1 ≤ py := h2
      rw [if_pos h2]
      by_cases h3 : px < wrap64 (a.f0 + a.f2)
      · rw [if_pos h3]; simp [h1', h2', h3]
      · rw [if_neg h3]; simp [h3]
    · have h2' : ¬ a.f1 ≤ py := h2
      rw [if_neg h2]; simp [h2']
  · have h1' : ¬ a.f0 ≤ px := h1
    rw [if_neg h1]; simp [h1']
theorem has_ev (x : S33) (px py : Int) (h : Note x.f0 x.f3) : EvP (fun k => note_has.f k x.f0 x.f1 x.f2 x.f3 px py) (· = hitB x px py) := by
  have hl := h.2.1
  have hsh := h.2.2.2.2.2.2.1
  refine EvP.bindv (area_is x h) ?_
  dsimp only
  have J : ∀ b : Bool, b = !insB (areaOf x) px py → EvP (fun k => note_has.j0 k px py b x.f0 x.f1 x.f2 x.f3 (areaOf x).f0 (areaOf x).f1 (areaOf x).f2 (areaOf x).f3) (· = hitB x px py) := by
    intro b hb
    refine EvP.step (fun k => by rw [note_has.j0]) ?_
    refine EvP.ite (fun c => EvP.ret ?_) (fun c => ?_)
    · have : insB (areaOf x) px py = false := by rw [c] at hb; simpa using hb.symm
      unfold hitB
      rw [this]
      rfl
    have hi : insB (areaOf x) px py = true := by
      cases e : insB (areaOf x) px py
      · rw [e] at hb; exact absurd hb (by simpa using c)
      · rfl
    have h5 := hsh.2.1
    refine EvP.pos (by omega) (EvP.pos (by omega) ?_)
    unfold hitB
    rw [hi, Bool.true_and]
    refine EvP.ite (fun c2 => EvP.ret ?_) (fun c2 => EvP.ret ?_)
    · rw [c2]
      rfl
    · have ho := hsh.2.2.2.1.resolve_left c2
      rw [ho]
      have e : ∀ p : Prop, ∀ [Decidable p], (ellP (areaOf x) px py ↔ p) → decide p = (!(([111, 118, 97, 108] : List UInt8) == ([111, 118, 97, 108] : List UInt8)) || decide (ellP (areaOf x) px py)) := by
        intro p _ hp
        rw [show (([111, 118, 97, 108] : List UInt8) == ([111, 118, 97, 108] : List UInt8)) = true from rfl]
        rw [Bool.not_true, Bool.false_or]
        exact (decide_eq_decide.2 hp).symm
      refine e _ ?_
      unfold ellP
      rw [ellipse, ellipse]
  refine EvP.ite (fun c => J true ?_) (fun c => ?_)
  · have : ¬ (areaOf x).f0 ≤ px := by omega
    simp [insB, this]
  refine EvP.ite (fun c1 => J true ?_) (fun c1 => ?_)
  · have : ¬ (areaOf x).f1 ≤ py := by omega
    simp [insB, this]
  refine EvP.ite (fun c2 => J true ?_) (fun c2 => J _ ?_)
  · have : ¬ px < wrap64 ((areaOf x).f0 + (areaOf x).f2) := by omega
    simp [insB, this]
  · have e1 : (areaOf x).f0 ≤ px := by omega
    have e2 : (areaOf x).f1 ≤ py := by omega
    have e3 : px < wrap64 ((areaOf x).f0 + (areaOf x).f2) := by omega
    unfold insB
    rw [decide_eq_true e1, decide_eq_true e2, decide_eq_true e3]
    simp only [Bool.true_and]
    rw [Bool.eq_iff_iff]
    simp only [Bool.not_eq_true', decide_eq_true_eq, decide_eq_false_iff_not]
    omega
def txt (x : S33) : ByteArray := (rd_T33 x.f3 1).f1
def hitV (l : List S33) (px py : Int) : Nat → ByteArray × Int
  | 0 => (⟨#[]⟩, 5)
  | n + 1 => if hitB (rd_T33 l (n : Int)) px py = true then (txt (rd_T33 l (n : Int)), 0) else hitV l px py n
theorem hitV_ok (l : List S33) (px py : Int) : ∀ n, (hitV l px py n).2 = 0 → ∃ j, j < n ∧ hitB (rd_T33 l (j : Int)) px py = true ∧ (hitV l px py n).1 = txt (rd_T33 l (j : Int))
  | 0, h => by simp [hitV] at h
  | n + 1, h => by
    unfold hitV at h ⊢
    by_cases c : hitB (rd_T33 l (n : Int)) px py = true
    · rw [if_pos c]
      exact ⟨n, by omega, c, rfl⟩
    · rw [if_neg c] at h ⊢
      obtain ⟨j, h1, h2, h3⟩ := hitV_ok l px py n h
      exact ⟨j, by omega, h2, h3⟩
theorem progHit_l (l : List S33) (px py : Int) (hN : ∀ x ∈ l, Note x.f0 x.f3) : ∀ n, n ≤ l.length → EvP (fun k => note_Hit.l0 k l px py n) (· = hitV l px py n)
  | 0, _ => EvP.ret rfl
  | n + 1, hn => by
    have hx := hN _ (rd_mem33 l (n : Int) (by omega) (by omega))
    have hl := hx.2.1
    unfold note_Hit.l0 hitV
    refine EvP.bind (progHit_l l px py hN n (by omega)) (fun r hr => EvP.bind (has_ev _ px py hx) (fun t ht => ?_))
    rw [← ht]
    refine EvP.ite (fun c => ?_) (fun c => EvP.ret ?_)
    · rw [if_pos c]
      exact EvP.pos (by omega) (EvP.ret rfl)
    · rw [if_neg c]
      exact hr
def HitR (a0 : Int) (a1 : ByteArray) (a2 : Int) (l : List S33) (px py : Int) (r : ByteArray × Int) : Prop := Notes a0 a1 a2 l ∧ r = hitV l px py l.length ∨ ¬ Notes a0 a1 a2 l ∧ r = (⟨#[]⟩, 95)
theorem progHit (a0 : Int) (a1 : ByteArray) (a2 : Int) (l : List S33) (px py : Int) (hg : GE l) : EvP (fun k => note_Hit.f k a0 a1 a2 l px py) (HitR a0 a1 a2 l px py) := by
  refine EvP.pos hg.1 ?_
  refine EvP.bind (isNotes_ev a0 a1 a2 l hg) (fun v hv => ?_)
  refine EvP.ite (fun c => ?_) (fun c => EvP.ret (.inr ⟨fun h => c (hv.2 h), rfl⟩))
  exact (progHit_l l px py (hv.1 c).2.2 l.length (Nat.le_refl _)).mono (fun r hr => .inl ⟨hv.1 c, hr⟩)
theorem refHit (a0 : Int) (a1 : ByteArray) (a2 : Int) (l : List S33) (px py : Int) (ht : a1.size ≤ 140737488351232) (hg : GE l) (hc : cntEL l ≤ 6000) : EvP (fun k => incunableref25_Hit.f k a0 a1 a2 l px py) (HitR a0 a1 a2 l px py) := by
  have hlen := hg.1
  refine EvP.bind (refIsNotes_ev a0 a1 a2 l ht hg hc) (fun v hv => ?_)
  refine EvP.ite (fun c => ?_) (fun c => EvP.ret (.inr ⟨fun h => c (hv.2 h), rfl⟩))
  have hN := hv.1 c
  have key : ∀ n : Nat, n ≤ l.length → EvP (fun k => incunableref25_Hit.l0 k px py ((n : Int) - 1) a0 a1 a2 l) (· = hitV l px py n) := by
    intro n
    induction n with
    | zero =>
      intro _
      refine EvP.step (fun k => by rw [incunableref25_Hit.l0]) ?_
      exact EvP.neg (by omega) (EvP.ret rfl)
    | succ n ih =>
      intro hn
      rw [show (((n + 1 : Nat) : Int) - 1) = (n : Int) by omega]
      have hx := hN.2.2 _ (rd_mem33 l (n : Int) (by omega) (by omega))
      have hl := hx.2.1
      have hsh := hx.2.2.2.2.2.2.1
      refine EvP.step (fun k => by rw [incunableref25_Hit.l0]) (EvP.pos (by omega) (EvP.pos (by omega) (EvP.pos (by omega) (EvP.pos (by omega) ?_))))
      refine EvP.bind (refShape_ev _ _ _ _) (fun r hr => ?_)
      have er := hr.2 hsh
      unfold ShR at er
      subst er
      have hin := insideR (areaOf (rd_T33 l (n : Int))) px py
      refine EvP.bindv hin ?_
      have eB : hitB (rd_T33 l (n : Int)) px py = (insB (areaOf (rd_T33 l (n : Int))) px py && (!((rd_T33 (rd_T33 (rd_T33 l (n : Int)).f3 3).f3 0).f1.toList == ([111, 118, 97, 108] : List UInt8)) || decide (ellP (areaOf (rd_T33 l (n : Int))) px py))) := rfl
      have go : hitB (rd_T33 l (n : Int)) px py = false → EvP (fun k => incunableref25_Hit.l0 k px py (wrap64 ((n : Int) - 1)) a0 a1 a2 l) (· = hitV l px py (n + 1)) := by
        intro h
        rw [w64 (x := (n : Int) - 1) (by omega) (by omega)]
        unfold hitV
        rw [h, if_neg (by decide)]
        exact ih (by omega)
      have stop : hitB (rd_T33 l (n : Int)) px py = true → EvP (fun k => if 1 < (((rd_T33 l (n : Int)).f3).length : Int) then some ((rd_T33 ((rd_T33 l (n : Int)).f3) 1).f1, (0 : Int)) else none) (· = hitV l px py (n + 1)) := by
        intro h
        unfold hitV
        rw [h, if_pos rfl]
        exact EvP.pos (by omega) (EvP.ret rfl)
      refine EvP.ite (fun d1 => ?_) (fun d1 => go (by rw [eB]; simp [d1]))
      refine EvP.ite (fun d2 => ?_) (fun d2 => stop (by
        have d2' : ((rd_T33 (rd_T33 (rd_T33 l (n : Int)).f3 3).f3 0).f1.toList == ([111, 118, 97, 108] : List UInt8)) = false := Bool.eq_false_iff.mpr d2
        rw [eB, d1, d2']
        rfl))
      have d2' : ((rd_T33 (rd_T33 (rd_T33 l (n : Int)).f3 3).f3 0).f1.toList == ([111, 118, 97, 108] : List UInt8)) = true := d2
      refine EvP.ite (fun d3 => stop ?_) (fun d3 => go ?_)
      · have d3' : ellP (areaOf (rd_T33 l (n : Int))) px py := d3
        rw [eB, d1, d2', decide_eq_true d3']
        rfl
      · have d3' : ¬ ellP (areaOf (rd_T33 l (n : Int))) px py := d3
        rw [eB, d1, d2', decide_eq_false d3']
        rfl
  have h0 := key l.length (Nat.le_refl _)
  rw [w64 (x := (l.length : Int) - 1) (by omega) (by omega)]
  exact h0.mono (fun r hr => .inl ⟨hN, hr⟩)

theorem Sane25_is : EvP (fun k => incunablelaw25_Sane.f k) (· = true) :=
  ⟨true, Ev.of (fun k => incunablelaw25_Sane.mono k) (k := 40) (by decide +kernel), rfl⟩

theorem rd_map39 (l : List S33) (i : Int) (h0 : 0 ≤ i) (h1 : i < l.length) : rd_T39 (l.map areaOf) i = areaOf (rd_T33 l i) := by
  have hl : i.toNat < l.length := by omega
  simp [rd_T39, rd_T33, List.getD, List.getElem?_eq_getElem hl]
theorem NoteHits : incunablelaw25_NoteHits.Pure := by
  intro a0 a1 a2 l px py w0 ht w2 hg w3 w4
  have hg : GE l := hg
  refine EvP.rounds ?_
  refine EvP.bind (deep_ev a0 a1 a2 l ht hg) (fun b hb => ?_)
  refine EvP.ite (fun c => EvP.bind Sane25_is (fun r hr => EvP.ret hr)) (fun c => ?_)
  have hc : cntEL l ≤ 6000 := by have := hb (by simpa using c); omega
  have hlen := hg.1
  refine EvP.bind (progHit a0 a1 a2 l px py hg) (fun r hr => EvP.bind (refHit a0 a1 a2 l px py ht hg hc) (fun q hq => ?_))
  have e : r = q := by
    rcases hr with ⟨h1, rfl⟩ | ⟨h1, rfl⟩ <;> rcases hq with ⟨h2, rfl⟩ | ⟨h2, rfl⟩
    · rfl
    · exact absurd h1 h2
    · exact absurd h2 h1
    · rfl
  subst e
  refine EvP.pos rfl ?_
  have eb : (r.2 != r.2) = false := by simp
  rw [eb]
  refine EvP.step (fun k => by rw [incunablelaw25_NoteHits.j0]) (EvP.neg (by simp) ?_)
  refine EvP.ite (fun c0 => ?_) (fun c0 => EvP.bind Sane25_is (fun r hr => EvP.ret hr))
  rcases hr with ⟨hN, rfl⟩ | ⟨_, rfl⟩
  · obtain ⟨j, hj, hB, he⟩ := hitV_ok l px py l.length c0
    refine EvP.bind (areas_ev a0 a1 a2 l hg) (fun s hs => ?_)
    rcases hs with ⟨_, rfl⟩ | ⟨h2, _⟩
    · refine EvP.pos rfl ?_
      have el : (((l.map areaOf).length : Int) != (l.length : Int)) = false := by simp
      show EvP (fun k => incunablelaw25_NoteHits.j1 k px py _ (l.map areaOf) (((l.map areaOf).length : Int) != (l.length : Int)) a0 a1 a2 l) _
      rw [el]
      refine EvP.step (fun k => by rw [incunablelaw25_NoteHits.j1]) (EvP.neg (by simp) ?_)
      rw [he]
      have hi : insB (areaOf (rd_T33 l (j : Int))) px py = true := (Bool.and_eq_true_iff.1 hB).1
      refine EvP.up (L := fun k i (_ : Unit) => incunablelaw25_NoteHits.l0 k px py (txt (rd_T33 l (j : Int))) (l.map areaOf) i a0 a1 a2 l) (fun i _ => 0 ≤ i ∧ i ≤ j) l.length ?_ 0 () (by omega) ⟨by omega, by omega⟩
      intro i u h1 hin ih
      obtain ⟨i0, ij⟩ := h1
      have il : i < l.length := by omega
      have hx := hN.2.2 _ (rd_mem33 l i i0 il)
      have hl4 := hx.2.1
      refine EvP.step (fun k => by rw [incunablelaw25_NoteHits.l0]) (EvP.pos (by simpa using il) (EvP.pos i0 (EvP.pos il (EvP.pos (by omega) ?_))))
      have em := rd_map39 l i i0 il
      have next : i < j → EvP (fun k => incunablelaw25_NoteHits.l0 k px py (txt (rd_T33 l (j : Int))) (l.map areaOf) (wrap64 (i + 1)) a0 a1 a2 l) (· = true) := by
        intro h
        rw [w64 (x := i + 1) (by omega) (by omega)]
        exact ih () il ⟨by omega, by omega⟩
      refine EvP.ite (fun d1 => ?_) (fun d1 => next ?_)
      · rw [em]
        refine EvP.bindv (insideR _ px py) ?_
        refine EvP.ite (fun d2 => EvP.bind Sane25_is (fun r hr => EvP.ret hr)) (fun d2 => next ?_)
        by_cases h : i = (j : Int)
        · rw [h, hi] at d2
          exact absurd rfl d2
        · omega
      · by_cases h : i = (j : Int)
        · rw [h] at d1
          exact absurd rfl d1
        · omega
    · exact absurd hN h2
  · simp at c0

end Go.Proofs.YtacdchogjpeffaaDoor.Pure
