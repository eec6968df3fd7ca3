/- The expression's text, and that it is read back. -/
import Derived.Test.YtacdchogjpeffaaDoorPNoteFormatsx11
import Derived.Test.YtacdchogjpeffaaDoorQBase
namespace Go.Proofs.YtacdchogjpeffaaDoor.Pure
open Go.RowKit Go.Proofs.YtacdchogjpeffaaDoor.PNoteFormats Go.Proofs.YtacdchogjpeffaaDoorW.PrintWords Go.Proofs.YtacdchogjpeffaaDoorW.PrintLast Go.Proofs.YtacdchogjpeffaaDoorW.PrintMore Go.Proofs.YtacdchogjpeffaaDoorW.Pu
set_option linter.unusedVariables false
set_option linter.unusedSimpArgs false
/-- The numbers of a list are those of bytes. -/
def Byt (p : List Int) : Prop := ∀ x ∈ p, 0 ≤ x ∧ x ≤ 255
theorem val_byt {w h : Int} {p : List Int} (v : Val w h p) : Byt p := fun x hx => ⟨(v.2.2.2.2.2.2 x hx).1, by have := (v.2.2.2.2.2.2 x hx).2; omega⟩

theorem wf_byt {p : List Int} (h : ∀ y ∈ p, (Lit.int .u8 y).wf = true) : Byt p := fun x hx => by
  have h1 : (decide (IntKind.u8.min ≤ x) && decide (x ≤ IntKind.u8.max)) = true := h x hx
  obtain ⟨a, b⟩ := Bool.and_eq_true_iff.mp h1
  exact ⟨of_decide_eq_true a, of_decide_eq_true b⟩
theorem wf_i64 {x : Int} (h : (Lit.int .i64 x).wf = true) : -9223372036854775808 ≤ x ∧ x ≤ 9223372036854775807 := by
  have h1 : (decide (IntKind.i64.min ≤ x) && decide (x ≤ IntKind.i64.max)) = true := h
  obtain ⟨a, b⟩ := Bool.and_eq_true_iff.mp h1
  exact ⟨of_decide_eq_true a, of_decide_eq_true b⟩

mutual
def cntE : S33 → Nat
  | ⟨_, _, _, ks⟩ => 1 + cntEL ks
def cntEL : List S33 → Nat
  | [] => 0
  | x :: xs => cntE x + cntEL xs
end
mutual
def dpE : S33 → Nat
  | ⟨_, _, _, ks⟩ => 1 + dpEL ks
def dpEL : List S33 → Nat
  | [] => 0
  | x :: xs => max (dpE x) (dpEL xs)
end
def wordU (b : UInt8) : Bool := (decide (97 ≤ b.toNat) && decide (b.toNat ≤ 122)) || (decide (48 ≤ b.toNat) && decide (b.toNat ≤ 57)) || decide (b.toNat = 45)
def nameB (s : ByteArray) : Bool := decide (1 ≤ s.size) && decide (s.size ≤ 30) && decide (97 ≤ bt s 0) && decide (bt s 0 ≤ 122) && s.data.toList.all wordU
/-- An expression by itself, without its kids. -/
def oneB (k : Int) (t : ByteArray) (n : Int) (len : Nat) : Bool :=
  if k = 0 then decide (t.toList = ([] : List UInt8)) && decide (n = 0)
  else if k = 1 then nameB t && decide (n = 0) && decide (len = 0)
  else if k = 2 then decide (t.toList = ([] : List UInt8)) && decide (-999999 ≤ n) && decide (n ≤ 999999) && decide (len = 0)
  else if k = 3 then decide (t.size ≤ 200) && decide (n = 0) && decide (len = 0) else false
mutual
def rightE : S33 → Bool
  | ⟨k, t, n, ks⟩ => oneB k t n ks.length && rightEL ks
def rightEL : List S33 → Bool
  | [] => true
  | x :: xs => rightE x && rightEL xs
end
theorem cntE_kids (x : S33) : cntE x = 1 + cntEL x.f3 := by cases x; simp [cntE]
theorem dpE_kids (x : S33) : dpE x = 1 + dpEL x.f3 := by cases x; simp [dpE]
theorem rightE_kids (x : S33) : rightE x = (oneB x.f0 x.f1 x.f2 x.f3.length && rightEL x.f3) := by cases x; simp [rightE]
theorem drop_rd33 (l : List S33) (i : Int) (h0 : 0 ≤ i) (h1 : i < l.length) : l.drop i.toNat = rd_T33 l i :: l.drop (i + 1).toNat := by
  have hl : i.toNat < l.length := by omega
  rw [show (i + 1).toNat = i.toNat + 1 by omega, List.drop_eq_getElem_cons hl]
  congr 1
  simp [rd_T33, List.getD, List.getElem?_eq_getElem hl]
theorem drop_none33 (l : List S33) (i : Int) (h0 : 0 ≤ i) (h1 : ¬ i < l.length) : l.drop i.toNat = [] := List.drop_eq_nil_of_le (by omega)
theorem rd_mem33 (l : List S33) (i : Int) (h0 : 0 ≤ i) (h1 : i < l.length) : rd_T33 l i ∈ l := by
  have hl : i.toNat < l.length := by omega
  have e : rd_T33 l i = l[i.toNat] := by simp [rd_T33, List.getD, List.getElem?_eq_getElem hl]
  rw [e]
  exact List.getElem_mem hl
theorem rd_drop33 (l : List S33) (n : Nat) (j : Int) (h0 : 0 ≤ j) : rd_T33 (l.drop n) j = rd_T33 l (j + n) := by
  simp only [rd_T33, List.getD, List.getElem?_drop]
  congr 2
  omega
theorem cntEL_le : ∀ (l : List S33), l.length ≤ cntEL l
  | [] => by simp [cntEL]
  | x :: xs => by have := cntEL_le xs; have := cntE_kids x; simp [cntEL]; omega
theorem dpE_cnt : ∀ (n : Nat) (l : List S33), cntEL l < n → dpEL l ≤ cntEL l
  | 0, _, h => by omega
  | n + 1, [], _ => by simp [dpEL]
  | n + 1, x :: xs, h => by
    have e1 := cntE_kids x
    have e2 := dpE_kids x
    simp only [cntEL, dpEL] at h ⊢
    have h1 := dpE_cnt n x.f3 (by omega)
    have h2 := dpE_cnt n xs (by omega)
    omega
theorem cntEL_mem : ∀ (l : List S33) (x : S33), x ∈ l → cntE x ≤ cntEL l
  | y :: ys, x, h => by
    simp only [cntEL]
    rcases List.mem_cons.1 h with rfl | h
    · omega
    · have := cntEL_mem ys x h; omega
def GE (l : List S33) : Prop := l.length ≤ 9223372036854775807 ∧ l.length * 56 ≤ 140737488351232 ∧ ∀ y ∈ l, ∃ n, Good33 n y
theorem GE.kids {l : List S33} {x : S33} (h : GE l) (hx : x ∈ l) : (-9223372036854775808 ≤ x.f0 ∧ x.f0 ≤ 9223372036854775807) ∧ x.f1.size ≤ 140737488351232 ∧ (-9223372036854775808 ≤ x.f2 ∧ x.f2 ≤ 9223372036854775807) ∧ GE x.f3 := by
  obtain ⟨n, hn⟩ := h.2.2 x hx
  cases n with
  | zero => exact hn.elim
  | succ n =>
    obtain ⟨z, a, b, c, d, e⟩ := hn
    exact ⟨wf_i64 z, a, wf_i64 b, c, d, fun y hy => ⟨n, e y hy⟩⟩
theorem cntEL_drop (l : List S33) (i : Int) (h0 : 0 ≤ i) (h1 : i < l.length) : cntEL (l.drop i.toNat) = 1 + cntEL (rd_T33 l i).f3 + cntEL (l.drop (i + 1).toNat) := by
  rw [drop_rd33 l i h0 h1, cntEL, cntE_kids]
theorem dpEL_drop (l : List S33) (i : Int) (h0 : 0 ≤ i) (h1 : i < l.length) : dpEL (l.drop i.toNat) = max (1 + dpEL (rd_T33 l i).f3) (dpEL (l.drop (i + 1).toNat)) := by
  rw [drop_rd33 l i h0 h1, dpEL, dpE_kids]
theorem rightEL_drop (l : List S33) (i : Int) (h0 : 0 ≤ i) (h1 : i < l.length) : rightEL (l.drop i.toNat) = (rightE (rd_T33 l i) && rightEL (l.drop (i + 1).toNat)) := by
  rw [drop_rd33 l i h0 h1, rightEL]
theorem cntE_kid (l : List S33) (i : Int) (h0 : 0 ≤ i) (h1 : i < l.length) : 1 + cntEL (rd_T33 l i).f3 ≤ cntEL l := by
  have := cntEL_mem l _ (rd_mem33 l i h0 h1)
  have := cntE_kids (rd_T33 l i)
  omega

theorem dropW_nil {p : UInt8 → Bool} : ∀ (l : List UInt8), (l.dropWhile p = []) ↔ l.all p = true
  | [] => by simp
  | x :: xs => by
    by_cases h : p x = true
    · simp [List.dropWhile, h, dropW_nil xs]
    · simp [List.dropWhile, h]
theorem trimS_nil (l cs : List UInt8) : (Go.Lib.trimS l cs = []) ↔ l.all (cs.contains ·) = true := by
  unfold Go.Lib.trimS Go.Lib.trimRightS Go.Lib.trimLeftS
  rw [dropW_nil, List.all_reverse, ← List.all_reverse (l := l)]
  have key : ∀ m : List UInt8, (m.dropWhile (cs.contains ·)).all (cs.contains ·) = true → m.all (cs.contains ·) = true := by
    intro m
    induction m with
    | nil => intro _; rfl
    | cons x xs ih =>
      intro h
      by_cases hx : cs.contains x = true
      · rw [List.dropWhile_cons_of_pos hx] at h
        rw [List.all_cons, hx, Bool.true_and]
        exact ih h
      · rw [List.dropWhile_cons_of_neg hx, List.all_cons] at h
        exact absurd (Bool.and_eq_true_iff.1 h).1 hx
  constructor
  · exact key _
  · intro h
    rw [(dropW_nil (p := (cs.contains ·)) _).2 h]
    rfl
def letU : List UInt8 := [97, 98, 99, 100, 101, 102, 103, 104, 105, 106, 107, 108, 109, 110, 111, 112, 113, 114, 115, 116, 117, 118, 119, 120, 121, 122, 48, 49, 50, 51, 52, 53, 54, 55, 56, 57, 45]
theorem letU_word : ∀ b : UInt8, letU.contains b = wordU b := by
  have h : ∀ n : Fin 256, letU.contains (UInt8.ofNat n.val) = wordU (UInt8.ofNat n.val) := by decide +kernel
  intro b
  have := h ⟨b.toNat, b.toNat_lt⟩
  simpa using this
theorem toList_nil (s : ByteArray) : s.toList = [] ↔ s.size = 0 := by
  rw [ByteArray.toList_eq]
  constructor
  · intro h
    have := congrArg List.length h
    simpa using this
  · intro h
    exact List.eq_nil_of_length_eq_zero (by simpa using h)
theorem nameP (s : ByteArray) : note_isName.f s = some (nameB s) := by
  unfold note_isName.f nameB
  by_cases h0 : s.toList = ([] : List UInt8)
  · rw [if_pos h0]
    have := (toList_nil s).1 h0
    simp [this]
  · rw [if_neg h0]
    have hs : 1 ≤ s.size := by
      have hz : ¬ s.size = 0 := fun h => h0 ((toList_nil s).2 h)
      omega
    by_cases h1 : (s.size : Int) ≤ 30
    · have h1' : s.size ≤ 30 := by omega
      rw [if_pos h1, if_pos (by omega)]
      by_cases h2 : bt s 0 ≥ 97
      · have h2' : 97 ≤ bt s 0 := h2
        rw [if_pos h2]
        by_cases h3 : bt s 0 ≤ 122
        · rw [if_pos h3]
          unfold strings_Trim.f
          rw [if_pos (by omega), if_pos (by decide), if_pos (by decide)]
          simp only [Option.bind_some, hs, h1', h2', h3, decide_true, Bool.true_and]
          congr 1
          have e := trimS_nil s.data.toList letU
          have e2 : s.data.toList.all (letU.contains ·) = s.data.toList.all wordU := by
            congr 1
            funext b
            exact letU_word b
          rw [e2] at e
          rw [Bool.eq_iff_iff, ← e]
          rw [ByteArray.toList_eq]
          simp [letU]
        · rw [if_neg h3]
          simp [h3]
      · rw [if_neg h2]
        have h2' : ¬ 97 ≤ bt s 0 := h2
        simp [h2']
    · rw [if_neg h1]
      have h1' : ¬ s.size ≤ 30 := by omega
      simp [h1']
theorem oneP (k : Int) (t : ByteArray) (n : Int) (l : List S33) : note_isExpr.f k t n l = some (oneB k t n l.length) := by
  unfold note_isExpr.f oneB
  have e : ((l.length : Int) == 0) = decide (l.length = 0) := by
    rw [Bool.eq_iff_iff]; simp
  rw [nameP]
  by_cases c0 : k = 0
  · rw [if_pos c0, if_pos c0]
    by_cases c1 : t.toList = ([] : List UInt8)
    · rw [if_pos c1]
      simp only [c1, decide_true, Bool.true_and]
      exact congrArg some (Bool.eq_iff_iff.2 (by simp))
    · rw [if_neg c1]; simp [c1]
  · rw [if_neg c0, if_neg c0]
    by_cases c1 : k = 1
    · rw [if_pos c1, if_pos c1, Option.bind_some]
      cases nameB t
      · simp
      · rw [if_pos rfl, e]
        by_cases c2 : n = 0
        · rw [if_pos c2]; simp [c2]
        · rw [if_neg c2]; simp [c2]
    · rw [if_neg c1, if_neg c1]
      by_cases c2 : k = 2
      · rw [if_pos c2, if_pos c2, e]
        by_cases d1 : t.toList = ([] : List UInt8)
        · rw [if_pos d1]
          by_cases d2 : n ≥ -999999
          · have d2' : -999999 ≤ n := d2
            rw [if_pos d2]
            by_cases d3 : n ≤ 999999
            · rw [if_pos d3]; simp [d1, d2', d3]
            · rw [if_neg d3]; simp [d3]
          · have d2' : ¬ -999999 ≤ n := d2
            rw [if_neg d2]; simp [d2']
        · rw [if_neg d1]; simp [d1]
      · rw [if_neg c2, if_neg c2]
        by_cases c3 : k = 3
        · rw [if_pos c3, if_pos c3, e]
          by_cases d1 : (t.size : Int) ≤ 200
          · have d1' : t.size ≤ 200 := by omega
            rw [if_pos d1]
            by_cases d2 : n = 0
            · rw [if_pos d2]; simp [d1', d2]
            · rw [if_neg d2]; simp [d2]
          · have d1' : ¬ t.size ≤ 200 := by omega
            rw [if_neg d1]; simp [d1']
        · rw [if_neg c3, if_neg c3]

theorem right_ev : ∀ (n : Nat) (a0 : Int) (a1 : ByteArray) (a2 : Int) (l : List S33), cntEL l < n → GE l → ∀ (m d : Int), 0 ≤ m → m ≤ 400 → 1 ≤ d → d ≤ 21 →
    EvP (fun k => note_looks_right.f k m a0 a1 a2 l d) (fun r => (0 ≤ r.2 ∧ r.2 ≤ 401) ∧ (r.1 = true ↔ (oneB a0 a1 a2 l.length = true ∧ rightEL l = true ∧ m + 1 + cntEL l ≤ 400 ∧ d + dpEL l ≤ 20)) ∧ (r.1 = true → r.2 = m + 1 + cntEL l))
  | 0, _, _, _, _, h, _, _, _, _, _, _, _ => by omega
  | n + 1, a0, a1, a2, l, hn, hg, m, d, hm0, hm1, hd0, hd1 => by
    refine EvP.step (fun k => by rw [note_looks_right.f]) ?_
    rw [w64 (x := m + 1) (by omega) (by omega)]
    refine EvP.ite (fun c => ?_) (fun c => ?_)
    · refine EvP.step (fun k => by rw [note_looks_right.j0]) (EvP.pos rfl (EvP.ret ⟨⟨by omega, by omega⟩, ⟨fun h => (by cases h), fun h => by omega⟩, fun h => (by cases h)⟩))
    refine EvP.ite (fun c' => ?_) (fun c' => ?_)
    · refine EvP.step (fun k => by rw [note_looks_right.j0]) (EvP.pos rfl (EvP.ret ⟨⟨by omega, by omega⟩, ⟨fun h => (by cases h), fun h => by omega⟩, fun h => (by cases h)⟩))
    refine EvP.bindv (oneP a0 a1 a2 l) ?_
    refine EvP.step (fun k => by rw [note_looks_right.j0]) ?_
    refine EvP.ite (fun c1 => EvP.ret ⟨⟨by omega, by omega⟩, ⟨fun h => (by cases h), fun h => by simp [h.1] at c1⟩, fun h => (by cases h)⟩) (fun c1 => ?_)
    have h1 : oneB a0 a1 a2 l.length = true := by simpa using c1
    refine EvP.up (L := fun k i (s : Int) => note_looks_right.l0 k d l (l.length : Int) i s) (fun i s => 0 ≤ i ∧ 0 ≤ s ∧ s ≤ 400 ∧ rightEL l = rightEL (l.drop i.toNat) ∧ m + 1 + cntEL l = s + cntEL (l.drop i.toNat) ∧ (d + dpEL l ≤ 20 ↔ d + dpEL (l.drop i.toNat) ≤ 20)) l.length ?_ 0 (m + 1) (by omega) ⟨by omega, by omega, by omega, by simp, by simp, by simp⟩
    intro i s hi hin ih
    obtain ⟨i0, hs0, hs1, e1, e2, e3⟩ := hi
    refine EvP.step (fun k => by rw [note_looks_right.l0]) ?_
    refine EvP.ite (fun c2 => ?_) (fun c2 => ?_)
    · refine EvP.pos i0 (EvP.pos c2 ?_)
      have hm := rd_mem33 l i i0 c2
      obtain ⟨_, k1, _, k3⟩ := hg.kids hm
      have hlen := hg.1
      have hk := cntE_kid l i i0 c2
      have f1 := rightEL_drop l i i0 c2
      have f2 := cntEL_drop l i i0 c2
      have f3 := dpEL_drop l i i0 c2
      rw [f1, rightE_kids] at e1
      rw [f2] at e2
      rw [f3] at e3
      rw [w64 (x := d + 1) (by omega) (by omega)]
      refine EvP.bind (right_ev n _ _ _ (rd_T33 l i).f3 (by omega) k3 s (d + 1) (by omega) (by omega) (by omega) (by omega)) (fun r hr => ?_)
      obtain ⟨⟨r0, r1⟩, r2, r3⟩ := hr
      refine EvP.ite (fun c3 => ?_) (fun c3 => ?_)
      · rw [w64 (x := i + 1) (by omega) (by omega)]
        obtain ⟨g0, g1, g2, g3⟩ := r2.1 c3
        have g4 := r3 c3
        refine ih r.2 c2 ⟨by omega, r0, by omega, ?_, by omega, ?_⟩
        · rw [e1, g0, g1]
          simp
        · rw [e3]
          omega
      · refine EvP.ret ⟨⟨r0, r1⟩, ⟨fun h => (by cases h), fun h => ?_⟩, fun h => (by cases h)⟩
        obtain ⟨h1, h2, h3, h4⟩ := h
        have h5 := e1.symm.trans h2
        simp only [Bool.and_eq_true] at h5
        have h6 := e3.1 h4
        exact absurd (r2.2 ⟨h5.1.1, h5.1.2, by omega, by omega⟩) c3
    · have e : l.drop i.toNat = [] := drop_none33 l i i0 c2
      rw [e] at e1 e2 e3
      simp only [rightEL, cntEL, dpEL] at e1 e2 e3
      refine EvP.ret ⟨⟨hs0, by omega⟩, ⟨fun _ => ⟨h1, e1, by omega, e3.2 (by omega)⟩, fun _ => rfl⟩, fun _ => by show s = _; omega⟩
def validB (a0 : Int) (a1 : ByteArray) (a2 : Int) (l : List S33) : Bool := oneB a0 a1 a2 l.length && rightEL l && decide (1 + cntEL l ≤ 400) && decide (1 + dpEL l ≤ 20)
theorem validE_ev (a0 : Int) (a1 : ByteArray) (a2 : Int) (l : List S33) (hg : GE l) : EvP (fun k => note_Valid.f k a0 a1 a2 l) (· = validB a0 a1 a2 l) := by
  refine EvP.bind (right_ev (cntEL l + 1) a0 a1 a2 l (by omega) hg 0 1 (by omega) (by omega) (by omega) (by omega)) (fun r hr => EvP.ret ?_)
  obtain ⟨_, h, _⟩ := hr
  show r.1 = _
  rw [Bool.eq_iff_iff, h]
  unfold validB
  simp only [Bool.and_eq_true, decide_eq_true_eq]
  constructor
  · rintro ⟨a, b, c, d⟩; exact ⟨⟨⟨a, b⟩, by omega⟩, by omega⟩
  · rintro ⟨⟨⟨a, b⟩, c⟩, d⟩; exact ⟨a, b, by omega, by omega⟩

theorem isLetterR (c : Int) : incunableref25_isLetter.f c = some (decide (97 ≤ c) && decide (c ≤ 122)) := by
  unfold incunableref25_isLetter.f
  by_cases h : c ≥ 97
  · have h' : 97 ≤ c := h
    rw [if_pos h]; simp [h']
  · have h' : ¬ 97 ≤ c := h
    rw [if_neg h]; simp [h']
def wordI (c : Int) : Bool := (decide (97 ≤ c) && decide (c ≤ 122)) || (decide (48 ≤ c) && decide (c ≤ 57)) || decide (c = 45)
theorem isWordR (c : Int) : incunableref25_isWord.f c = some (wordI c) := by
  unfold incunableref25_isWord.f wordI
  have e : (c == 45) = decide (c = 45) := by rw [Bool.eq_iff_iff]; simp
  rw [isLetterR, Option.bind_some]
  cases h : (decide (97 ≤ c) && decide (c ≤ 122))
  · rw [if_neg (by simp)]
    by_cases h1 : c ≥ 48
    · have h1' : 48 ≤ c := h1
      rw [if_pos h1]
      by_cases h2 : c ≤ 57
      · rw [if_pos h2]; simp [h1', h2]
      · rw [if_neg h2, e]; simp [h2]
    · have h1' : ¬ 48 ≤ c := h1
      rw [if_neg h1, e]; simp [h1']
  · rw [if_pos rfl]; simp
theorem bt_data (s : ByteArray) (i : Int) (h0 : 0 ≤ i) (h1 : i < s.size) : s.data.toList.drop i.toNat = UInt8.ofNat (bt s i).toNat :: s.data.toList.drop (i + 1).toNat ∧ wordU (UInt8.ofNat (bt s i).toNat) = wordI (bt s i) := by
  have hl : i.toNat < s.data.toList.length := by simp; omega
  have hb : bt s i = ((s.data.toList[i.toNat]'hl).toNat : Int) := by
    have hs : i.toNat < s.size := by omega
    unfold bt
    rw [dif_pos hs]
    rfl
  rw [hb]
  have e : UInt8.ofNat ((s.data.toList[i.toNat]'hl).toNat : Int).toNat = s.data.toList[i.toNat]'hl := by simp
  rw [e]
  constructor
  · rw [show (i + 1).toNat = i.toNat + 1 by omega, List.drop_eq_getElem_cons hl]
  · unfold wordU wordI
    rw [Bool.eq_iff_iff]
    simp only [Bool.or_eq_true, Bool.and_eq_true, decide_eq_true_eq]
    omega
theorem nameR (s : ByteArray) (hs : s.size ≤ 140737488351232) : EvP (fun k => incunableref25_isName.f k s) (· = nameB s) := by
  unfold incunableref25_isName.f
  refine EvP.ite (fun c => ?_) (fun c => ?_)
  · refine EvP.step (fun k => by rw [incunableref25_isName.j0]) (EvP.pos rfl (EvP.ret ?_))
    have : ¬ 1 ≤ s.size := by omega
    simp [nameB, this]
  refine EvP.ite (fun c1 => ?_) (fun c1 => ?_)
  · refine EvP.step (fun k => by rw [incunableref25_isName.j0]) (EvP.pos rfl (EvP.ret ?_))
    have : ¬ s.size ≤ 30 := by omega
    simp [nameB, this]
  have d1 : 1 ≤ s.size := by omega
  have d2 : s.size ≤ 30 := by omega
  refine EvP.pos (by omega) (EvP.bindv (isLetterR _) ?_)
  refine EvP.step (fun k => by rw [incunableref25_isName.j0]) ?_
  refine EvP.ite (fun c2 => EvP.ret ?_) (fun c2 => ?_)
  · unfold nameB
    have c3 : (decide (97 ≤ bt s 0) && decide (bt s 0 ≤ 122)) = false := by
      cases h : (decide (97 ≤ bt s 0) && decide (bt s 0 ≤ 122)) with
      | false => rfl
      | true => rw [h] at c2; cases c2
    rw [Bool.and_assoc (decide (1 ≤ s.size) && decide (s.size ≤ 30)), c3]
    simp
  have c3 : (decide (97 ≤ bt s 0) && decide (bt s 0 ≤ 122)) = true := by
    cases h : (decide (97 ≤ bt s 0) && decide (bt s 0 ≤ 122)) with
    | true => rfl
    | false => rw [h] at c2; exact absurd rfl c2
  have e : nameB s = s.data.toList.all wordU := by
    unfold nameB
    rw [Bool.and_assoc (decide (1 ≤ s.size) && decide (s.size ≤ 30)), c3]
    simp [d1, d2]
  rw [e]
  refine EvP.up (L := fun k i (_ : Unit) => incunableref25_isName.l0 k s i) (fun i _ => 0 ≤ i ∧ s.data.toList.all wordU = (s.data.toList.drop i.toNat).all wordU) s.size ?_ 0 () (by omega) ⟨by omega, by simp⟩
  intro i u hi hin ih
  obtain ⟨i0, e1⟩ := hi
  refine EvP.step (fun k => by rw [incunableref25_isName.l0]) ?_
  refine EvP.ite (fun c4 => ?_) (fun c4 => ?_)
  · obtain ⟨h1, h2⟩ := bt_data s i i0 c4
    rw [h1, List.all_cons, h2] at e1
    refine EvP.pos i0 (EvP.bindv (isWordR _) ?_)
    refine EvP.ite (fun c5 => ?_) (fun c5 => EvP.ret ?_)
    · rw [w64 (x := i + 1) (by omega) (by omega)]
      refine ih () c4 ⟨by omega, ?_⟩
      rw [e1, c5, Bool.true_and]
    · rw [e1]
      simp [c5]
  · refine EvP.ret ?_
    have hz : s.data.toList.drop i.toNat = [] := List.drop_eq_nil_of_le (by simp; omega)
    rw [e1, hz]
    rfl
theorem rrj (n : Nat) (a0 : Int) (a1 : ByteArray) (a2 : Int) (l : List S33) (ht : a1.size ≤ 140737488351232) (hg : GE l)
    (kids : ∀ i, 0 ≤ i → i < (l.length : Int) → EvP (fun k => incunableref25_right.f k (rd_T33 l i).f0 (rd_T33 l i).f1 (rd_T33 l i).f2 (rd_T33 l i).f3) (· = rightE (rd_T33 l i)))
    (b : Bool) (hb : b = false → (a0 ≠ 0 → l.length = 0) ∧ (a0 ≠ 2 → a2 = 0) ∧ (a0 = 0 ∨ a0 = 2 → a1.toList = ([] : List UInt8))) (hb2 : b = true → oneB a0 a1 a2 l.length = false) :
    EvP (fun k => incunableref25_right.j0 k b a0 a1 a2 l) (· = (oneB a0 a1 a2 l.length && rightEL l)) := by
  refine EvP.step (fun k => by rw [incunableref25_right.j0]) ?_
  refine EvP.ite (fun c => EvP.ret ?_) (fun c => ?_)
  · rw [hb2 c]; rfl
  obtain ⟨h1, h2, h3⟩ := hb (by simpa using c)
  have hnil : a0 ≠ 0 → rightEL l = true := fun h => by
    have := List.eq_nil_of_length_eq_zero (h1 h)
    rw [this]; rfl
  refine EvP.ite (fun c0 => ?_) (fun c0 => ?_)
  · have e1 : oneB a0 a1 a2 l.length = true := by
      unfold oneB
      rw [if_pos c0]
      simp [h3 (.inl c0), h2 (by omega)]
    rw [e1, Bool.true_and]
    refine EvP.up (L := fun k i (_ : Unit) => incunableref25_right.l0 k i a0 a1 a2 l) (fun i _ => 0 ≤ i ∧ rightEL l = rightEL (l.drop i.toNat)) l.length ?_ 0 () (by omega) ⟨by omega, by simp⟩
    intro i u hi hin ih
    obtain ⟨i0, e1⟩ := hi
    have hlen := hg.1
    refine EvP.step (fun k => by rw [incunableref25_right.l0]) ?_
    refine EvP.ite (fun c4 => ?_) (fun c4 => ?_)
    · rw [rightEL_drop l i i0 c4] at e1
      refine EvP.pos i0 (EvP.bind (kids i i0 c4) (fun r hr => ?_))
      refine EvP.ite (fun c5 => ?_) (fun c5 => EvP.ret ?_)
      · rw [w64 (x := i + 1) (by omega) (by omega)]
        refine ih () c4 ⟨by omega, ?_⟩
        rw [e1, ← hr, c5, Bool.true_and]
      · rw [e1, ← hr]
        simp [c5]
    · refine EvP.ret ?_
      rw [e1, drop_none33 l i i0 c4]
      rfl
  have hl0 := h1 c0
  rw [hnil c0, Bool.and_true]
  refine EvP.ite (fun c1 => ?_) (fun c1 => ?_)
  · refine EvP.bind (nameR a1 ht) (fun r hr => EvP.ret ?_)
    rw [hr]
    unfold oneB
    rw [if_neg c0, if_pos c1]
    simp [h2 (by omega), hl0]
  refine EvP.ite (fun c2 => ?_) (fun c2 => ?_)
  · have e : oneB a0 a1 a2 l.length = (decide (-999999 ≤ a2) && decide (a2 ≤ 999999)) := by
      unfold oneB
      rw [if_neg c0, if_neg c1, if_pos c2]
      simp [h3 (.inr c2), hl0]
    rw [e]
    refine EvP.ite (fun c3 => EvP.ret ?_) (fun c3 => EvP.ret ?_)
    · have c3' : -999999 ≤ a2 := c3
      simp [c3']
    · have c3' : ¬ -999999 ≤ a2 := c3
      simp [c3']
  refine EvP.ite (fun c3 => EvP.ret ?_) (fun c3 => EvP.ret ?_)
  · unfold oneB
    rw [if_neg c0, if_neg c1, if_neg c2, if_pos c3]
    simp [h2 c2, hl0]
    omega
  · unfold oneB
    rw [if_neg c0, if_neg c1, if_neg c2, if_neg c3]
theorem refRight_ev : ∀ (n : Nat) (a0 : Int) (a1 : ByteArray) (a2 : Int) (l : List S33), cntEL l < n → a1.size ≤ 140737488351232 → GE l →
    EvP (fun k => incunableref25_right.f k a0 a1 a2 l) (· = (oneB a0 a1 a2 l.length && rightEL l))
  | 0, _, _, _, _, h, _, _ => by omega
  | n + 1, a0, a1, a2, l, hn, ht, hg => by
    refine EvP.step (fun k => by rw [incunableref25_right.f]) ?_
    have kids : ∀ i, 0 ≤ i → i < (l.length : Int) → EvP (fun k => incunableref25_right.f k (rd_T33 l i).f0 (rd_T33 l i).f1 (rd_T33 l i).f2 (rd_T33 l i).f3) (· = rightE (rd_T33 l i)) := by
      intro i h0 h1
      obtain ⟨_, k1, _, k3⟩ := hg.kids (rd_mem33 l i h0 h1)
      have hk := cntE_kid l i h0 h1
      rw [rightE_kids]
      exact refRight_ev n _ _ _ _ (by omega) k1 k3
    have J := rrj n a0 a1 a2 l ht hg kids
    have tx : ∀ b : Bool, b = (a1.toList != ([] : List UInt8)) → (b = false ↔ a1.toList = ([] : List UInt8)) := by
      intro b hb
      rw [hb]
      simp
    refine EvP.ite (fun c0 => ?_) (fun c0 => ?_)
    · refine EvP.neg (by omega) ?_
      refine EvP.ite (fun c1 => ?_) (fun c1 => ?_)
      · refine J _ (fun h => ⟨fun h => absurd c0 h, fun _ => c1, fun _ => (tx _ rfl).1 h⟩) (fun h => ?_)
        have : ¬ a1.toList = ([] : List UInt8) := fun hh => by rw [(tx _ rfl).2 hh] at h; cases h
        unfold oneB
        rw [if_pos c0]
        simp [this]
      · refine J true (fun h => by cases h) (fun _ => ?_)
        unfold oneB
        rw [if_pos c0]
        simp [c1]
    refine EvP.ite (fun c1 => ?_) (fun c1 => ?_)
    · refine J true (fun h => by cases h) (fun _ => ?_)
      have hl : ¬ l.length = 0 := by omega
      unfold oneB
      rw [if_neg c0]
      simp only [hl, decide_false, Bool.and_false]
      split
      · rfl
      · split
        · rfl
        · split <;> rfl
    have hl : l.length = 0 := by omega
    refine EvP.ite (fun c2 => ?_) (fun c2 => ?_)
    · refine J _ (fun h => ⟨fun _ => hl, fun h => absurd c2 h, fun _ => (tx _ rfl).1 h⟩) (fun h => ?_)
      have : ¬ a1.toList = ([] : List UInt8) := fun hh => by rw [(tx _ rfl).2 hh] at h; cases h
      unfold oneB
      rw [if_neg c0, if_neg (by omega), if_pos c2]
      simp [this]
    · refine EvP.ite (fun c3 => ?_) (fun c3 => ?_)
      · exact J false (fun _ => ⟨fun _ => hl, fun _ => c3, fun h => by omega⟩) (fun h => by cases h)
      · refine J true (fun h => by cases h) (fun _ => ?_)
        unfold oneB
        rw [if_neg c0, if_neg c2]
        simp [c3]
theorem measure_ev : ∀ (n : Nat) (a0 : Int) (a1 : ByteArray) (a2 : Int) (l : List S33), cntEL l < n → GE l → cntEL l ≤ 6000 →
    EvP (fun k => incunableref25_measure.f k a0 a1 a2 l) (fun r => r.1 = 1 + cntEL l ∧ r.2 = 1 + dpEL l)
  | 0, _, _, _, _, h, _, _ => by omega
  | n + 1, a0, a1, a2, l, hn, hg, hc => by
    refine EvP.step (fun k => by rw [incunableref25_measure.f]) ?_
    have hmx : ∀ x y : Int, mx x y = max x y := fun x y => by unfold mx; split <;> omega
    have hdc := dpE_cnt (cntEL l + 1) l (by omega)
    refine EvP.up (L := fun k i (s : Int × Int) => incunableref25_measure.l0 k s.1 s.2 i a0 a1 a2 l) (fun i s => 0 ≤ i ∧ 0 ≤ s.1 ∧ 0 ≤ s.2 ∧ s.1 + cntEL (l.drop i.toNat) = 1 + cntEL l ∧ max s.2 (dpEL (l.drop i.toNat) : Int) = dpEL l) l.length ?_ 0 (1, 0) (by omega) ⟨by omega, by simp, by simp, by simp, by simp⟩
    intro i s hi hin ih
    obtain ⟨i0, hs0, hs1, e2, e3⟩ := hi
    refine EvP.step (fun k => by rw [incunableref25_measure.l0]) ?_
    refine EvP.ite (fun c1 => ?_) (fun c1 => ?_)
    · refine EvP.pos i0 ?_
      obtain ⟨_, k1, _, k3⟩ := hg.kids (rd_mem33 l i i0 c1)
      have hlen := hg.1
      have hk := cntE_kid l i i0 c1
      rw [cntEL_drop l i i0 c1] at e2
      rw [dpEL_drop l i i0 c1] at e3
      refine EvP.bind (measure_ev n _ _ _ (rd_T33 l i).f3 (by omega) k3 (by omega)) (fun r hr => ?_)
      obtain ⟨r1, r2⟩ := hr
      rw [w64 (x := i + 1) (by omega) (by omega), w64 (x := s.1 + r.1) (by omega) (by omega), hmx]
      exact ih (s.1 + r.1, max s.2 r.2) c1 ⟨by omega, by show 0 ≤ s.1 + r.1; omega, by show 0 ≤ max _ _; omega, by show s.1 + r.1 + _ = _; omega, by show max (max _ _) _ = _; omega⟩
    · rw [drop_none33 l i i0 c1] at e2 e3
      simp only [cntEL, dpEL] at e2 e3
      refine EvP.ret ⟨by show s.1 = _; omega, ?_⟩
      show wrap64 (s.2 + 1) = _
      rw [w64 (x := s.2 + 1) (by omega) (by omega)]
      omega
theorem refValidE_ev (a0 : Int) (a1 : ByteArray) (a2 : Int) (l : List S33) (ht : a1.size ≤ 140737488351232) (hg : GE l) (hc : cntEL l ≤ 6000) : EvP (fun k => incunableref25_Valid.f k a0 a1 a2 l) (· = validB a0 a1 a2 l) := by
  refine EvP.bind (refRight_ev (cntEL l + 1) a0 a1 a2 l (by omega) ht hg) (fun r hr => ?_)
  unfold validB
  rw [← hr]
  refine EvP.ite (fun c => ?_) (fun c => EvP.ret (by simp [c]))
  refine EvP.bind (Q := (· = (decide (1 + cntEL l ≤ 400) && decide (1 + dpEL l ≤ 20)))) ?_ (fun b hb => EvP.ret (by rw [hb, c]; simp))
  refine EvP.bind (measure_ev (cntEL l + 1) a0 a1 a2 l (by omega) hg hc) (fun q hq => ?_)
  obtain ⟨q1, q2⟩ := hq
  refine EvP.ite (fun d => EvP.ret ?_) (fun d => EvP.ret ?_)
  · have d1 : 1 + cntEL l ≤ 400 := by omega
    have d2 : decide (q.2 ≤ 20) = decide (1 + dpEL l ≤ 20) := by
      rw [Bool.eq_iff_iff]; simp only [decide_eq_true_eq]; omega
    rw [d2]; simp [d1]
  · have d1 : ¬ 1 + cntEL l ≤ 400 := by omega
    simp [d1]

theorem sizeOf_ev : ∀ (n : Nat) (a0 : Int) (a1 : ByteArray) (a2 : Int) (l : List S33), cntEL l < n → a1.size ≤ 140737488351232 → GE l → ∀ (d left : Int), 0 ≤ d → d ≤ 60 → 0 ≤ left → left ≤ 6000 →
    EvP (fun k => incunablelaw25_sizeOf.f k a0 a1 a2 l d left) (fun r => -140737488360000 ≤ r ∧ r ≤ 6000 ∧ (0 ≤ r → (1 + cntEL l : Int) + r ≤ left))
  | 0, _, _, _, _, h, _, _, _, _, _, _, _, _ => by omega
  | n + 1, a0, a1, a2, l, hn, ht, hg, d, left, hd0, hd1, hl0, hl1 => by
    refine EvP.step (fun k => by rw [incunablelaw25_sizeOf.f]) ?_
    refine EvP.ite (fun c => EvP.ret ⟨by omega, by omega, by omega⟩) (fun c => ?_)
    rw [w64 (x := left - 1) (by omega) (by omega), w64 (x := left - 1 - _) (by omega) (by omega)]
    refine EvP.up (L := fun k i (s : Int) => incunablelaw25_sizeOf.l0 k d s i a0 a1 a2 l) (fun i s => 0 ≤ i ∧ -140737488360000 ≤ s ∧ s ≤ 6000 ∧ (0 ≤ s → (1 + cntEL l : Int) + s ≤ left + cntEL (l.drop i.toNat))) l.length ?_ 0 _ (by omega) ⟨by omega, by omega, by omega, fun _ => by simp; omega⟩
    intro i s hi hin ih
    obtain ⟨i0, hs0, hs1, hs⟩ := hi
    refine EvP.step (fun k => by rw [incunablelaw25_sizeOf.l0]) ?_
    refine EvP.ite (fun c1 => ?_) (fun c1 => ?_)
    · refine EvP.ite (fun c2 => ?_) (fun c2 => EvP.ret ⟨hs0, hs1, fun h => by omega⟩)
      refine EvP.pos i0 ?_
      have hm := rd_mem33 l i i0 c1
      obtain ⟨_, k1, _, k3⟩ := hg.kids hm
      have hlen := hg.1
      have e2 := cntEL_drop l i i0 c1
      have hk := cntE_kid l i i0 c1
      rw [w64 (x := d - 1) (by omega) (by omega)]
      refine EvP.bind (sizeOf_ev n _ _ _ (rd_T33 l i).f3 (by omega) k1 k3 (d - 1) s (by omega) (by omega) (by omega) (by omega)) (fun r hr => ?_)
      obtain ⟨r0, r1, r2⟩ := hr
      rw [w64 (x := i + 1) (by omega) (by omega)]
      refine ih r c1 ⟨by omega, r0, r1, fun h => ?_⟩
      have := r2 h
      have := hs c2
      omega
    · refine EvP.ret ⟨hs0, hs1, fun h => ?_⟩
      have := hs h
      have e : l.drop i.toNat = [] := drop_none33 l i i0 c1
      rw [e] at this
      simp [cntEL] at this
      omega
theorem deep_ev (a0 : Int) (a1 : ByteArray) (a2 : Int) (l : List S33) (ht : a1.size ≤ 140737488351232) (hg : GE l) : EvP (fun k => incunablelaw25_Deep.f k a0 a1 a2 l) (fun b => b = false → 1 + cntEL l ≤ 6000) := by
  refine EvP.bind (Q := fun r => 0 ≤ r → (1 + cntEL l : Int) + r ≤ 6000) ?_ (fun r hr => EvP.ret (fun h => ?_))
  · refine EvP.bind (sizeOf_ev (cntEL l + 1) a0 a1 a2 l (by omega) ht hg 60 6000 (by omega) (by omega) (by omega) (by omega)) (fun r hr => EvP.ret hr.2.2)
  · have h3 : ¬ r < 0 := by simpa using h
    have := hr (by omega)
    omega

def escU : List UInt8 → List UInt8
  | [] => []
  | c :: cs => (if c.toNat = 34 then [92, c] else if c.toNat = 92 then [92, c] else [c]) ++ escU cs
mutual
def txE : S33 → List UInt8
  | ⟨k, t, n, ks⟩ => if k = 0 then 40 :: (txR false ks ++ [41]) else if k = 1 then t.data.toList else if k = 2 then itz n else 34 :: (escU t.data.toList ++ [34])
def txR (b : Bool) : List S33 → List UInt8
  | [] => []
  | x :: xs => (if b then [32] else []) ++ (txE x ++ txR true xs)
end
theorem txE_eta (x : S33) : txE x = txE ⟨x.f0, x.f1, x.f2, x.f3⟩ := by cases x; rfl
theorem escU_len : ∀ l : List UInt8, (escU l).length ≤ 2 * l.length
  | [] => by simp [escU]
  | c :: cs => by
    have := escU_len cs
    simp only [escU, List.length_append, List.length_cons]
    split
    · simp; omega
    · split <;> simp <;> omega
theorem dd_len : ∀ (k u : Nat), u < 10 ^ (k + 1) → (Go.Lib.decDigits u).length ≤ k + 1
  | 0, u, h => by rw [Go.Lib.decDigits, dif_pos (by omega)]; simp
  | k + 1, u, h => by
    rw [Go.Lib.decDigits]
    by_cases c : u < 10
    · rw [dif_pos c]; simp
    · rw [dif_neg c]
      have h' : u < 10 ^ (k + 1) * 10 := by rw [← Nat.pow_succ]; exact h
      have := dd_len k (u / 10) (by omega)
      simp; omega
theorem itz_len (n : Int) (h0 : -999999 ≤ n) (h1 : n ≤ 999999) : (itz n).length ≤ 21 := by
  rw [itz_eq, Go.Lib.itoa]
  by_cases c : n < 0
  · rw [if_pos c]
    have := dd_len 5 n.natAbs (by omega)
    simp; omega
  · rw [if_neg c]
    have := dd_len 5 n.toNat (by omega)
    omega
theorem oneB_zero {t : ByteArray} {n : Int} {m : Nat} (h : oneB 0 t n m = true) : t = ⟨#[]⟩ ∧ n = 0 := by
  unfold oneB at h
  rw [if_pos rfl] at h
  simp only [Bool.and_eq_true, decide_eq_true_eq] at h
  refine ⟨?_, h.2⟩
  have h1 := (toList_nil t).1 h.1
  cases t with
  | mk d =>
    have : d.size = 0 := h1
    rw [Array.eq_empty_of_size_eq_zero this]
theorem oneB_one {t : ByteArray} {n : Int} {m : Nat} (h : oneB 1 t n m = true) : nameB t = true ∧ n = 0 ∧ m = 0 := by
  unfold oneB at h
  rw [if_neg (by decide), if_pos rfl] at h
  simp only [Bool.and_eq_true, decide_eq_true_eq] at h
  exact ⟨h.1.1, h.1.2, h.2⟩
theorem oneB_two {t : ByteArray} {n : Int} {m : Nat} (h : oneB 2 t n m = true) : t = ⟨#[]⟩ ∧ (-999999 ≤ n ∧ n ≤ 999999) ∧ m = 0 := by
  unfold oneB at h
  rw [if_neg (by decide), if_neg (by decide), if_pos rfl] at h
  simp only [Bool.and_eq_true, decide_eq_true_eq] at h
  refine ⟨?_, ⟨h.1.1.2, h.1.2⟩, h.2⟩
  have h1 := (toList_nil t).1 h.1.1.1
  cases t with
  | mk d =>
    have : d.size = 0 := h1
    rw [Array.eq_empty_of_size_eq_zero this]
theorem oneB_kind {k : Int} {t : ByteArray} {n : Int} {m : Nat} (h : oneB k t n m = true) : k = 0 ∨ k = 1 ∨ k = 2 ∨ (k = 3 ∧ t.size ≤ 200 ∧ n = 0 ∧ m = 0) := by
  by_cases c0 : k = 0
  · exact .inl c0
  by_cases c1 : k = 1
  · exact .inr (.inl c1)
  by_cases c2 : k = 2
  · exact .inr (.inr (.inl c2))
  unfold oneB at h
  rw [if_neg c0, if_neg c1, if_neg c2] at h
  by_cases c3 : k = 3
  · rw [if_pos c3] at h
    simp only [Bool.and_eq_true, decide_eq_true_eq] at h
    exact .inr (.inr (.inr ⟨c3, h.1.1, h.1.2, h.2⟩))
  · rw [if_neg c3] at h; cases h
theorem nameB_len {t : ByteArray} (h : nameB t = true) : 1 ≤ t.size ∧ t.size ≤ 30 := by
  unfold nameB at h
  simp only [Bool.and_eq_true, decide_eq_true_eq] at h
  exact ⟨h.1.1.1.1, h.1.1.1.2⟩
mutual
theorem txE_len : ∀ x : S33, rightE x = true → (txE x).length + 1 ≤ 410 * cntE x
  | ⟨k, t, n, ks⟩, h => by
    simp only [rightE, Bool.and_eq_true] at h
    have h1 := txR_len false ks h.2
    simp only [cntE, txE]
    rcases oneB_kind h.1 with rfl | rfl | rfl | ⟨rfl, h3, _, _⟩
    · rw [if_pos rfl]; simp; omega
    · have := nameB_len (oneB_one h.1).1
      rw [if_neg (by decide), if_pos rfl]; simp; omega
    · have h5 := oneB_two h.1
      have := itz_len n (by omega) (by omega)
      rw [if_neg (by decide), if_neg (by decide), if_pos rfl]; omega
    · have := escU_len t.data.toList
      have e : t.data.toList.length = t.size := by simp
      rw [if_neg (by decide), if_neg (by decide), if_neg (by decide)]
      simp only [List.length_cons, List.length_append, List.length_nil]
      omega
theorem txR_len : ∀ (b : Bool) (l : List S33), rightEL l = true → (txR b l).length ≤ 410 * cntEL l
  | b, [], _ => by simp [txR]
  | b, x :: xs, h => by
    simp only [rightEL, Bool.and_eq_true] at h
    have h1 := txE_len x h.1
    have h2 := txR_len true xs h.2
    simp only [txR, cntEL]
    cases b <;> simp <;> omega
end
theorem bt_byte (s : ByteArray) (i : Int) (h0 : 0 ≤ i) (h1 : i < s.size) : ∃ c : UInt8, bt s i = (c.toNat : Int) ∧ s.data.toList.drop i.toNat = c :: s.data.toList.drop (i + 1).toNat := by
  have hl : i.toNat < s.data.toList.length := by simp; omega
  have hb : bt s i = ((s.data.toList[i.toNat]'hl).toNat : Int) := by
    have hs : i.toNat < s.size := by omega
    unfold bt
    rw [dif_pos hs]
    rfl
  refine ⟨s.data.toList[i.toNat]'hl, hb, ?_⟩
  rw [show (i + 1).toNat = i.toNat + 1 by omega, List.drop_eq_getElem_cons hl]
theorem ofNat_byte (c : UInt8) : UInt8.ofNat ((c.toNat : Int)).toNat = c := by simp
theorem drop_noneB (s : ByteArray) (i : Int) (h0 : 0 ≤ i) (h1 : ¬ i < s.size) : s.data.toList.drop i.toNat = [] := List.drop_eq_nil_of_le (by simp; omega)
theorem q0_ev (s : ByteArray) (hs : s.size ≤ 200) (bs : List UInt8) (hb : bs.length ≤ 1000000000) :
    EvP (fun k => note_format.q0 k bs s 0) (· = bs ++ (escU s.data.toList ++ [34])) := by
  refine EvP.up (L := fun k i (o : List UInt8) => note_format.q0 k o s i) (fun i o => 0 ≤ i ∧ o.length ≤ 1000000000 + 2 * i.toNat ∧ o ++ (escU (s.data.toList.drop i.toNat) ++ [34]) = bs ++ (escU s.data.toList ++ [34])) s.size ?_ 0 bs (by omega) ⟨by omega, by omega, by simp⟩
  intro i o hi hin ih
  obtain ⟨i0, h1, h2⟩ := hi
  refine EvP.step (fun k => by rw [note_format.q0]) ?_
  refine EvP.ite (fun c => ?_) (fun c => ?_)
  · obtain ⟨b, e1, e2⟩ := bt_byte s i i0 c
    rw [e2, escU] at h2
    refine EvP.pos i0 (EvP.pos (by omega) ?_)
    rw [w64 (x := i + 1) (by omega) (by omega), e1, ofNat_byte]
    refine EvP.ite (fun d => ?_) (fun d => EvP.ite (fun d' => ?_) (fun d' => ?_))
    · refine ih _ c ⟨by omega, by simp; omega, ?_⟩
      rw [if_pos (by omega)] at h2
      rw [← h2]; simp
    · refine ih _ c ⟨by omega, by simp; omega, ?_⟩
      rw [if_neg (by omega), if_pos (by omega)] at h2
      rw [← h2]; simp
    · refine ih _ c ⟨by omega, by simp; omega, ?_⟩
      rw [if_neg (by omega), if_neg (by omega)] at h2
      rw [← h2]; simp
  · rw [drop_noneB s i i0 c] at h2
    refine EvP.pos (by omega) (EvP.ret ?_)
    rw [← h2]; simp [escU]
theorem itoaP (n : Int) (h0 : -999999 ≤ n) (h1 : n ≤ 999999) : strconv_Itoa_79.f n = some ⟨(itz n).toArray⟩ := by
  unfold strconv_Itoa_79.f
  rw [if_pos (by omega), if_pos (by omega)]
theorem fmt_ev : ∀ (n : Nat) (a0 : Int) (a1 : ByteArray) (a2 : Int) (l : List S33) (bs : List UInt8), cntEL l < n → GE l → oneB a0 a1 a2 l.length = true → rightEL l = true → bs.length + 410 * (1 + cntEL l) ≤ 1000000 →
    EvP (fun k => note_format.f k bs a0 a1 a2 l) (· = bs ++ txE ⟨a0, a1, a2, l⟩)
  | 0, _, _, _, _, _, h, _, _, _, _ => by omega
  | n + 1, a0, a1, a2, l, bs, hn, hg, ho, hr, hb => by
    refine EvP.step (fun k => by rw [note_format.f]) ?_
    rw [txE]
    refine EvP.ite (fun c => ?_) (fun c => EvP.ite (fun c1 => ?_) (fun c1 => EvP.ite (fun c2 => ?_) (fun c2 => ?_)))
    · rw [if_pos c]
      refine EvP.pos (by omega) ?_
      have hlen := hg.1
      refine EvP.up (L := fun k i (o : List UInt8) => note_format.l0 k o l i) (fun i o => 0 ≤ i ∧ o.length + 410 * cntEL (l.drop i.toNat) ≤ 1000000 - 409 ∧ rightEL (l.drop i.toNat) = true ∧ o ++ (txR (decide (i > 0)) (l.drop i.toNat) ++ [41]) = bs ++ (40 :: (txR false l ++ [41]))) l.length ?_ 0 (bs ++ [40]) (by omega) ⟨by omega, by simp; omega, by simpa using hr, by simp⟩
      intro i o hi hin ih
      obtain ⟨i0, h1, h2, h3⟩ := hi
      refine EvP.step (fun k => by rw [note_format.l0]) ?_
      refine EvP.ite (fun d => ?_) (fun d => ?_)
      · have hm := rd_mem33 l i i0 d
        obtain ⟨_, k1, _, k3⟩ := hg.kids hm
        have hk := cntE_kid l i i0 d
        have f2 := cntEL_drop l i i0 d
        rw [rightEL_drop l i i0 d, rightE_kids] at h2
        simp only [Bool.and_eq_true] at h2
        obtain ⟨⟨g1, g2⟩, g3⟩ := h2
        rw [drop_rd33 l i i0 d, txR] at h3
        have hl : (txE (rd_T33 l i)).length + 1 ≤ 410 * cntE (rd_T33 l i) := txE_len _ (by rw [rightE_kids, g1, g2]; rfl)
        rw [cntE_kids] at hl
        refine EvP.pos i0 ?_
        rw [w64 (x := i + 1) (by omega) (by omega)]
        have hp : decide (i + 1 > 0) = true := by simp; omega
        refine EvP.ite (fun c1 => ?_) (fun c1 => ?_)
        · refine EvP.pos (by omega) ?_
          refine EvP.bind (fmt_ev n _ _ _ _ (o ++ [32]) (by omega) k3 g1 g2 (by simp; omega)) (fun r hr => ?_)
          subst hr
          rw [← txE_eta]
          refine ih _ d ⟨by omega, by simp; omega, g3, ?_⟩
          rw [hp, ← h3]
          simp [c1]
        · refine EvP.bind (fmt_ev n _ _ _ _ o (by omega) k3 g1 g2 (by omega)) (fun r hr => ?_)
          subst hr
          rw [← txE_eta]
          refine ih _ d ⟨by omega, by simp; omega, g3, ?_⟩
          rw [hp, ← h3]
          simp [c1]
      · rw [drop_none33 l i i0 d] at h3 h1
        simp only [txR, cntEL] at h3 h1
        refine EvP.pos (by omega) (EvP.ret ?_)
        rw [← h3]; simp
    · subst c1
      have := oneB_two ho
      rw [if_neg (by decide), if_neg (by decide), if_pos rfl]
      have hz := itz_len a2 (by omega) (by omega)
      refine EvP.bindv (itoaP a2 (by omega) (by omega)) ?_
      have e : (⟨(itz a2).toArray⟩ : ByteArray).size = (itz a2).length := by simp [ByteArray.size]
      refine EvP.pos (by rw [e]; omega) (EvP.ret ?_)
      simp
    · subst c2
      have := nameB_len (oneB_one ho).1
      have e : (if (1 : Int) = 0 then 40 :: (txR false l ++ [41]) else if (1 : Int) = 1 then a1.data.toList else if (1 : Int) = 2 then itz a2 else 34 :: (escU a1.data.toList ++ [34])) = a1.data.toList := by rw [if_neg (by decide), if_pos rfl]
      rw [e]
      exact EvP.pos (by omega) (EvP.ret rfl)
    · rw [if_neg c, if_neg c2, if_neg c1]
      have h3 : a1.size ≤ 200 := by
        rcases oneB_kind ho with h | h | h | h
        · exact absurd h c
        · exact absurd h c2
        · exact absurd h c1
        · exact h.2.1
      refine EvP.pos (by omega) ?_
      refine (q0_ev a1 h3 (bs ++ [34]) (by simp; omega)).mono ?_
      rintro r rfl
      simp
def tx (a0 : Int) (a1 : ByteArray) (a2 : Int) (l : List S33) : ByteArray := ⟨(txE ⟨a0, a1, a2, l⟩).toArray⟩
theorem ba_eta (s : ByteArray) : s = ⟨s.data.toList.toArray⟩ := by cases s; simp
theorem ba_ext {s t : ByteArray} (h : s.data.toList = t.data.toList) : s = t := by rw [ba_eta s, h, ← ba_eta]
theorem ba_app (s t : ByteArray) : (s ++ t).data.toList = s.data.toList ++ t.data.toList := by simp
theorem rl1_ev (k0 : Int) (s : ByteArray) (n0 : Int) (l0 : List S33) (hs : s.size ≤ 200) :
    EvP (fun k => incunableref25_Text.l1 k ([34] : List Int) 0 k0 s n0 l0) (fun r => r.data.toList = 34 :: (escU s.data.toList ++ [34])) := by
  refine EvP.up (L := fun k i (o : List Int) => incunableref25_Text.l1 k o i k0 s n0 l0) (fun i o => 0 ≤ i ∧ o.length ≤ 1000000000 + 2 * i.toNat ∧ (strOfNums o).data.toList ++ (escU (s.data.toList.drop i.toNat) ++ [34]) = 34 :: (escU s.data.toList ++ [34])) s.size ?_ 0 [34] (by omega) ⟨by omega, by simp, by simp [strOfNums]⟩
  intro i o hi hin ih
  obtain ⟨i0, h1, h2⟩ := hi
  refine EvP.step (fun k => by rw [incunableref25_Text.l1]) ?_
  refine EvP.ite (fun c => ?_) (fun c => ?_)
  · obtain ⟨b, e1, e2⟩ := bt_byte s i i0 c
    rw [e2, escU, strOfNums_data] at h2
    refine EvP.pos i0 ?_
    rw [w64 (x := i + 1) (by omega) (by omega), e1]
    refine EvP.ite (fun d => ?_) (fun d => EvP.ite (fun d' => ?_) (fun d' => ?_))
    · refine EvP.pos (by omega) (EvP.bindv rfl (EvP.pos (by simp; omega) (ih _ c ⟨by omega, by simp; omega, ?_⟩)))
      rw [if_pos (by omega)] at h2
      rw [← h2, strOfNums_data]; simp
    · refine EvP.pos (by omega) (EvP.bindv rfl (EvP.pos (by simp; omega) (ih _ c ⟨by omega, by simp; omega, ?_⟩)))
      rw [if_neg (by omega), if_pos (by omega)] at h2
      rw [← h2, strOfNums_data]; simp
    · refine EvP.pos (by omega) (ih _ c ⟨by omega, by simp; omega, ?_⟩)
      rw [if_neg (by omega), if_neg (by omega)] at h2
      rw [← h2, strOfNums_data]; simp
  · rw [drop_noneB s i i0 c] at h2
    refine EvP.pos (by omega) (EvP.ret ?_)
    rw [← h2, strOfNums_data, strOfNums_data]; simp [escU]
theorem text_ev : ∀ (n : Nat) (a0 : Int) (a1 : ByteArray) (a2 : Int) (l : List S33), cntEL l < n → GE l → oneB a0 a1 a2 l.length = true → rightEL l = true → cntEL l ≤ 400 →
    EvP (fun k => incunableref25_Text.f k a0 a1 a2 l) (fun r => r.data.toList = txE ⟨a0, a1, a2, l⟩)
  | 0, _, _, _, _, h, _, _, _, _ => by omega
  | n + 1, a0, a1, a2, l, hn, hg, ho, hr, hb => by
    refine EvP.step (fun k => by rw [incunableref25_Text.f]) ?_
    rw [txE]
    refine EvP.ite (fun c => ?_) (fun c => EvP.ite (fun c1 => ?_) (fun c1 => EvP.ite (fun c2 => ?_) (fun c2 => ?_)))
    · rw [if_pos c]
      have hlen := hg.1
      refine EvP.up (L := fun k i (o : ByteArray) => incunableref25_Text.l0 k o i a0 a1 a2 l) (fun i o => 0 ≤ i ∧ o.size + 410 * cntEL (l.drop i.toNat) ≤ 1000000 - 409 ∧ rightEL (l.drop i.toNat) = true ∧ o.data.toList ++ (txR (decide (i > 0)) (l.drop i.toNat) ++ [41]) = (40 :: (txR false l ++ [41]))) l.length ?_ 0 (⟨#[40]⟩ : ByteArray) (by omega) ⟨by omega, by have : (⟨#[40]⟩ : ByteArray).size = 1 := rfl; rw [this]; simp; omega, by simpa using hr, by simp⟩
      intro i o hi hin ih
      obtain ⟨i0, h1, h2, h3⟩ := hi
      have eo : o.data.toList.length = o.size := by simp
      refine EvP.step (fun k => by rw [incunableref25_Text.l0]) ?_
      refine EvP.ite (fun d => ?_) (fun d => ?_)
      · have hm := rd_mem33 l i i0 d
        obtain ⟨_, k1, _, k3⟩ := hg.kids hm
        have hk := cntE_kid l i i0 d
        have f2 := cntEL_drop l i i0 d
        rw [rightEL_drop l i i0 d, rightE_kids] at h2
        simp only [Bool.and_eq_true] at h2
        obtain ⟨⟨g1, g2⟩, g3⟩ := h2
        rw [drop_rd33 l i i0 d, txR] at h3
        have hl : (txE (rd_T33 l i)).length + 1 ≤ 410 * cntE (rd_T33 l i) := txE_len _ (by rw [rightE_kids, g1, g2]; rfl)
        rw [cntE_kids] at hl
        rw [w64 (x := i + 1) (by omega) (by omega)]
        have hp : decide (i + 1 > 0) = true := by simp; omega
        refine EvP.ite (fun c1 => ?_) (fun c1 => ?_)
        · refine EvP.pos (by omega) (EvP.pos i0 ?_)
          refine EvP.bind (text_ev n _ _ _ _ (by omega) k3 g1 g2 (by omega)) (fun r hr => ?_)
          rw [← txE_eta] at hr
          have er : r.data.toList.length = r.size := by simp
          have e1 : (o ++ (⟨#[32]⟩ : ByteArray)).size = o.size + 1 := by rw [ByteArray.size_append]; rfl
          have e2 : (o ++ (⟨#[32]⟩ : ByteArray) ++ r).size = o.size + 1 + r.size := by rw [ByteArray.size_append, e1]
          rw [← hr] at hl h3
          refine EvP.pos (by rw [e1]; omega) (ih _ d ⟨by omega, by rw [e2]; omega, g3, ?_⟩)
          rw [hp, ← h3, ba_app, ba_app]
          simp [c1]
        · refine EvP.pos i0 ?_
          refine EvP.bind (text_ev n _ _ _ _ (by omega) k3 g1 g2 (by omega)) (fun r hr => ?_)
          rw [← txE_eta] at hr
          have er : r.data.toList.length = r.size := by simp
          have e2 : (o ++ r).size = o.size + r.size := by rw [ByteArray.size_append]
          rw [← hr] at hl h3
          refine EvP.pos (by omega) (ih _ d ⟨by omega, by rw [e2]; omega, g3, ?_⟩)
          rw [hp, ← h3, ba_app]
          simp [c1]
      · rw [drop_none33 l i i0 d] at h3 h1
        simp only [txR, cntEL] at h3 h1
        refine EvP.pos (by omega) (EvP.ret ?_)
        rw [← h3, ba_app]; simp
    · rw [if_neg c, if_pos c1]
      exact EvP.ret rfl
    · subst c2
      have := oneB_two ho
      rw [if_neg c, if_neg c1, if_pos rfl]
      refine EvP.bindv (itoaP a2 (by omega) (by omega)) (EvP.ret ?_)
      simp
    · rw [if_neg c, if_neg c1, if_neg c2]
      have h3 : a1.size ≤ 200 := by
        rcases oneB_kind ho with h | h | h | h
        · exact absurd h c
        · exact absurd h c1
        · exact absurd h c2
        · exact h.2.1
      exact rl1_ev a0 a1 a2 l h3
theorem format_ev (a0 : Int) (a1 : ByteArray) (a2 : Int) (l : List S33) (hg : GE l) : EvP (fun k => note_Format.f k a0 a1 a2 l) (· = if validB a0 a1 a2 l = true then (tx a0 a1 a2 l, 0) else ((⟨#[]⟩ : ByteArray), 95)) := by
  refine EvP.bind (validE_ev a0 a1 a2 l hg) (fun v hv => ?_)
  subst hv
  refine EvP.ite (fun c => ?_) (fun c => ?_)
  · have h := c
    unfold validB at h
    simp only [Bool.and_eq_true, decide_eq_true_eq] at h
    rw [if_pos c]
    refine EvP.bind (fmt_ev (cntEL l + 1) a0 a1 a2 l [] (by omega) hg h.1.1.1 h.1.1.2 (by simp; omega)) (fun r hr => EvP.ret ?_)
    subst hr
    rfl
  · rw [if_neg c]
    exact EvP.ret rfl
theorem refFormat_ev (a0 : Int) (a1 : ByteArray) (a2 : Int) (l : List S33) (ht : a1.size ≤ 140737488351232) (hg : GE l) (hc : cntEL l ≤ 6000) : EvP (fun k => incunableref25_Format.f k a0 a1 a2 l) (· = if validB a0 a1 a2 l = true then (tx a0 a1 a2 l, 0) else ((⟨#[]⟩ : ByteArray), 95)) := by
  refine EvP.bind (refValidE_ev a0 a1 a2 l ht hg hc) (fun v hv => ?_)
  subst hv
  refine EvP.ite (fun c => ?_) (fun c => ?_)
  · have h := c
    unfold validB at h
    simp only [Bool.and_eq_true, decide_eq_true_eq] at h
    rw [if_pos c]
    refine EvP.bind (text_ev (cntEL l + 1) a0 a1 a2 l (by omega) hg h.1.1.1 h.1.1.2 (by omega)) (fun r hr => EvP.ret ?_)
    have e : r = tx a0 a1 a2 l := ba_ext (by rw [hr]; simp [tx])
    rw [e]
  · rw [if_neg c]
    exact EvP.ret rfl

def spU (c : UInt8) : Bool := decide (c.toNat = 32) || decide (c.toNat = 9) || decide (c.toNat = 10)
theorem sp_ix : ∀ c : UInt8, decide (Go.Lib.indexByte [32, 9, 10] c ≥ 0) = spU c := by
  have h : ∀ n : Fin 256, decide (Go.Lib.indexByte [32, 9, 10] (UInt8.ofNat n.val) ≥ 0) = spU (UInt8.ofNat n.val) := by decide +kernel
  intro c
  have := h ⟨c.toNat, c.toNat_lt⟩
  simpa using this
theorem let_ix : ∀ c : UInt8, decide (Go.Lib.indexByte letU c ≥ 0) = wordU c := by
  have h : ∀ n : Fin 256, decide (Go.Lib.indexByte letU (UInt8.ofNat n.val) ≥ 0) = wordU (UInt8.ofNat n.val) := by decide +kernel
  intro c
  have := h ⟨c.toNat, c.toNat_lt⟩
  simpa using this
theorem ix_val (l : List UInt8) (c : UInt8) : strings_IndexByte.f ⟨l.toArray⟩ (c.toNat : Int) = some (Go.Lib.indexByte l c) := by
  unfold strings_IndexByte.f
  simp
def At (s : ByteArray) (p : Int) (L : List UInt8) : Prop := 0 ≤ p ∧ p ≤ s.size ∧ s.data.toList.drop p.toNat = L
theorem At.cons {s : ByteArray} {p : Int} {c : UInt8} {L : List UInt8} (h : At s p (c :: L)) : p < s.size ∧ bt s p = (c.toNat : Int) ∧ At s (p + 1) L := by
  obtain ⟨h0, h1, h2⟩ := h
  have hp : p < s.size := by
    by_cases c1 : p < s.size
    · exact c1
    · rw [drop_noneB s p h0 c1] at h2; cases h2
  obtain ⟨b, e1, e2⟩ := bt_byte s p h0 hp
  rw [e2] at h2
  injection h2 with h3 h4
  subst h3
  exact ⟨hp, e1, by omega, by omega, h4⟩
theorem At.nil {s : ByteArray} {p : Int} (h : At s p []) : p = s.size := by
  obtain ⟨h0, h1, h2⟩ := h
  have := congrArg List.length h2
  simp at this
  omega
theorem At.app {s : ByteArray} : ∀ {w : List UInt8} {p : Int} {L : List UInt8}, At s p (w ++ L) → At s (p + w.length) L
  | [], p, L, h => by simpa using h
  | c :: w, p, L, h => by
    have h1 := (At.cons (show At s p (c :: (w ++ L)) from h)).2.2
    have h2 := At.app h1
    have e : p + 1 + (w.length : Int) = p + ((c :: w).length : Nat) := by simp; omega
    rw [← e]; exact h2
theorem At.le {s : ByteArray} {p : Int} {L : List UInt8} (h : At s p L) : p + L.length = s.size := by
  have := At.app (L := []) (w := L) (by simpa using h)
  exact this.nil
/-- What stands behind an expression. -/
def Post (L : List UInt8) : Prop := ∀ c L', L = c :: L' → c.toNat = 32 ∨ c.toNat = 41
def NoSp (L : List UInt8) : Prop := ∀ c L', L = c :: L' → spU c = false
theorem spaces0 (s : ByteArray) (hs : s.size ≤ 20000) (p : Int) (L : List UInt8) (h : At s p L) (hn : NoSp L) : EvP (fun k => note_parser_spaces.f k s p) (· = p) := by
  refine EvP.step (fun k => by rw [note_parser_spaces.f]) ?_
  cases L with
  | nil =>
    have := h.nil
    exact EvP.neg (by omega) (EvP.ret rfl)
  | cons c L' =>
    obtain ⟨h1, h2, h3⟩ := h.cons
    refine EvP.pos h1 (EvP.pos h.1 ?_)
    rw [h2, ix_val]
    have e := sp_ix c
    rw [hn c L' rfl] at e
    exact EvP.neg (by simpa using e) (EvP.ret rfl)
theorem spaces1 (s : ByteArray) (hs : s.size ≤ 20000) (p : Int) (L : List UInt8) (h : At s p (32 :: L)) (hn : NoSp L) : EvP (fun k => note_parser_spaces.f k s p) (· = p + 1) := by
  obtain ⟨h1, h2, h3⟩ := h.cons
  refine EvP.step (fun k => by rw [note_parser_spaces.f]) ?_
  refine EvP.pos h1 (EvP.pos h.1 ?_)
  rw [h2, ix_val]
  have := h.1
  refine EvP.bindv rfl (EvP.pos (show Go.Lib.indexByte [32, 9, 10] 32 ≥ 0 by decide) ?_)
  rw [w64 (x := p + 1) (by omega) (by omega)]
  exact spaces0 s hs (p + 1) L h3 hn
theorem scan_ev (s : ByteArray) (hs : s.size ≤ 20000) (post : List UInt8) (hp : Post post) : ∀ (w : List UInt8) (p : Int), At s p (w ++ post) → w.all wordU = true → EvP (fun k => note_parser_scan.f k s p) (· = p + w.length)
  | [], p, h, _ => by
    refine EvP.step (fun k => by rw [note_parser_scan.f]) ?_
    have h : At s p post := h
    cases post with
    | nil =>
      have := h.nil
      exact EvP.neg (by omega) (EvP.ret (by simp))
    | cons c L' =>
      obtain ⟨h1, h2, h3⟩ := h.cons
      refine EvP.pos h1 (EvP.pos h.1 ?_)
      rw [h2, show (⟨#[97, 98, 99, 100, 101, 102, 103, 104, 105, 106, 107, 108, 109, 110, 111, 112, 113, 114, 115, 116, 117, 118, 119, 120, 121, 122, 48, 49, 50, 51, 52, 53, 54, 55, 56, 57, 45]⟩ : ByteArray) = ⟨letU.toArray⟩ from rfl, ix_val]
      have e := let_ix c
      have hw : wordU c = false := by
        unfold wordU
        rcases hp c L' rfl with h | h <;> simp [h]
      rw [hw] at e
      exact EvP.neg (by simpa using e) (EvP.ret (by simp))
  | c :: w, p, h, ha => by
    refine EvP.step (fun k => by rw [note_parser_scan.f]) ?_
    have h' : At s p (c :: (w ++ post)) := h
    obtain ⟨h1, h2, h3⟩ := h'.cons
    rw [List.all_cons, Bool.and_eq_true] at ha
    refine EvP.pos h1 (EvP.pos h.1 ?_)
    rw [h2, show (⟨#[97, 98, 99, 100, 101, 102, 103, 104, 105, 106, 107, 108, 109, 110, 111, 112, 113, 114, 115, 116, 117, 118, 119, 120, 121, 122, 48, 49, 50, 51, 52, 53, 54, 55, 56, 57, 45]⟩ : ByteArray) = ⟨letU.toArray⟩ from rfl, ix_val]
    have e := let_ix c
    rw [ha.1] at e
    have := h.1
    refine EvP.pos (by simpa using e) ?_
    rw [w64 (x := p + 1) (by omega) (by omega)]
    refine (scan_ev s hs post hp w (p + 1) h3 ha.2).mono ?_
    rintro r rfl
    simp
    omega
theorem cut_at {s : ByteArray} {p : Int} {w post : List UInt8} (h : At s p (w ++ post)) : s.extract p.toNat (p + w.length).toNat = ⟨w.toArray⟩ := by
  have h0 := h.1
  rw [Go.Lib.extract_eq, h.2.2, show (p + (w.length : Int)).toNat - p.toNat = w.length by omega, List.take_left' rfl]
theorem wname_ev (s : ByteArray) (hs : s.size ≤ 20000) (post : List UInt8) (hp : Post post) (t : ByteArray) (ht : nameB t = true) (p : Int) (h : At s p (t.data.toList ++ post)) :
    EvP (fun k => note_parser_word.f k s p) (· = (1, t, 0, true, p + t.data.toList.length)) := by
  unfold note_parser_word.f
  have ha : t.data.toList.all wordU = true := by
    unfold nameB at ht
    simp only [Bool.and_eq_true] at ht
    exact ht.2
  refine EvP.bind (scan_ev s hs post hp _ p h ha) (fun j hj => ?_)
  subst hj
  have hl := h.app.2.1
  refine EvP.pos ⟨h.1, by omega, hl, by omega⟩ ?_
  rw [cut_at h, ← ba_eta]
  exact EvP.bindv (nameP t) (EvP.pos ht (EvP.ret rfl))
theorem dd_word : ∀ (n u : Nat), u < n → (Go.Lib.decDigits u).all (fun c => decide (48 ≤ c.toNat) && decide (c.toNat ≤ 57)) = true ∧ Go.Lib.decDigits u ≠ []
  | 0, _, h => by omega
  | n + 1, u, h => by
    have key : ∀ d : Nat, d < 10 → (UInt8.ofNat (48 + d)).toNat = 48 + d := by
      intro d hd
      simp; omega
    rw [Go.Lib.decDigits]
    by_cases c : u < 10
    · rw [dif_pos c]
      have := key u c
      simp only [List.all_cons, List.all_nil, this]
      simp; omega
    · rw [dif_neg c]
      have ih := dd_word n (u / 10) (by omega)
      have := key (u % 10) (by omega)
      rw [List.all_append, ih.1]
      simp only [List.all_cons, List.all_nil, this]
      simp; omega
theorem dd_parse : ∀ (n u : Nat) (r : List UInt8), u < n → u < 1000000000 → Go.Lib.parseUint10 0 (Go.Lib.decDigits u ++ r) = Go.Lib.parseUint10 u r
  | 0, _, _, h, _ => by omega
  | n + 1, u, r, h, hu => by
    have key : ∀ d : Nat, d < 10 → (UInt8.ofNat (48 + d)).toNat = 48 + d := by
      intro d hd
      simp; omega
    rw [Go.Lib.decDigits]
    by_cases c : u < 10
    · rw [dif_pos c]
      have e := key u c
      show Go.Lib.parseUint10 0 (UInt8.ofNat (48 + u) :: r) = _
      rw [Go.Lib.parseUint10, e, if_pos (by omega), if_neg (by omega), if_neg (by omega)]
      congr 1
      omega
    · rw [dif_neg c, List.append_assoc, dd_parse n (u / 10) _ (by omega) (by omega)]
      have e := key (u % 10) (by omega)
      show Go.Lib.parseUint10 (u / 10) (UInt8.ofNat (48 + u % 10) :: r) = _
      rw [Go.Lib.parseUint10, e, if_pos (by omega), if_neg (by omega), if_neg (by omega)]
      congr 1
      omega
theorem dd_mag (u : Nat) (hu : u < 1000000000) : Go.Lib.parseMag (Go.Lib.decDigits u) = .ok u := by
  unfold Go.Lib.parseMag
  rw [if_neg (dd_word (u + 1) u (by omega)).2]
  have := dd_parse (u + 1) u [] (by omega) hu
  rw [List.append_nil] at this
  rw [this, Go.Lib.parseUint10]
theorem atoi_itz (n : Int) (h0 : -999999 ≤ n) (h1 : n ≤ 999999) : Go.Lib.atoiAll (itz n) = .ok n := by
  rw [itz_eq, Go.Lib.itoa]
  by_cases c : n < 0
  · rw [if_pos c, Go.Lib.atoiAll]
    simp only [show (45 : UInt8).toNat = 45 from rfl, or_true, if_true, dd_mag n.natAbs (by omega), not_true, false_and, if_false, true_and]
    rw [if_neg (by omega)]
    congr 1
    omega
  · rw [if_neg c]
    have hw := dd_word (n.toNat + 1) n.toNat (by omega)
    cases hd : Go.Lib.decDigits n.toNat with
    | nil => exact absurd hd hw.2
    | cons x xs =>
      rw [hd, List.all_cons, Bool.and_eq_true, Bool.and_eq_true] at hw
      simp only [decide_eq_true_eq] at hw
      have hx := hw.1.1
      rw [Go.Lib.atoiAll]
      have e := dd_mag n.toNat (by omega)
      rw [hd] at e
      rw [if_neg (by omega)]
      simp only [e, show ¬ x.toNat = 45 from by omega, not_false_eq_true, true_and, false_and, if_false]
      rw [if_neg (by omega)]
      congr 1
      omega
theorem itz_word (n : Int) : (itz n).all wordU = true ∧ ∃ c r, itz n = c :: r ∧ c.toNat ≤ 57 ∧ 45 ≤ c.toNat := by
  rw [itz_eq, Go.Lib.itoa]
  have dw : ∀ u, (Go.Lib.decDigits u).all wordU = true := by
    intro u
    refine List.all_eq_true.2 (fun c hc => ?_)
    have := List.all_eq_true.1 (dd_word (u + 1) u (by omega)).1 c hc
    unfold wordU
    simp only [Bool.and_eq_true, decide_eq_true_eq] at this
    simp [this]
  by_cases c : n < 0
  · rw [if_pos c]
    refine ⟨?_, 45, _, rfl, by decide, by decide⟩
    rw [List.all_cons, dw]
    decide
  · rw [if_neg c]
    refine ⟨dw _, ?_⟩
    have hw := dd_word (n.toNat + 1) n.toNat (by omega)
    cases hd : Go.Lib.decDigits n.toNat with
    | nil => exact absurd hd hw.2
    | cons x xs =>
      rw [hd, List.all_cons, Bool.and_eq_true, Bool.and_eq_true] at hw
      simp only [decide_eq_true_eq] at hw
      exact ⟨x, xs, rfl, by omega, by omega⟩
theorem wnum_ev (s : ByteArray) (hs : s.size ≤ 20000) (post : List UInt8) (hp : Post post) (n : Int) (h0 : -999999 ≤ n) (h1 : n ≤ 999999) (p : Int) (h : At s p (itz n ++ post)) :
    EvP (fun k => note_parser_word.f k s p) (· = (2, (⟨#[]⟩ : ByteArray), n, true, p + (itz n).length)) := by
  unfold note_parser_word.f
  refine EvP.bind (scan_ev s hs post hp _ p h (itz_word n).1) (fun j hj => ?_)
  subst hj
  have hl := h.app.2.1
  refine EvP.pos ⟨h.1, by omega, hl, by omega⟩ ?_
  rw [cut_at h]
  have hb : nameB ⟨(itz n).toArray⟩ = false := by
    obtain ⟨_, c, r, e, hc, _⟩ := itz_word n
    rw [e]
    have : bt ⟨(c :: r).toArray⟩ 0 = (c.toNat : Int) := rfl
    unfold nameB
    have h2 : ¬ (97 : Int) ≤ bt ⟨(c :: r).toArray⟩ 0 := by rw [this]; omega
    simp [h2]
  have ea : atoiR ⟨(itz n).toArray⟩ = (n, true) := by
    unfold atoiR
    have e : (⟨(itz n).toArray⟩ : ByteArray).data.toList = itz n := rfl
    rw [e, atoi_itz n h0 h1]
  refine EvP.bindv (nameP _) (EvP.neg (by rw [hb]; decide) (EvP.ret ?_))
  rw [ea]
  simp [h0, h1]
theorem quoted_ev (s : ByteArray) (hs : s.size ≤ 20000) (post : List UInt8) : ∀ (t : List UInt8) (o : List Int) (p : Int), o.length + t.length ≤ 200 → At s p (escU t ++ 34 :: post) →
    EvP (fun k => note_parser_quoted.l0 k s o p) (· = (strOfNums (o ++ t.map (fun c => (c.toNat : Int))), true, p + (escU t).length + 1))
  | [], o, p, hl, h => by
    obtain ⟨h1, h2, h3⟩ := (show At s p (34 :: post) from h).cons
    have := h.1
    refine EvP.step (fun k => by rw [note_parser_quoted.l0]) (EvP.pos h1 (EvP.pos h.1 ?_))
    rw [h2, w64 (x := p + 1) (by omega) (by omega)]
    refine EvP.pos rfl (EvP.ret ?_)
    have e : decide ((o.length : Int) ≤ 200) = true := by simp at hl ⊢; omega
    rw [e]
    simp [escU]
  | c :: t, o, p, hl, h => by
    have h0 := h.1
    have fin : ∀ {a b : Int}, a = b → ∀ r : ByteArray × Bool × Int, r = (strOfNums ((o ++ [(c.toNat : Int)]) ++ t.map (fun c => (c.toNat : Int))), true, a) → r = (strOfNums (o ++ (c :: t).map (fun c => (c.toNat : Int))), true, b) := by
      rintro a b rfl r rfl
      simp
    simp only [List.length_cons] at hl
    rw [escU, List.append_assoc] at h
    by_cases d : c.toNat = 34
    · rw [if_pos d] at h
      obtain ⟨h1, h2, h3⟩ := (show At s p (92 :: (c :: (escU t ++ 34 :: post))) from h).cons
      obtain ⟨g1, g2, g3⟩ := h3.cons
      refine EvP.step (fun k => by rw [note_parser_quoted.l0]) (EvP.pos h1 (EvP.pos h0 ?_))
      rw [h2, w64 (x := p + 1) (by omega) (by omega), w64 (x := p + 1 + 1) (by omega) (by omega), g2]
      refine EvP.neg (by decide) (EvP.pos rfl (EvP.neg (by omega) (EvP.pos (by omega) (EvP.pos g1 (EvP.pos (by omega) (EvP.pos (by omega) ?_))))))
      refine (quoted_ev s hs post t (o ++ [(c.toNat : Int)]) (p + 1 + 1) (by simp; omega) g3).mono (fin ?_)
      rw [escU, if_pos d]
      simp; omega
    by_cases d' : c.toNat = 92
    · rw [if_neg d, if_pos d'] at h
      obtain ⟨h1, h2, h3⟩ := (show At s p (92 :: (c :: (escU t ++ 34 :: post))) from h).cons
      obtain ⟨g1, g2, g3⟩ := h3.cons
      refine EvP.step (fun k => by rw [note_parser_quoted.l0]) (EvP.pos h1 (EvP.pos h0 ?_))
      rw [h2, w64 (x := p + 1) (by omega) (by omega), w64 (x := p + 1 + 1) (by omega) (by omega), g2]
      refine EvP.neg (by decide) (EvP.pos rfl (EvP.neg (by omega) (EvP.pos (by omega) (EvP.pos g1 (EvP.neg (by omega) (EvP.pos (by omega) (EvP.pos (by omega) ?_)))))))
      refine (quoted_ev s hs post t (o ++ [(c.toNat : Int)]) (p + 1 + 1) (by simp; omega) g3).mono (fin ?_)
      rw [escU, if_neg d, if_pos d']
      simp; omega
    rw [if_neg d, if_neg d'] at h
    obtain ⟨h1, h2, h3⟩ := (show At s p (c :: (escU t ++ 34 :: post)) from h).cons
    refine EvP.step (fun k => by rw [note_parser_quoted.l0]) (EvP.pos h1 (EvP.pos h0 ?_))
    rw [h2, w64 (x := p + 1) (by omega) (by omega)]
    refine EvP.neg (by omega) (EvP.neg (by omega) (EvP.pos (by omega) ?_))
    refine (quoted_ev s hs post t (o ++ [(c.toNat : Int)]) (p + 1) (by simp; omega) h3).mono (fin ?_)
    rw [escU, if_neg d, if_neg d']
    simp; omega
theorem strOfNums_nat (t : ByteArray) : strOfNums (t.data.toList.map (fun c => (c.toNat : Int))) = t := by
  refine ba_ext ?_
  rw [strOfNums_data, List.map_map]
  conv => rhs; rw [← List.map_id t.data.toList]
  refine List.map_congr_left (fun c _ => ?_)
  simp

abbrev RP := Int × ByteArray × Int × List S33 × Int
def SL (k : Nat) (s : ByteArray) (q : Ps) : Option RP := (note_parser_spaces.f k s q.at_).bind fun i => note_Parse.l0 k s { q with at_ := i }
def endq (at_ : Int) (rs : List (List S33)) (d m : Int) (x0 e : S33) : Ps := match rs with
  | [] => ⟨at_, [], d, m, true, e⟩
  | ks :: r => ⟨at_, (ks ++ [e]) :: r, d, m, false, x0⟩
theorem ends_ok (at_ : Int) (rs : List (List S33)) (d m : Int) (x0 e : S33) (h : rs.length ≤ 20) (hk : ∀ ks r, rs = ks :: r → ks.length ≤ 400) :
    note_parser_ends.f ⟨at_, rs, d, m, false, x0⟩ e = some (endq at_ rs d m x0 e) := by
  cases rs with
  | nil => rfl
  | cons ks r =>
    have h1 := hk ks r rfl
    simp only [List.length_cons] at h
    unfold note_parser_ends.f endq
    dsimp only
    rw [if_pos ⟨by omega, by omega⟩]
theorem endq_at (at_ z : Int) (rs : List (List S33)) (d m : Int) (x0 e : S33) : { endq at_ rs d m x0 e with at_ := z } = endq z rs d m x0 e := by cases rs <;> rfl
theorem endq_at_ (at_ : Int) (rs : List (List S33)) (d m : Int) (x0 e : S33) : (endq at_ rs d m x0 e).at_ = at_ := by cases rs <;> rfl
theorem mx20 {a b : Int} (h : a ≤ 20) (k : b ≤ 20) : mx a b ≤ 20 := by unfold mx; split <;> assumption
theorem go_on {s : ByteArray} {P : RP → Prop} {q q' : Ps} (hq : q.at_ < s.size) (h : EvP (fun k => note_parser_step.f k s q) (· = (true, q'))) (K : EvP (fun k => SL k s q') P) : EvP (fun k => note_Parse.l0 k s q) P := by
  refine EvP.step (fun k => by rw [note_Parse.l0]) (EvP.pos hq (EvP.bind h (fun t ht => ?_)))
  subst ht
  exact EvP.pos rfl K
theorem SL_stay {s : ByteArray} (hs : s.size ≤ 20000) {P : RP → Prop} {q : Ps} {L : List UInt8} (h : At s q.at_ L) (hn : NoSp L) (K : EvP (fun k => note_Parse.l0 k s q) P) : EvP (fun k => SL k s q) P := by
  refine EvP.bind (spaces0 s hs q.at_ L h hn) (fun i hi => ?_)
  subst hi
  exact K
theorem SL_skip {s : ByteArray} (hs : s.size ≤ 20000) {P : RP → Prop} {q : Ps} {L : List UInt8} (h : At s q.at_ (32 :: L)) (hn : NoSp L) (K : EvP (fun k => note_Parse.l0 k s { q with at_ := q.at_ + 1 }) P) : EvP (fun k => SL k s q) P := by
  refine EvP.bind (spaces1 s hs q.at_ L h hn) (fun i hi => ?_)
  subst hi
  exact K
theorem txE_head (x : S33) (h : rightE x = true) (L : List UInt8) : NoSp (txE x ++ L) := by
  obtain ⟨k, t, n, ks⟩ := x
  simp only [rightE, Bool.and_eq_true] at h
  rintro c L' e
  rw [txE] at e
  rcases oneB_kind h.1 with rfl | rfl | rfl | ⟨rfl, _⟩
  · rw [if_pos rfl] at e; injection e with e1 _; subst e1; rfl
  · have hb := (oneB_one h.1).1
    have hl := nameB_len hb
    obtain ⟨b, e1, e2⟩ := bt_byte t 0 (by omega) (by omega)
    rw [if_neg (by decide), if_pos rfl] at e
    have e3 : t.data.toList = b :: t.data.toList.drop (0 + 1 : Int).toNat := by rw [← e2]; rfl
    rw [e3] at e
    injection e with e4 _
    subst e4
    unfold nameB at hb
    simp only [Bool.and_eq_true, decide_eq_true_eq] at hb
    rw [e1] at hb
    have := hb.1.1.2
    unfold spU
    have a1 : ¬ b.toNat = 32 := by omega
    have a2 : ¬ b.toNat = 9 := by omega
    have a3 : ¬ b.toNat = 10 := by omega
    simp [a1, a2, a3]
  · obtain ⟨_, b, r, e2, e3, e4⟩ := itz_word n
    rw [if_neg (by decide), if_neg (by decide), if_pos rfl, e2] at e
    injection e with e5 _
    subst e5
    unfold spU
    have a1 : ¬ b.toNat = 32 := by omega
    have a2 : ¬ b.toNat = 9 := by omega
    have a3 : ¬ b.toNat = 10 := by omega
    simp [a1, a2, a3]
  · rw [if_neg (by decide), if_neg (by decide), if_neg (by decide)] at e; injection e with e1 _; subst e1; rfl
def One (s : ByteArray) (P : RP → Prop) (n : Nat) : Prop := ∀ (x : S33), cntE x ≤ n → rightE x = true → ∀ (p : Int) (rs : List (List S33)) (d m : Int) (x0 : S33) (post : List UInt8), Post post → At s p (txE x ++ post) → rs.length + dpE x ≤ 20 → (∀ ks r, rs = ks :: r → ks.length ≤ 400) → 0 ≤ m → m + cntE x ≤ 400 → d ≤ 20 →
  (∀ d' : Int, d' ≤ 20 → EvP (fun k => SL k s (endq (p + (txE x).length) rs d' (m + cntE x) x0 x)) P) → EvP (fun k => note_Parse.l0 k s ⟨p, rs, d, m, false, x0⟩) P
theorem kids_ev {s : ByteArray} (hs : s.size ≤ 20000) {P : RP → Prop} {n : Nat} (one : One s P n) (post : List UInt8) (rs : List (List S33)) (x0 : S33) : ∀ (xs : List S33) (b : Bool) (acc : List S33) (p d m : Int), cntEL xs ≤ n → rightEL xs = true → At s p (txR b xs ++ 41 :: post) → acc.length + xs.length ≤ 400 → rs.length + 1 + dpEL xs ≤ 20 → 0 ≤ m → m + cntEL xs ≤ 400 → d ≤ 20 →
    (∀ d' : Int, d' ≤ 20 → EvP (fun k => note_Parse.l0 k s ⟨p + (txR b xs).length, (acc ++ xs) :: rs, d', m + cntEL xs, false, x0⟩) P) → EvP (fun k => SL k s ⟨p, acc :: rs, d, m, false, x0⟩) P
  | [], b, acc, p, d, m, _, _, h, _, _, _, _, hd, K => by
    have h : At s p (41 :: post) := h
    refine SL_stay hs (L := 41 :: post) h (fun c L' e => by injection e with e1 _; subst e1; rfl) ?_
    have := K d hd
    simpa [txR, cntEL] using this
  | x :: xs, b, acc, p, d, m, hn, hr, h, hl, hdp, hm0, hm1, hd, K => by
    simp only [rightEL, Bool.and_eq_true] at hr
    simp only [cntEL] at hn hm1 K
    simp only [dpEL] at hdp
    simp only [List.length_cons] at hl
    have hp : Post (txR true xs ++ 41 :: post) := by
      intro c L' e
      cases xs with
      | nil => injection e with e1 _; subst e1; exact .inr rfl
      | cons y ys => injection e with e1 _; subst e1; exact .inl rfl
    have next : ∀ p' : Int, p' + (txE x).length + (txR true xs).length = p + (txR b (x :: xs)).length → At s p' (txE x ++ (txR true xs ++ 41 :: post)) → EvP (fun k => note_Parse.l0 k s ⟨p', acc :: rs, d, m, false, x0⟩) P := by
      intro p' ep hA
      refine one x (by omega) hr.1 p' (acc :: rs) d m x0 _ hp hA (by simp; omega) (fun ks r e => by injection e with e1 _; subst e1; omega) hm0 (by omega) hd (fun d' hd' => ?_)
      show EvP (fun k => SL k s ⟨p' + (txE x).length, (acc ++ [x]) :: rs, d', m + cntE x, false, x0⟩) P
      refine kids_ev hs one post rs x0 xs true (acc ++ [x]) _ d' _ (by omega) hr.2 hA.app (by simp; omega) (by omega) (by omega) (by omega) hd' (fun d2 hd2 => ?_)
      have := K d2 hd2
      rw [ep, show m + (cntE x : Int) + (cntEL xs : Int) = m + ((cntE x + cntEL xs : Nat) : Int) by omega, List.append_assoc]
      exact this
    cases b with
    | false =>
      have e : txR false (x :: xs) ++ 41 :: post = txE x ++ (txR true xs ++ 41 :: post) := by simp [txR]
      rw [e] at h
      exact SL_stay hs h (txE_head x hr.1 _) (next p (by simp [txR]; omega) h)
    | true =>
      have e : txR true (x :: xs) ++ 41 :: post = 32 :: (txE x ++ (txR true xs ++ 41 :: post)) := by simp [txR]
      rw [e] at h
      exact SL_skip hs h (txE_head x hr.1 _) (next (p + 1) (by simp [txR]; omega) h.cons.2.2)
theorem one_ev {s : ByteArray} (hs : s.size ≤ 20000) {P : RP → Prop} : ∀ n, One s P n
  | 0 => by
    intro x hx
    have := cntE_kids x
    omega
  | n + 1 => by
    rintro ⟨k, t, nn, ks⟩ hn hr p rs d m x0 post hp hA hdp hk hm0 hm1 hd K
    have hr' := hr
    simp only [rightE, Bool.and_eq_true] at hr'
    obtain ⟨ho, hr2⟩ := hr'
    simp only [cntE] at hn hm1 K
    simp only [dpE] at hdp
    have hnosp := txE_head _ hr post
    rw [txE] at hA K
    have hp0 := hA.1
    have ed : mx d ((rs.length : Int) + 1) ≤ 20 := mx20 hd (by omega)
    rcases oneB_kind ho with rfl | rfl | rfl | ⟨rfl, h3, h4, h5⟩
    · obtain ⟨rfl, rfl⟩ := oneB_zero ho
      rw [if_pos rfl] at hA K
      have hA1 : At s p (40 :: (txR false ks ++ 41 :: post)) := by simpa using hA
      obtain ⟨h1, h2, h3⟩ := hA1.cons
      have step : EvP (fun k => note_parser_step.f k s ⟨p, rs, d, m, false, x0⟩) (· = (true, ⟨p + 1, [] :: rs, mx d ((rs.length : Int) + 1), m + 1, false, x0⟩)) := by
        unfold note_parser_step.f
        dsimp only
        rw [h2, w64 (x := m + 1) (by omega) (by omega), w64 (x := p + 1) (by omega) (by omega)]
        exact EvP.pos ⟨hp0, h1, by omega⟩ (EvP.neg (by decide) (EvP.neg (by decide) (EvP.pos rfl (EvP.pos (by omega) (EvP.ret rfl)))))
      refine go_on h1 step ?_
      have hle := cntEL_le ks
      refine kids_ev hs (one_ev hs n) post rs x0 ks false [] (p + 1) _ (m + 1) (by omega) hr2 h3 (by simp; omega) (by omega) (by omega) (by omega) ed (fun d' hd' => ?_)
      obtain ⟨g1, g2, g3⟩ := (h3.app).cons
      have g0 := h3.app.1
      have step2 : EvP (fun k => note_parser_step.f k s ⟨p + 1 + (txR false ks).length, ([] ++ ks) :: rs, d', m + 1 + cntEL ks, false, x0⟩) (· = (true, endq (p + 1 + (txR false ks).length + 1) rs d' (m + 1 + cntEL ks) x0 ⟨0, ⟨#[]⟩, 0, ks⟩)) := by
        unfold note_parser_step.f
        dsimp only
        rw [g2]
        refine EvP.pos ⟨g0, g1, by simp; omega⟩ (EvP.pos rfl ?_)
        refine EvP.bindv (ends_ok _ rs d' _ x0 _ (by omega) hk) (EvP.ret ?_)
        rw [endq_at, endq_at_, w64 (by omega) (by omega)]
        rfl
      refine go_on g1 step2 ?_
      have := K d' hd'
      have e1 : p + ((40 :: (txR false ks ++ [41])).length : Nat) = p + 1 + (txR false ks).length + 1 := by simp; omega
      have e2 : m + ((1 + cntEL ks : Nat) : Int) = m + 1 + cntEL ks := by omega
      rw [e1, e2] at this
      exact this
    · obtain ⟨hb, rfl, hks⟩ := oneB_one ho
      obtain rfl := List.length_eq_zero_iff.1 hks
      rw [if_neg (by decide), if_pos rfl] at hA K
      have hl := nameB_len hb
      obtain ⟨b, e1, e2⟩ := bt_byte t 0 (by omega) (by omega)
      have e3 : t.data.toList = b :: t.data.toList.drop (0 + 1 : Int).toNat := by rw [← e2]; rfl
      have hA1 := hA
      rw [e3] at hA1
      obtain ⟨h1, h2, _⟩ := At.cons (show At s p (b :: (t.data.toList.drop (0 + 1 : Int).toNat ++ post)) from hA1)
      have hb97 : (97 : Int) ≤ b.toNat := by
        unfold nameB at hb
        simp only [Bool.and_eq_true, decide_eq_true_eq] at hb
        rw [e1] at hb
        exact hb.1.1.2
      refine go_on (q' := endq (p + t.data.toList.length) rs (mx d ((rs.length : Int) + 1)) (m + 1) x0 ⟨1, t, 0, []⟩) h1 ?_ (K _ ed)
      unfold note_parser_step.f
      dsimp only
      rw [h2, w64 (x := m + 1) (by omega) (by omega)]
      refine EvP.pos ⟨hp0, h1, by omega⟩ (EvP.neg (by omega) (EvP.neg (by decide) (EvP.neg (by omega) (EvP.neg (by omega) ?_))))
      refine EvP.bind (wname_ev s hs post hp t hb p hA) (fun r hr => ?_)
      subst hr
      exact EvP.bindv (ends_ok _ rs _ _ x0 _ (by omega) hk) (EvP.ret rfl)
    · obtain ⟨rfl, hn2, hks⟩ := oneB_two ho
      obtain rfl := List.length_eq_zero_iff.1 hks
      rw [if_neg (by decide), if_neg (by decide), if_pos rfl] at hA K
      obtain ⟨_, b, r, e2, e3, e4⟩ := itz_word nn
      have hA1 := hA
      rw [e2] at hA1
      obtain ⟨h1, h2, _⟩ := At.cons (show At s p (b :: (r ++ post)) from hA1)
      refine go_on (q' := endq (p + (itz nn).length) rs (mx d ((rs.length : Int) + 1)) (m + 1) x0 ⟨2, ⟨#[]⟩, nn, []⟩) h1 ?_ (K _ ed)
      unfold note_parser_step.f
      dsimp only
      rw [h2, w64 (x := m + 1) (by omega) (by omega)]
      refine EvP.pos ⟨hp0, h1, by omega⟩ (EvP.neg (by omega) (EvP.neg (by decide) (EvP.neg (by omega) (EvP.neg (by omega) ?_))))
      refine EvP.bind (wnum_ev s hs post hp nn hn2.1 hn2.2 p hA) (fun r hr => ?_)
      subst hr
      exact EvP.bindv (ends_ok _ rs _ _ x0 _ (by omega) hk) (EvP.ret rfl)
    · subst h4
      obtain rfl := List.length_eq_zero_iff.1 h5
      rw [if_neg (by decide), if_neg (by decide), if_neg (by decide)] at hA K
      have hA1 : At s p (34 :: (escU t.data.toList ++ 34 :: post)) := by simpa using hA
      obtain ⟨h1, h2, h6⟩ := hA1.cons
      have e1 : p + ((34 :: (escU t.data.toList ++ [34])).length : Nat) = p + 1 + (escU t.data.toList).length + 1 := by simp; omega
      rw [e1] at K
      refine go_on (q' := endq (p + 1 + (escU t.data.toList).length + 1) rs (mx d ((rs.length : Int) + 1)) (m + 1) x0 ⟨3, t, 0, []⟩) h1 ?_ (K _ ed)
      unfold note_parser_step.f
      dsimp only
      rw [h2, w64 (x := m + 1) (by omega) (by omega), w64 (x := p + 1) (by omega) (by omega)]
      refine EvP.pos ⟨hp0, h1, by omega⟩ (EvP.neg (by decide) (EvP.neg (by decide) (EvP.neg (by decide) (EvP.pos rfl ?_))))
      refine EvP.bind (quoted_ev s hs post t.data.toList [] (p + 1) (by simp; omega) h6) (fun r hr => ?_)
      subst hr
      rw [List.nil_append, strOfNums_nat]
      exact EvP.bindv (ends_ok _ rs _ _ x0 _ (by omega) hk) (EvP.ret rfl)
theorem parse_ev (a0 : Int) (a1 : ByteArray) (a2 : Int) (l : List S33) (h : validB a0 a1 a2 l = true) (hs : (tx a0 a1 a2 l).size ≤ 20000) : EvP (fun k => note_Parse.f k (tx a0 a1 a2 l)) (· = (a0, a1, a2, l, 0)) := by
  unfold validB at h
  simp only [Bool.and_eq_true, decide_eq_true_eq] at h
  obtain ⟨⟨⟨h1, h2⟩, h3⟩, h4⟩ := h
  have hr : rightE ⟨a0, a1, a2, l⟩ = true := by rw [rightE, h1, h2]; rfl
  unfold note_Parse.f
  refine EvP.neg (by omega) ?_
  have hA : At (tx a0 a1 a2 l) 0 (txE ⟨a0, a1, a2, l⟩) := ⟨by omega, by omega, rfl⟩
  refine SL_stay hs (q := ⟨0, [], 0, 0, false, z33⟩) hA (by have := txE_head _ hr []; rwa [List.append_nil] at this) ?_
  have hA' : At (tx a0 a1 a2 l) 0 (txE ⟨a0, a1, a2, l⟩ ++ []) := by rw [List.append_nil]; exact hA
  refine one_ev hs (cntE ⟨a0, a1, a2, l⟩) ⟨a0, a1, a2, l⟩ (Nat.le_refl _) hr 0 [] 0 0 z33 [] (fun c L' e => by cases e) hA' (by simp only [dpE]; simp; omega) (fun ks r e => by cases e) (by omega) (by simp only [cntE]; omega) (by omega) (fun d' hd' => ?_)
  have hn := hA'.app
  refine SL_stay hs (q := endq _ [] d' _ z33 _) hn (fun c L' e => by cases e) ?_
  refine EvP.step (fun k => by rw [note_Parse.l0]) ?_
  have := hn.nil
  refine EvP.neg (by show ¬ (0 + ((txE ⟨a0, a1, a2, l⟩).length : Int) < _); omega) (EvP.pos rfl (EvP.neg ?_ (EvP.neg ?_ (EvP.ret rfl))))
  · show ¬ ((0 : Int) + (cntE ⟨a0, a1, a2, l⟩ : Int) > 400)
    simp only [cntE]; omega
  · show ¬ (d' > 20)
    omega
theorem same_ev : ∀ (n : Nat) (a0 : Int) (a1 : ByteArray) (a2 : Int) (l : List S33), cntEL l < n → l.length ≤ 1000000 → cntEL l ≤ 1000000 → EvP (fun k => incunableref25_SameExpr.f k a0 a1 a2 l a0 a1 a2 l) (· = true)
  | 0, _, _, _, _, h, _, _ => by omega
  | n + 1, a0, a1, a2, l, hn, hl, hc => by
    refine EvP.step (fun k => by rw [incunableref25_SameExpr.f]) (EvP.pos rfl (EvP.pos rfl (EvP.pos rfl ?_)))
    refine EvP.step (fun k => by rw [incunableref25_SameExpr.j0]) (EvP.neg (by simp) ?_)
    refine EvP.up (L := fun k i (_ : Unit) => incunableref25_SameExpr.l0 k i a0 a1 a2 l a0 a1 a2 l) (fun i _ => 0 ≤ i) l.length ?_ 0 () (by omega) (by omega)
    intro i u i0 hin ih
    refine EvP.step (fun k => by rw [incunableref25_SameExpr.l0]) ?_
    refine EvP.ite (fun c1 => ?_) (fun c1 => EvP.ret rfl)
    have hk := cntE_kid l i i0 c1
    have h2 := cntEL_le (rd_T33 l i).f3
    refine EvP.pos i0 (EvP.pos c1 (EvP.bind (same_ev n _ _ _ _ (by omega) (by omega) (by omega)) (fun r hr => EvP.pos hr ?_)))
    rw [w64 (x := i + 1) (by omega) (by omega)]
    exact ih () c1 (by omega)

theorem Sane25_is : EvP (fun k => incunablelaw25_Sane.f k) (· = true) :=
  ⟨true, Ev.of (fun k => incunablelaw25_Sane.mono k) (k := 40) (by decide +kernel), rfl⟩

theorem NoteFormats : incunablelaw25_NoteFormats.Pure := by
  intro a0 a1 a2 l w0 ht w2 hg
  have hg : GE l := hg
  refine EvP.rounds ?_
  refine EvP.bind (deep_ev a0 a1 a2 l ht hg) (fun b hb => ?_)
  refine EvP.ite (fun c => EvP.bind Sane25_is (fun r hr => EvP.ret hr)) (fun c => ?_)
  have hc : cntEL l ≤ 6000 := by have := hb (by simpa using c); omega
  refine EvP.bind (format_ev a0 a1 a2 l hg) (fun r hr => EvP.bind (refFormat_ev a0 a1 a2 l ht hg hc) (fun q hq => ?_))
  subst hr; subst hq
  refine EvP.pos rfl (EvP.pos rfl ?_)
  refine EvP.bind (validE_ev a0 a1 a2 l hg) (fun u hu => EvP.bind (refValidE_ev a0 a1 a2 l ht hg hc) (fun v hv => ?_))
  have hv' : v = u := hv.trans hu.symm
  subst hv'
  have eb : (v != v) = false := by simp
  rw [eb]
  refine EvP.step (fun k => by rw [incunablelaw25_NoteFormats.j0]) (EvP.neg (by simp) ?_)
  by_cases hval : validB a0 a1 a2 l = true
  · rw [if_pos hval]
    refine EvP.pos rfl ?_
    refine EvP.step (fun k => by rw [incunablelaw25_NoteFormats.j1]) ?_
    refine EvP.ite (fun c => EvP.bind Sane25_is (fun r hr => EvP.ret hr)) (fun c => ?_)
    have hs : (tx a0 a1 a2 l).size ≤ 20000 := by
      have : ¬ ((tx a0 a1 a2 l).size : Int) > 20000 := by simpa using c
      omega
    refine EvP.bind (parse_ev a0 a1 a2 l hval hs) (fun r hr => ?_)
    subst hr
    refine EvP.pos rfl ?_
    have := cntEL_le l
    refine EvP.bind (same_ev (cntEL l + 1) a0 a1 a2 l (by omega) (by omega) (by omega)) (fun t ht => EvP.pos ht ?_)
    exact EvP.bind Sane25_is (fun r hr => EvP.ret hr)
  · rw [if_neg hval]
    refine EvP.neg (by decide) ?_
    refine EvP.step (fun k => by rw [incunablelaw25_NoteFormats.j1]) (EvP.pos rfl ?_)
    exact EvP.bind Sane25_is (fun r hr => EvP.ret hr)

end Go.Proofs.YtacdchogjpeffaaDoor.Pure
