/- Which expression any text is, and that its text is read back. -/
import Derived.Test.YtacdchogjpeffaaDoorPNoteParsesx13
import Derived.Test.YtacdchogjpeffaaDoorQBase
namespace Go.Proofs.YtacdchogjpeffaaDoor.Pure
open Go.RowKit Go.Proofs.YtacdchogjpeffaaDoor.PNoteParses Go.Proofs.YtacdchogjpeffaaDoorW.PrintWords Go.Proofs.YtacdchogjpeffaaDoorW.PrintLast Go.Proofs.YtacdchogjpeffaaDoorW.PrintMore Go.Proofs.YtacdchogjpeffaaDoorW.Pu
set_option linter.unusedVariables false
set_option linter.unusedSimpArgs false
/-- What is known of an expression that was read. -/
def Good33 : Nat → S33 → Prop
  | 0, _ => False
  | n + 1, x => ((Lit.int .i64 x.f0).wf = true) ∧ (x.f1.size ≤ 140737488351232) ∧ ((Lit.int .i64 x.f2).wf = true) ∧ (x.f3.length ≤ 9223372036854775807 ∧ x.f3.length * 56 ≤ 140737488351232 ∧ ∀ y ∈ x.f3, Good33 n y)

/-- The numbers of a list are those of bytes. -/
def Byt (p : List Int) : Prop := ∀ x ∈ p, 0 ≤ x ∧ x ≤ 255
theorem val_byt {w h : Int} {p : List Int} (v : Val w h p) : Byt p := fun x hx => ⟨(v.2.2.2.2.2.2 x hx).1, by have := (v.2.2.2.2.2.2 x hx).2; omega⟩

theorem wf_byt {p : List Int} (h : ∀ y ∈ p, (Lit.int .u8 y).wf = true) : Byt p := fun x hx => by
  have h1 : (decide (IntKind.u8.min ≤ x) && decide (x ≤ IntKind.u8.max)) = true := h x hx
  obtain ⟨a, b⟩ := Bool.and_eq_true_iff.mp h1
  exact ⟨of_decide_eq_true a, of_decide_eq_true b⟩
theorem wf_i64 {x : Int} (h : (Lit.int .i64 x).wf = true) : -9223372036854775808 ≤ x ∧ x ≤ 9223372036854775807 := by
  have h1 : (decide (IntKind.i64.min ≤ x) && decide (x ≤ IntKind.i64.max)) = true := h
  obtain ⟨a, b⟩ := Bool.and_eq_true_iff.mp h1
  exact ⟨of_decide_eq_true a, of_decide_eq_true b⟩

mutual
def cntE : S33 → Nat
  | ⟨_, _, _, ks⟩ => 1 + cntEL ks
def cntEL : List S33 → Nat
  | [] => 0
  | x :: xs => cntE x + cntEL xs
end
mutual
def dpE : S33 → Nat
  | ⟨_, _, _, ks⟩ => 1 + dpEL ks
def dpEL : List S33 → Nat
  | [] => 0
  | x :: xs => max (dpE x) (dpEL xs)
end
def wordU (b : UInt8) : Bool := (decide (97 ≤ b.toNat) && decide (b.toNat ≤ 122)) || (decide (48 ≤ b.toNat) && decide (b.toNat ≤ 57)) || decide (b.toNat = 45)
def nameB (s : ByteArray) : Bool := decide (1 ≤ s.size) && decide (s.size ≤ 30) && decide (97 ≤ bt s 0) && decide (bt s 0 ≤ 122) && s.data.toList.all wordU
/-- An expression by itself, without its kids. -/
def oneB (k : Int) (t : ByteArray) (n : Int) (len : Nat) : Bool :=
  if k = 0 then decide (t.toList = ([] : List UInt8)) && decide (n = 0)
  else if k = 1 then nameB t && decide (n = 0) && decide (len = 0)
  else if k = 2 then decide (t.toList = ([] : List UInt8)) && decide (-999999 ≤ n) && decide (n ≤ 999999) && decide (len = 0)
  else if k = 3 then decide (t.size ≤ 200) && decide (n = 0) && decide (len = 0) else false
mutual
def rightE : S33 → Bool
  | ⟨k, t, n, ks⟩ => oneB k t n ks.length && rightEL ks
def rightEL : List S33 → Bool
  | [] => true
  | x :: xs => rightE x && rightEL xs
end
theorem cntE_kids (x : S33) : cntE x = 1 + cntEL x.f3 := by cases x; simp [cntE]
theorem dpE_kids (x : S33) : dpE x = 1 + dpEL x.f3 := by cases x; simp [dpE]
theorem rightE_kids (x : S33) : rightE x = (oneB x.f0 x.f1 x.f2 x.f3.length && rightEL x.f3) := by cases x; simp [rightE]
theorem drop_rd33 (l : List S33) (i : Int) (h0 : 0 ≤ i) (h1 : i < l.length) : l.drop i.toNat = rd_T33 l i :: l.drop (i + 1).toNat := by
  have hl : i.toNat < l.length := by omega
  rw [show (i + 1).toNat = i.toNat + 1 by omega, List.drop_eq_getElem_cons hl]
  congr 1
  simp [rd_T33, List.getD, List.getElem?_eq_getElem hl]
theorem drop_none33 (l : List S33) (i : Int) (h0 : 0 ≤ i) (h1 : ¬ i < l.length) : l.drop i.toNat = [] := List.drop_eq_nil_of_le (by omega)
theorem rd_mem33 (l : List S33) (i : Int) (h0 : 0 ≤ i) (h1 : i < l.length) : rd_T33 l i ∈ l := by
  have hl : i.toNat < l.length := by omega
  have e : rd_T33 l i = l[i.toNat] := by simp [rd_T33, List.getD, List.getElem?_eq_getElem hl]
  rw [e]
  exact List.getElem_mem hl
theorem rd_drop33 (l : List S33) (n : Nat) (j : Int) (h0 : 0 ≤ j) : rd_T33 (l.drop n) j = rd_T33 l (j + n) := by
  simp only [rd_T33, List.getD, List.getElem?_drop]
  congr 2
  omega
theorem cntEL_le : ∀ (l : List S33), l.length ≤ cntEL l
  | [] => by simp [cntEL]
  | x :: xs => by have := cntEL_le xs; have := cntE_kids x; simp [cntEL]; omega
theorem dpE_cnt : ∀ (n : Nat) (l : List S33), cntEL l < n → dpEL l ≤ cntEL l
  | 0, _, h => by omega
  | n + 1, [], _ => by simp [dpEL]
  | n + 1, x :: xs, h => by
    have e1 := cntE_kids x
    have e2 := dpE_kids x
    simp only [cntEL, dpEL] at h ⊢
    have h1 := dpE_cnt n x.f3 (by omega)
    have h2 := dpE_cnt n xs (by omega)
    omega
theorem cntEL_mem : ∀ (l : List S33) (x : S33), x ∈ l → cntE x ≤ cntEL l
  | y :: ys, x, h => by
    simp only [cntEL]
    rcases List.mem_cons.1 h with rfl | h
    · omega
    · have := cntEL_mem ys x h; omega
def GE (l : List S33) : Prop := l.length ≤ 9223372036854775807 ∧ l.length * 56 ≤ 140737488351232 ∧ ∀ y ∈ l, ∃ n, Good33 n y
theorem GE.kids {l : List S33} {x : S33} (h : GE l) (hx : x ∈ l) : (-9223372036854775808 ≤ x.f0 ∧ x.f0 ≤ 9223372036854775807) ∧ x.f1.size ≤ 140737488351232 ∧ (-9223372036854775808 ≤ x.f2 ∧ x.f2 ≤ 9223372036854775807) ∧ GE x.f3 := by
  obtain ⟨n, hn⟩ := h.2.2 x hx
  cases n with
  | zero => exact hn.elim
  | succ n =>
    obtain ⟨z, a, b, c, d, e⟩ := hn
    exact ⟨wf_i64 z, a, wf_i64 b, c, d, fun y hy => ⟨n, e y hy⟩⟩
theorem cntEL_drop (l : List S33) (i : Int) (h0 : 0 ≤ i) (h1 : i < l.length) : cntEL (l.drop i.toNat) = 1 + cntEL (rd_T33 l i).f3 + cntEL (l.drop (i + 1).toNat) := by
  rw [drop_rd33 l i h0 h1, cntEL, cntE_kids]
theorem dpEL_drop (l : List S33) (i : Int) (h0 : 0 ≤ i) (h1 : i < l.length) : dpEL (l.drop i.toNat) = max (1 + dpEL (rd_T33 l i).f3) (dpEL (l.drop (i + 1).toNat)) := by
  rw [drop_rd33 l i h0 h1, dpEL, dpE_kids]
theorem rightEL_drop (l : List S33) (i : Int) (h0 : 0 ≤ i) (h1 : i < l.length) : rightEL (l.drop i.toNat) = (rightE (rd_T33 l i) && rightEL (l.drop (i + 1).toNat)) := by
  rw [drop_rd33 l i h0 h1, rightEL]
theorem cntE_kid (l : List S33) (i : Int) (h0 : 0 ≤ i) (h1 : i < l.length) : 1 + cntEL (rd_T33 l i).f3 ≤ cntEL l := by
  have := cntEL_mem l _ (rd_mem33 l i h0 h1)
  have := cntE_kids (rd_T33 l i)
  omega

theorem dropW_nil {p : UInt8 → Bool} : ∀ (l : List UInt8), (l.dropWhile p = []) ↔ l.all p = true
  | [] => by simp
  | x :: xs => by
    by_cases h : p x = true
    · simp [List.dropWhile, h, dropW_nil xs]
    · simp [List.dropWhile, h]
theorem trimS_nil (l cs : List UInt8) : (Go.Lib.trimS l cs = []) ↔ l.all (cs.contains ·) = true := by
  unfold Go.Lib.trimS Go.Lib.trimRightS Go.Lib.trimLeftS
  rw [dropW_nil, List.all_reverse, ← List.all_reverse (l := l)]
  have key : ∀ m : List UInt8, (m.dropWhile (cs.contains ·)).all (cs.contains ·) = true → m.all (cs.contains ·) = true := by
    intro m
    induction m with
    | nil => intro _; rfl
    | cons x xs ih =>
      intro h
      by_cases hx : cs.contains x = true
      · rw [List.dropWhile_cons_of_pos hx] at h
        rw [List.all_cons, hx, Bool.true_and]
        exact ih h
      · rw [List.dropWhile_cons_of_neg hx, List.all_cons] at h
        exact absurd (Bool.and_eq_true_iff.1 h).1 hx
  constructor
  · exact key _
  · intro h
    rw [(dropW_nil (p := (cs.contains ·)) _).2 h]
    rfl
def letU : List UInt8 := [97, 98, 99, 100, 101, 102, 103, 104, 105, 106, 107, 108, 109, 110, 111, 112, 113, 114, 115, 116, 117, 118, 119, 120, 121, 122, 48, 49, 50, 51, 52, 53, 54, 55, 56, 57, 45]
theorem letU_word : ∀ b : UInt8, letU.contains b = wordU b := by
  have h : ∀ n : Fin 256, letU.contains (UInt8.ofNat n.val) = wordU (UInt8.ofNat n.val) := by decide +kernel
  intro b
  have := h ⟨b.toNat, b.toNat_lt⟩
  simpa using this
theorem toList_nil (s : ByteArray) : s.toList = [] ↔ s.size = 0 := by
  rw [ByteArray.toList_eq]
  constructor
  · intro h
    have := congrArg List.length h
    simpa using this
  · intro h
    exact List.eq_nil_of_length_eq_zero (by simpa using h)
theorem nameP (s : ByteArray) : note_isName.f s = some (nameB s) := by
  unfold note_isName.f nameB
  by_cases h0 : s.toList = ([] : List UInt8)
  · rw [if_pos h0]
    have := (toList_nil s).1 h0
    simp [this]
  · rw [if_neg h0]
    have hs : 1 ≤ s.size := by
      have hz : ¬ s.size = 0 := fun h => h0 ((toList_nil s).2 h)
      omega
    by_cases h1 : (s.size : Int) ≤ 30
    · have h1' : s.size ≤ 30 := by omega
      rw [if_pos h1, if_pos (by omega)]
      by_cases h2 : bt s 0 ≥ 97
      · have h2' : 97 ≤ bt s 0 := h2
        rw [if_pos h2]
        by_cases h3 : bt s 0 ≤ 122
        · rw [if_pos h3]
          unfold strings_Trim.f
          rw [if_pos (by omega), if_pos (by decide), if_pos (by decide)]
          simp only [Option.bind_some, hs, h1', h2', h3, decide_true, Bool.true_and]
          congr 1
          have e := trimS_nil s.data.toList letU
          have e2 : s.data.toList.all (letU.contains ·) = s.data.toList.all wordU := by
            congr 1
            funext b
            exact letU_word b
          rw [e2] at e
          rw [Bool.eq_iff_iff, ← e]
          rw [ByteArray.toList_eq]
          simp [letU]
        · rw [if_neg h3]
          simp [h3]
      · rw [if_neg h2]
        have h2' : ¬ 97 ≤ bt s 0 := h2
        simp [h2']
    · rw [if_neg h1]
      have h1' : ¬ s.size ≤ 30 := by omega
      simp [h1']
theorem oneP (k : Int) (t : ByteArray) (n : Int) (l : List S33) : note_isExpr.f k t n l = some (oneB k t n l.length) := by
  unfold note_isExpr.f oneB
  have e : ((l.length : Int) == 0) = decide (l.length = 0) := by
    rw [Bool.eq_iff_iff]; simp
  rw [nameP]
  by_cases c0 : k = 0
  · rw [if_pos c0, if_pos c0]
    by_cases c1 : t.toList = ([] : List UInt8)
    · rw [if_pos c1]
      simp only [c1, decide_true, Bool.true_and]
      exact congrArg some (Bool.eq_iff_iff.2 (by simp))
    · rw [if_neg c1]; simp [c1]
  · rw [if_neg c0, if_neg c0]
    by_cases c1 : k = 1
    · rw [if_pos c1, if_pos c1, Option.bind_some]
      cases nameB t
      · simp
      · rw [if_pos rfl, e]
        by_cases c2 : n = 0
        · rw [if_pos c2]; simp [c2]
        · rw [if_neg c2]; simp [c2]
    · rw [if_neg c1, if_neg c1]
      by_cases c2 : k = 2
      · rw [if_pos c2, if_pos c2, e]
        by_cases d1 : t.toList = ([] : List UInt8)
        · rw [if_pos d1]
          by_cases d2 : n ≥ -999999
          · have d2' : -999999 ≤ n := d2
            rw [if_pos d2]
            by_cases d3 : n ≤ 999999
            · rw [if_pos d3]; simp [d1, d2', d3]
            · rw [if_neg d3]; simp [d3]
          · have d2' : ¬ -999999 ≤ n := d2
            rw [if_neg d2]; simp [d2']
        · rw [if_neg d1]; simp [d1]
      · rw [if_neg c2, if_neg c2]
        by_cases c3 : k = 3
        · rw [if_pos c3, if_pos c3, e]
          by_cases d1 : (t.size : Int) ≤ 200
          · have d1' : t.size ≤ 200 := by omega
            rw [if_pos d1]
            by_cases d2 : n = 0
            · rw [if_pos d2]; simp [d1', d2]
            · rw [if_neg d2]; simp [d2]
          · have d1' : ¬ t.size ≤ 200 := by omega
            rw [if_neg d1]; simp [d1']
        · rw [if_neg c3, if_neg c3]

theorem right_ev : ∀ (n : Nat) (a0 : Int) (a1 : ByteArray) (a2 : Int) (l : List S33), cntEL l < n → GE l → ∀ (m d : Int), 0 ≤ m → m ≤ 400 → 1 ≤ d → d ≤ 21 →
    EvP (fun k => note_looks_right.f k m a0 a1 a2 l d) (fun r => (0 ≤ r.2 ∧ r.2 ≤ 401) ∧ (r.1 = true ↔ (oneB a0 a1 a2 l.length = true ∧ rightEL l = true ∧ m + 1 + cntEL l ≤ 400 ∧ d + dpEL l ≤ 20)) ∧ (r.1 = true → r.2 = m + 1 + cntEL l))
  | 0, _, _, _, _, h, _, _, _, _, _, _, _ => by omega
  | n + 1, a0, a1, a2, l, hn, hg, m, d, hm0, hm1, hd0, hd1 => by
    refine EvP.step (fun k => by rw [note_looks_right.f]) ?_
    rw [w64 (x := m + 1) (by omega) (by omega)]
    refine EvP.ite (fun c => ?_) (fun c => ?_)
    · refine EvP.step (fun k => by rw [note_looks_right.j0]) (EvP.pos rfl (EvP.ret ⟨⟨by omega, by omega⟩, ⟨fun h => (by cases h), fun h => by omega⟩, fun h => (by cases h)⟩))
    refine EvP.ite (fun c' => ?_) (fun c' => ?_)
    · refine EvP.step (fun k => by rw [note_looks_right.j0]) (EvP.pos rfl (EvP.ret ⟨⟨by omega, by omega⟩, ⟨fun h => (by cases h), fun h => by omega⟩, fun h => (by cases h)⟩))
    refine EvP.bindv (oneP a0 a1 a2 l) ?_
    refine EvP.step (fun k => by rw [note_looks_right.j0]) ?_
    refine EvP.ite (fun c1 => EvP.ret ⟨⟨by omega, by omega⟩, ⟨fun h => (by cases h), fun h => by simp [h.1] at c1⟩, fun h => (by cases h)⟩) (fun c1 => ?_)
    have h1 : oneB a0 a1 a2 l.length = true := by simpa using c1
    refine EvP.up (L := fun k i (s : Int) => note_looks_right.l0 k d l (l.length : Int) i s) (fun i s => 0 ≤ i ∧ 0 ≤ s ∧ s ≤ 400 ∧ rightEL l = rightEL (l.drop i.toNat) ∧ m + 1 + cntEL l = s + cntEL (l.drop i.toNat) ∧ (d + dpEL l ≤ 20 ↔ d + dpEL (l.drop i.toNat) ≤ 20)) l.length ?_ 0 (m + 1) (by omega) ⟨by omega, by omega, by omega, by simp, by simp, by simp⟩
    intro i s hi hin ih
    obtain ⟨i0, hs0, hs1, e1, e2, e3⟩ := hi
    refine EvP.step (fun k => by rw [note_looks_right.l0]) ?_
    refine EvP.ite (fun c2 => ?_) (fun c2 => ?_)
    · refine EvP.pos i0 (EvP.pos c2 ?_)
      have hm := rd_mem33 l i i0 c2
      obtain ⟨_, k1, _, k3⟩ := hg.kids hm
      have hlen := hg.1
      have hk := cntE_kid l i i0 c2
      have f1 := rightEL_drop l i i0 c2
      have f2 := cntEL_drop l i i0 c2
      have f3 := dpEL_drop l i i0 c2
      rw [f1, rightE_kids] at e1
      rw [f2] at e2
      rw [f3] at e3
      rw [w64 (x := d + 1) (by omega) (by omega)]
      refine EvP.bind (right_ev n _ _ _ (rd_T33 l i).f3 (by omega) k3 s (d + 1) (by omega) (by omega) (by omega) (by omega)) (fun r hr => ?_)
      obtain ⟨⟨r0, r1⟩, r2, r3⟩ := hr
      refine EvP.ite (fun c3 => ?_) (fun c3 => ?_)
      · rw [w64 (x := i + 1) (by omega) (by omega)]
        obtain ⟨g0, g1, g2, g3⟩ := r2.1 c3
        have g4 := r3 c3
        refine ih r.2 c2 ⟨by omega, r0, by omega, ?_, by omega, ?_⟩
        · rw [e1, g0, g1]
          simp
        · rw [e3]
          omega
      · refine EvP.ret ⟨⟨r0, r1⟩, ⟨fun h => (by cases h), fun h => ?_⟩, fun h => (by cases h)⟩
        obtain ⟨h1, h2, h3, h4⟩ := h
        have h5 := e1.symm.trans h2
        simp only [Bool.and_eq_true] at h5
        have h6 := e3.1 h4
        exact absurd (r2.2 ⟨h5.1.1, h5.1.2, by omega, by omega⟩) c3
    · have e : l.drop i.toNat = [] := drop_none33 l i i0 c2
      rw [e] at e1 e2 e3
      simp only [rightEL, cntEL, dpEL] at e1 e2 e3
      refine EvP.ret ⟨⟨hs0, by omega⟩, ⟨fun _ => ⟨h1, e1, by omega, e3.2 (by omega)⟩, fun _ => rfl⟩, fun _ => by show s = _; omega⟩
def validB (a0 : Int) (a1 : ByteArray) (a2 : Int) (l : List S33) : Bool := oneB a0 a1 a2 l.length && rightEL l && decide (1 + cntEL l ≤ 400) && decide (1 + dpEL l ≤ 20)
theorem validE_ev (a0 : Int) (a1 : ByteArray) (a2 : Int) (l : List S33) (hg : GE l) : EvP (fun k => note_Valid.f k a0 a1 a2 l) (· = validB a0 a1 a2 l) := by
  refine EvP.bind (right_ev (cntEL l + 1) a0 a1 a2 l (by omega) hg 0 1 (by omega) (by omega) (by omega) (by omega)) (fun r hr => EvP.ret ?_)
  obtain ⟨_, h, _⟩ := hr
  show r.1 = _
  rw [Bool.eq_iff_iff, h]
  unfold validB
  simp only [Bool.and_eq_true, decide_eq_true_eq]
  constructor
  · rintro ⟨a, b, c, d⟩; exact ⟨⟨⟨a, b⟩, by omega⟩, by omega⟩
  · rintro ⟨⟨⟨a, b⟩, c⟩, d⟩; exact ⟨a, b, by omega, by omega⟩

def escU : List UInt8 → List UInt8
  | [] => []
  | c :: cs => (if c.toNat = 34 then [92, c] else if c.toNat = 92 then [92, c] else [c]) ++ escU cs
mutual
def txE : S33 → List UInt8
  | ⟨k, t, n, ks⟩ => if k = 0 then 40 :: (txR false ks ++ [41]) else if k = 1 then t.data.toList else if k = 2 then itz n else 34 :: (escU t.data.toList ++ [34])
def txR (b : Bool) : List S33 → List UInt8
  | [] => []
  | x :: xs => (if b then [32] else []) ++ (txE x ++ txR true xs)
end
theorem txE_eta (x : S33) : txE x = txE ⟨x.f0, x.f1, x.f2, x.f3⟩ := by cases x; rfl
theorem escU_len : ∀ l : List UInt8, (escU l).length ≤ 2 * l.length
  | [] => by simp [escU]
  | c :: cs => by
    have := escU_len cs
    simp only [escU, List.length_append, List.length_cons]
    split
    · simp; omega
    · split <;> simp <;> omega
theorem dd_len : ∀ (k u : Nat), u < 10 ^ (k + 1) → (Go.Lib.decDigits u).length ≤ k + 1
  | 0, u, h => by rw [Go.Lib.decDigits, dif_pos (by omega)]; simp
  | k + 1, u, h => by
    rw [Go.Lib.decDigits]
    by_cases c : u < 10
    · rw [dif_pos c]; simp
    · rw [dif_neg c]
      have h' : u < 10 ^ (k + 1) * 10 := by rw [← Nat.pow_succ]; exact h
      have := dd_len k (u / 10) (by omega)
      simp; omega
theorem itz_len (n : Int) (h0 : -999999 ≤ n) (h1 : n ≤ 999999) : (itz n).length ≤ 21 := by
  rw [itz_eq, Go.Lib.itoa]
  by_cases c : n < 0
  · rw [if_pos c]
    have := dd_len 5 n.natAbs (by omega)
    simp; omega
  · rw [if_neg c]
    have := dd_len 5 n.toNat (by omega)
    omega
theorem oneB_zero {t : ByteArray} {n : Int} {m : Nat} (h : oneB 0 t n m = true) : t = ⟨#[]⟩ ∧ n = 0 := by
  unfold oneB at h
  rw [if_pos rfl] at h
  simp only [Bool.and_eq_true, decide_eq_true_eq] at h
  refine ⟨?_, h.2⟩
  have h1 := (toList_nil t).1 h.1
  cases t with
  | mk d =>
    have : d.size = 0 := h1
    rw [Array.eq_empty_of_size_eq_zero this]
theorem oneB_one {t : ByteArray} {n : Int} {m : Nat} (h : oneB 1 t n m = true) : nameB t = true ∧ n = 0 ∧ m = 0 := by
  unfold oneB at h
  rw [if_neg (by decide), if_pos rfl] at h
  simp only [Bool.and_eq_true, decide_eq_true_eq] at h
  exact ⟨h.1.1, h.1.2, h.2⟩
theorem oneB_two {t : ByteArray} {n : Int} {m : Nat} (h : oneB 2 t n m = true) : t = ⟨#[]⟩ ∧ (-999999 ≤ n ∧ n ≤ 999999) ∧ m = 0 := by
  unfold oneB at h
  rw [if_neg (by decide), if_neg (by decide), if_pos rfl] at h
  simp only [Bool.and_eq_true, decide_eq_true_eq] at h
  refine ⟨?_, ⟨h.1.1.2, h.1.2⟩, h.2⟩
  have h1 := (toList_nil t).1 h.1.1.1
  cases t with
  | mk d =>
    have : d.size = 0 := h1
    rw [Array.eq_empty_of_size_eq_zero this]
theorem oneB_kind {k : Int} {t : ByteArray} {n : Int} {m : Nat} (h : oneB k t n m = true) : k = 0 ∨ k = 1 ∨ k = 2 ∨ (k = 3 ∧ t.size ≤ 200 ∧ n = 0 ∧ m = 0) := by
  by_cases c0 : k = 0
  · exact .inl c0
  by_cases c1 : k = 1
  · exact .inr (.inl c1)
  by_cases c2 : k = 2
  · exact .inr (.inr (.inl c2))
  unfold oneB at h
  rw [if_neg c0, if_neg c1, if_neg c2] at h
  by_cases c3 : k = 3
  · rw [if_pos c3] at h
    simp only [Bool.and_eq_true, decide_eq_true_eq] at h
    exact .inr (.inr (.inr ⟨c3, h.1.1, h.1.2, h.2⟩))
  · rw [if_neg c3] at h; cases h
theorem nameB_len {t : ByteArray} (h : nameB t = true) : 1 ≤ t.size ∧ t.size ≤ 30 := by
  unfold nameB at h
  simp only [Bool.and_eq_true, decide_eq_true_eq] at h
  exact ⟨h.1.1.1.1, h.1.1.1.2⟩
mutual
theorem txE_len : ∀ x : S33, rightE x = true → (txE x).length + 1 ≤ 410 * cntE x
  | ⟨k, t, n, ks⟩, h => by
    simp only [rightE, Bool.and_eq_true] at h
    have h1 := txR_len false ks h.2
    simp only [cntE, txE]
    rcases oneB_kind h.1 with rfl | rfl | rfl | ⟨rfl, h3, _, _⟩
    · rw [if_pos rfl]; simp; omega
    · have := nameB_len (oneB_one h.1).1
      rw [if_neg (by decide), if_pos rfl]; simp; omega
    · have h5 := oneB_two h.1
      have := itz_len n (by omega) (by omega)
      rw [if_neg (by decide), if_neg (by decide), if_pos rfl]; omega
    · have := escU_len t.data.toList
      have e : t.data.toList.length = t.size := by simp
      rw [if_neg (by decide), if_neg (by decide), if_neg (by decide)]
      simp only [List.length_cons, List.length_append, List.length_nil]
      omega
theorem txR_len : ∀ (b : Bool) (l : List S33), rightEL l = true → (txR b l).length ≤ 410 * cntEL l
  | b, [], _ => by simp [txR]
  | b, x :: xs, h => by
    simp only [rightEL, Bool.and_eq_true] at h
    have h1 := txE_len x h.1
    have h2 := txR_len true xs h.2
    simp only [txR, cntEL]
    cases b <;> simp <;> omega
end
theorem bt_byte (s : ByteArray) (i : Int) (h0 : 0 ≤ i) (h1 : i < s.size) : ∃ c : UInt8, bt s i = (c.toNat : Int) ∧ s.data.toList.drop i.toNat = c :: s.data.toList.drop (i + 1).toNat := by
  have hl : i.toNat < s.data.toList.length := by simp; omega
  have hb : bt s i = ((s.data.toList[i.toNat]'hl).toNat : Int) := by
    have hs : i.toNat < s.size := by omega
    unfold bt
    rw [dif_pos hs]
    rfl
  refine ⟨s.data.toList[i.toNat]'hl, hb, ?_⟩
  rw [show (i + 1).toNat = i.toNat + 1 by omega, List.drop_eq_getElem_cons hl]
theorem ofNat_byte (c : UInt8) : UInt8.ofNat ((c.toNat : Int)).toNat = c := by simp
theorem drop_noneB (s : ByteArray) (i : Int) (h0 : 0 ≤ i) (h1 : ¬ i < s.size) : s.data.toList.drop i.toNat = [] := List.drop_eq_nil_of_le (by simp; omega)
theorem q0_ev (s : ByteArray) (hs : s.size ≤ 200) (bs : List UInt8) (hb : bs.length ≤ 1000000000) :
    EvP (fun k => note_format.q0 k bs s 0) (· = bs ++ (escU s.data.toList ++ [34])) := by
  refine EvP.up (L := fun k i (o : List UInt8) => note_format.q0 k o s i) (fun i o => 0 ≤ i ∧ o.length ≤ 1000000000 + 2 * i.toNat ∧ o ++ (escU (s.data.toList.drop i.toNat) ++ [34]) = bs ++ (escU s.data.toList ++ [34])) s.size ?_ 0 bs (by omega) ⟨by omega, by omega, by simp⟩
  intro i o hi hin ih
  obtain ⟨i0, h1, h2⟩ := hi
  refine EvP.step (fun k => by rw [note_format.q0]) ?_
  refine EvP.ite (fun c => ?_) (fun c => ?_)
  · obtain ⟨b, e1, e2⟩ := bt_byte s i i0 c
    rw [e2, escU] at h2
    refine EvP.pos i0 (EvP.pos (by omega) ?_)
    rw [w64 (x := i + 1) (by omega) (by omega), e1, ofNat_byte]
    refine EvP.ite (fun d => ?_) (fun d => EvP.ite (fun d' => ?_) (fun d' => ?_))
    · refine ih _ c ⟨by omega, by simp; omega, ?_⟩
      rw [if_pos (by omega)] at h2
      rw [← h2]; simp
    · refine ih _ c ⟨by omega, by simp; omega, ?_⟩
      rw [if_neg (by omega), if_pos (by omega)] at h2
      rw [← h2]; simp
    · refine ih _ c ⟨by omega, by simp; omega, ?_⟩
      rw [if_neg (by omega), if_neg (by omega)] at h2
      rw [← h2]; simp
  · rw [drop_noneB s i i0 c] at h2
    refine EvP.pos (by omega) (EvP.ret ?_)
    rw [← h2]; simp [escU]
theorem itoaP (n : Int) (h0 : -999999 ≤ n) (h1 : n ≤ 999999) : strconv_Itoa_79.f n = some ⟨(itz n).toArray⟩ := by
  unfold strconv_Itoa_79.f
  rw [if_pos (by omega), if_pos (by omega)]
theorem fmt_ev : ∀ (n : Nat) (a0 : Int) (a1 : ByteArray) (a2 : Int) (l : List S33) (bs : List UInt8), cntEL l < n → GE l → oneB a0 a1 a2 l.length = true → rightEL l = true → bs.length + 410 * (1 + cntEL l) ≤ 1000000 →
    EvP (fun k => note_format.f k bs a0 a1 a2 l) (· = bs ++ txE ⟨a0, a1, a2, l⟩)
  | 0, _, _, _, _, _, h, _, _, _, _ => by omega
  | n + 1, a0, a1, a2, l, bs, hn, hg, ho, hr, hb => by
    refine EvP.step (fun k => by rw [note_format.f]) ?_
    rw [txE]
    refine EvP.ite (fun c => ?_) (fun c => EvP.ite (fun c1 => ?_) (fun c1 => EvP.ite (fun c2 => ?_) (fun c2 => ?_)))
    · rw [if_pos c]
      refine EvP.pos (by omega) ?_
      have hlen := hg.1
      refine EvP.up (L := fun k i (o : List UInt8) => note_format.l0 k o l i) (fun i o => 0 ≤ i ∧ o.length + 410 * cntEL (l.drop i.toNat) ≤ 1000000 - 409 ∧ rightEL (l.drop i.toNat) = true ∧ o ++ (txR (decide (i > 0)) (l.drop i.toNat) ++ [41]) = bs ++ (40 :: (txR false l ++ [41]))) l.length ?_ 0 (bs ++ [40]) (by omega) ⟨by omega, by simp; omega, by simpa using hr, by simp⟩
      intro i o hi hin ih
      obtain ⟨i0, h1, h2, h3⟩ := hi
      refine EvP.step (fun k => by rw [note_format.l0]) ?_
      refine EvP.ite (fun d => ?_) (fun d => ?_)
      · have hm := rd_mem33 l i i0 d
        obtain ⟨_, k1, _, k3⟩ := hg.kids hm
        have hk := cntE_kid l i i0 d
        have f2 := cntEL_drop l i i0 d
        rw [rightEL_drop l i i0 d, rightE_kids] at h2
        simp only [Bool.and_eq_true] at h2
        obtain ⟨⟨g1, g2⟩, g3⟩ := h2
        rw [drop_rd33 l i i0 d, txR] at h3
        have hl : (txE (rd_T33 l i)).length + 1 ≤ 410 * cntE (rd_T33 l i) := txE_len _ (by rw [rightE_kids, g1, g2]; rfl)
        rw [cntE_kids] at hl
        refine EvP.pos i0 ?_
        rw [w64 (x := i + 1) (by omega) (by omega)]
        have hp : decide (i + 1 > 0) = true := by simp; omega
        refine EvP.ite (fun c1 => ?_) (fun c1 => ?_)
        · refine EvP.pos (by omega) ?_
          refine EvP.bind (fmt_ev n _ _ _ _ (o ++ [32]) (by omega) k3 g1 g2 (by simp; omega)) (fun r hr => ?_)
          subst hr
          rw [← txE_eta]
          refine ih _ d ⟨by omega, by simp; omega, g3, ?_⟩
          rw [hp, ← h3]
          simp [c1]
        · refine EvP.bind (fmt_ev n _ _ _ _ o (by omega) k3 g1 g2 (by omega)) (fun r hr => ?_)
          subst hr
          rw [← txE_eta]
          refine ih _ d ⟨by omega, by simp; omega, g3, ?_⟩
          rw [hp, ← h3]
          simp [c1]
      · rw [drop_none33 l i i0 d] at h3 h1
        simp only [txR, cntEL] at h3 h1
        refine EvP.pos (by omega) (EvP.ret ?_)
        rw [← h3]; simp
    · subst c1
      have := oneB_two ho
      rw [if_neg (by decide), if_neg (by decide), if_pos rfl]
      have hz := itz_len a2 (by omega) (by omega)
      refine EvP.bindv (itoaP a2 (by omega) (by omega)) ?_
      have e : (⟨(itz a2).toArray⟩ : ByteArray).size = (itz a2).length := by simp [ByteArray.size]
      refine EvP.pos (by rw [e]; omega) (EvP.ret ?_)
      simp
    · subst c2
      have := nameB_len (oneB_one ho).1
      have e : (if (1 : Int) = 0 then 40 :: (txR false l ++ [41]) else if (1 : Int) = 1 then a1.data.toList else if (1 : Int) = 2 then itz a2 else 34 :: (escU a1.data.toList ++ [34])) = a1.data.toList := by rw [if_neg (by decide), if_pos rfl]
      rw [e]
      exact EvP.pos (by omega) (EvP.ret rfl)
    · rw [if_neg c, if_neg c2, if_neg c1]
      have h3 : a1.size ≤ 200 := by
        rcases oneB_kind ho with h | h | h | h
        · exact absurd h c
        · exact absurd h c2
        · exact absurd h c1
        · exact h.2.1
      refine EvP.pos (by omega) ?_
      refine (q0_ev a1 h3 (bs ++ [34]) (by simp; omega)).mono ?_
      rintro r rfl
      simp
def tx (a0 : Int) (a1 : ByteArray) (a2 : Int) (l : List S33) : ByteArray := ⟨(txE ⟨a0, a1, a2, l⟩).toArray⟩
theorem ba_eta (s : ByteArray) : s = ⟨s.data.toList.toArray⟩ := by cases s; simp
theorem ba_ext {s t : ByteArray} (h : s.data.toList = t.data.toList) : s = t := by rw [ba_eta s, h, ← ba_eta]
theorem ba_app (s t : ByteArray) : (s ++ t).data.toList = s.data.toList ++ t.data.toList := by simp
theorem format_ev (a0 : Int) (a1 : ByteArray) (a2 : Int) (l : List S33) (hg : GE l) : EvP (fun k => note_Format.f k a0 a1 a2 l) (· = if validB a0 a1 a2 l = true then (tx a0 a1 a2 l, 0) else ((⟨#[]⟩ : ByteArray), 95)) := by
  refine EvP.bind (validE_ev a0 a1 a2 l hg) (fun v hv => ?_)
  subst hv
  refine EvP.ite (fun c => ?_) (fun c => ?_)
  · have h := c
    unfold validB at h
    simp only [Bool.and_eq_true, decide_eq_true_eq] at h
    rw [if_pos c]
    refine EvP.bind (fmt_ev (cntEL l + 1) a0 a1 a2 l [] (by omega) hg h.1.1.1 h.1.1.2 (by simp; omega)) (fun r hr => EvP.ret ?_)
    subst hr
    rfl
  · rw [if_neg c]
    exact EvP.ret rfl

def spU (c : UInt8) : Bool := decide (c.toNat = 32) || decide (c.toNat = 9) || decide (c.toNat = 10)
theorem sp_ix : ∀ c : UInt8, decide (Go.Lib.indexByte [32, 9, 10] c ≥ 0) = spU c := by
  have h : ∀ n : Fin 256, decide (Go.Lib.indexByte [32, 9, 10] (UInt8.ofNat n.val) ≥ 0) = spU (UInt8.ofNat n.val) := by decide +kernel
  intro c
  have := h ⟨c.toNat, c.toNat_lt⟩
  simpa using this
theorem let_ix : ∀ c : UInt8, decide (Go.Lib.indexByte letU c ≥ 0) = wordU c := by
  have h : ∀ n : Fin 256, decide (Go.Lib.indexByte letU (UInt8.ofNat n.val) ≥ 0) = wordU (UInt8.ofNat n.val) := by decide +kernel
  intro c
  have := h ⟨c.toNat, c.toNat_lt⟩
  simpa using this
theorem ix_val (l : List UInt8) (c : UInt8) : strings_IndexByte.f ⟨l.toArray⟩ (c.toNat : Int) = some (Go.Lib.indexByte l c) := by
  unfold strings_IndexByte.f
  simp
def At (s : ByteArray) (p : Int) (L : List UInt8) : Prop := 0 ≤ p ∧ p ≤ s.size ∧ s.data.toList.drop p.toNat = L
theorem At.cons {s : ByteArray} {p : Int} {c : UInt8} {L : List UInt8} (h : At s p (c :: L)) : p < s.size ∧ bt s p = (c.toNat : Int) ∧ At s (p + 1) L := by
  obtain ⟨h0, h1, h2⟩ := h
  have hp : p < s.size := by
    by_cases c1 : p < s.size
    · exact c1
    · rw [drop_noneB s p h0 c1] at h2; cases h2
  obtain ⟨b, e1, e2⟩ := bt_byte s p h0 hp
  rw [e2] at h2
  injection h2 with h3 h4
  subst h3
  exact ⟨hp, e1, by omega, by omega, h4⟩
theorem At.nil {s : ByteArray} {p : Int} (h : At s p []) : p = s.size := by
  obtain ⟨h0, h1, h2⟩ := h
  have := congrArg List.length h2
  simp at this
  omega
theorem At.app {s : ByteArray} : ∀ {w : List UInt8} {p : Int} {L : List UInt8}, At s p (w ++ L) → At s (p + w.length) L
  | [], p, L, h => by simpa using h
  | c :: w, p, L, h => by
    have h1 := (At.cons (show At s p (c :: (w ++ L)) from h)).2.2
    have h2 := At.app h1
    have e : p + 1 + (w.length : Int) = p + ((c :: w).length : Nat) := by simp; omega
    rw [← e]; exact h2
theorem At.le {s : ByteArray} {p : Int} {L : List UInt8} (h : At s p L) : p + L.length = s.size := by
  have := At.app (L := []) (w := L) (by simpa using h)
  exact this.nil
/-- What stands behind an expression. -/
def Post (L : List UInt8) : Prop := ∀ c L', L = c :: L' → c.toNat = 32 ∨ c.toNat = 41
def NoSp (L : List UInt8) : Prop := ∀ c L', L = c :: L' → spU c = false
theorem spaces0 (s : ByteArray) (hs : s.size ≤ 20000) (p : Int) (L : List UInt8) (h : At s p L) (hn : NoSp L) : EvP (fun k => note_parser_spaces.f k s p) (· = p) := by
  refine EvP.step (fun k => by rw [note_parser_spaces.f]) ?_
  cases L with
  | nil =>
    have := h.nil
    exact EvP.neg (by omega) (EvP.ret rfl)
  | cons c L' =>
    obtain ⟨h1, h2, h3⟩ := h.cons
    refine EvP.pos h1 (EvP.pos h.1 ?_)
    rw [h2, ix_val]
    have e := sp_ix c
    rw [hn c L' rfl] at e
    exact EvP.neg (by simpa using e) (EvP.ret rfl)
theorem spaces1 (s : ByteArray) (hs : s.size ≤ 20000) (p : Int) (L : List UInt8) (h : At s p (32 :: L)) (hn : NoSp L) : EvP (fun k => note_parser_spaces.f k s p) (· = p + 1) := by
  obtain ⟨h1, h2, h3⟩ := h.cons
  refine EvP.step (fun k => by rw [note_parser_spaces.f]) ?_
  refine EvP.pos h1 (EvP.pos h.1 ?_)
  rw [h2, ix_val]
  have := h.1
  refine EvP.bindv rfl (EvP.pos (show Go.Lib.indexByte [32, 9, 10] 32 ≥ 0 by decide) ?_)
  rw [w64 (x := p + 1) (by omega) (by omega)]
  exact spaces0 s hs (p + 1) L h3 hn
theorem scan_ev (s : ByteArray) (hs : s.size ≤ 20000) (post : List UInt8) (hp : Post post) : ∀ (w : List UInt8) (p : Int), At s p (w ++ post) → w.all wordU = true → EvP (fun k => note_parser_scan.f k s p) (· = p + w.length)
  | [], p, h, _ => by
    refine EvP.step (fun k => by rw [note_parser_scan.f]) ?_
    have h : At s p post := h
    cases post with
    | nil =>
      have := h.nil
      exact EvP.neg (by omega) (EvP.ret (by simp))
    | cons c L' =>
      obtain ⟨h1, h2, h3⟩ := h.cons
      refine EvP.pos h1 (EvP.pos h.1 ?_)
      rw [h2, show (⟨#[97, 98, 99, 100, 101, 102, 103, 104, 105, 106, 107, 108, 109, 110, 111, 112, 113, 114, 115, 116, 117, 118, 119, 120, 121, 122, 48, 49, 50, 51, 52, 53, 54, 55, 56, 57, 45]⟩ : ByteArray) = ⟨letU.toArray⟩ from rfl, ix_val]
      have e := let_ix c
      have hw : wordU c = false := by
        unfold wordU
        rcases hp c L' rfl with h | h <;> simp [h]
      rw [hw] at e
      exact EvP.neg (by simpa using e) (EvP.ret (by simp))
  | c :: w, p, h, ha => by
    refine EvP.step (fun k => by rw [note_parser_scan.f]) ?_
    have h' : At s p (c :: (w ++ post)) := h
    obtain ⟨h1, h2, h3⟩ := h'.cons
    rw [List.all_cons, Bool.and_eq_true] at ha
    refine EvP.pos h1 (EvP.pos h.1 ?_)
    rw [h2, show (⟨#[97, 98, 99, 100, 101, 102, 103, 104, 105, 106, 107, 108, 109, 110, 111, 112, 113, 114, 115, 116, 117, 118, 119, 120, 121, 122, 48, 49, 50, 51, 52, 53, 54, 55, 56, 57, 45]⟩ : ByteArray) = ⟨letU.toArray⟩ from rfl, ix_val]
    have e := let_ix c
    rw [ha.1] at e
    have := h.1
    refine EvP.pos (by simpa using e) ?_
    rw [w64 (x := p + 1) (by omega) (by omega)]
    refine (scan_ev s hs post hp w (p + 1) h3 ha.2).mono ?_
    rintro r rfl
    simp
    omega
theorem cut_at {s : ByteArray} {p : Int} {w post : List UInt8} (h : At s p (w ++ post)) : s.extract p.toNat (p + w.length).toNat = ⟨w.toArray⟩ := by
  have h0 := h.1
  rw [Go.Lib.extract_eq, h.2.2, show (p + (w.length : Int)).toNat - p.toNat = w.length by omega, List.take_left' rfl]
theorem wname_ev (s : ByteArray) (hs : s.size ≤ 20000) (post : List UInt8) (hp : Post post) (t : ByteArray) (ht : nameB t = true) (p : Int) (h : At s p (t.data.toList ++ post)) :
    EvP (fun k => note_parser_word.f k s p) (· = (1, t, 0, true, p + t.data.toList.length)) := by
  unfold note_parser_word.f
  have ha : t.data.toList.all wordU = true := by
    unfold nameB at ht
    simp only [Bool.and_eq_true] at ht
    exact ht.2
  refine EvP.bind (scan_ev s hs post hp _ p h ha) (fun j hj => ?_)
  subst hj
  have hl := h.app.2.1
  refine EvP.pos ⟨h.1, by omega, hl, by omega⟩ ?_
  rw [cut_at h, ← ba_eta]
  exact EvP.bindv (nameP t) (EvP.pos ht (EvP.ret rfl))
theorem dd_word : ∀ (n u : Nat), u < n → (Go.Lib.decDigits u).all (fun c => decide (48 ≤ c.toNat) && decide (c.toNat ≤ 57)) = true ∧ Go.Lib.decDigits u ≠ []
  | 0, _, h => by omega
  | n + 1, u, h => by
    have key : ∀ d : Nat, d < 10 → (UInt8.ofNat (48 + d)).toNat = 48 + d := by
      intro d hd
      simp; omega
    rw [Go.Lib.decDigits]
    by_cases c : u < 10
    · rw [dif_pos c]
      have := key u c
      simp only [List.all_cons, List.all_nil, this]
      simp; omega
    · rw [dif_neg c]
      have ih := dd_word n (u / 10) (by omega)
      have := key (u % 10) (by omega)
      rw [List.all_append, ih.1]
      simp only [List.all_cons, List.all_nil, this]
      simp; omega
theorem dd_parse : ∀ (n u : Nat) (r : List UInt8), u < n → u < 1000000000 → Go.Lib.parseUint10 0 (Go.Lib.decDigits u ++ r) = Go.Lib.parseUint10 u r
  | 0, _, _, h, _ => by omega
  | n + 1, u, r, h, hu => by
    have key : ∀ d : Nat, d < 10 → (UInt8.ofNat (48 + d)).toNat = 48 + d := by
      intro d hd
      simp; omega
    rw [Go.Lib.decDigits]
    by_cases c : u < 10
    · rw [dif_pos c]
      have e := key u c
      show Go.Lib.parseUint10 0 (UInt8.ofNat (48 + u) :: r) = _
      rw [Go.Lib.parseUint10, e, if_pos (by omega), if_neg (by omega), if_neg (by omega)]
      congr 1
      omega
    · rw [dif_neg c, List.append_assoc, dd_parse n (u / 10) _ (by omega) (by omega)]
      have e := key (u % 10) (by omega)
      show Go.Lib.parseUint10 (u / 10) (UInt8.ofNat (48 + u % 10) :: r) = _
      rw [Go.Lib.parseUint10, e, if_pos (by omega), if_neg (by omega), if_neg (by omega)]
      congr 1
      omega
theorem dd_mag (u : Nat) (hu : u < 1000000000) : Go.Lib.parseMag (Go.Lib.decDigits u) = .ok u := by
  unfold Go.Lib.parseMag
  rw [if_neg (dd_word (u + 1) u (by omega)).2]
  have := dd_parse (u + 1) u [] (by omega) hu
  rw [List.append_nil] at this
  rw [this, Go.Lib.parseUint10]
theorem atoi_itz (n : Int) (h0 : -999999 ≤ n) (h1 : n ≤ 999999) : Go.Lib.atoiAll (itz n) = .ok n := by
  rw [itz_eq, Go.Lib.itoa]
  by_cases c : n < 0
  · rw [if_pos c, Go.Lib.atoiAll]
    simp only [show (45 : UInt8).toNat = 45 from rfl, or_true, if_true, dd_mag n.natAbs (by omega), not_true, false_and, if_false, true_and]
    rw [if_neg (by omega)]
    congr 1
    omega
  · rw [if_neg c]
    have hw := dd_word (n.toNat + 1) n.toNat (by omega)
    cases hd : Go.Lib.decDigits n.toNat with
    | nil => exact absurd hd hw.2
    | cons x xs =>
      rw [hd, List.all_cons, Bool.and_eq_true, Bool.and_eq_true] at hw
      simp only [decide_eq_true_eq] at hw
      have hx := hw.1.1
      rw [Go.Lib.atoiAll]
      have e := dd_mag n.toNat (by omega)
      rw [hd] at e
      rw [if_neg (by omega)]
      simp only [e, show ¬ x.toNat = 45 from by omega, not_false_eq_true, true_and, false_and, if_false]
      rw [if_neg (by omega)]
      congr 1
      omega
theorem itz_word (n : Int) : (itz n).all wordU = true ∧ ∃ c r, itz n = c :: r ∧ c.toNat ≤ 57 ∧ 45 ≤ c.toNat := by
  rw [itz_eq, Go.Lib.itoa]
  have dw : ∀ u, (Go.Lib.decDigits u).all wordU = true := by
    intro u
    refine List.all_eq_true.2 (fun c hc => ?_)
    have := List.all_eq_true.1 (dd_word (u + 1) u (by omega)).1 c hc
    unfold wordU
    simp only [Bool.and_eq_true, decide_eq_true_eq] at this
    simp [this]
  by_cases c : n < 0
  · rw [if_pos c]
    refine ⟨?_, 45, _, rfl, by decide, by decide⟩
    rw [List.all_cons, dw]
    decide
  · rw [if_neg c]
    refine ⟨dw _, ?_⟩
    have hw := dd_word (n.toNat + 1) n.toNat (by omega)
    cases hd : Go.Lib.decDigits n.toNat with
    | nil => exact absurd hd hw.2
    | cons x xs =>
      rw [hd, List.all_cons, Bool.and_eq_true, Bool.and_eq_true] at hw
      simp only [decide_eq_true_eq] at hw
      exact ⟨x, xs, rfl, by omega, by omega⟩
theorem wnum_ev (s : ByteArray) (hs : s.size ≤ 20000) (post : List UInt8) (hp : Post post) (n : Int) (h0 : -999999 ≤ n) (h1 : n ≤ 999999) (p : Int) (h : At s p (itz n ++ post)) :
    EvP (fun k => note_parser_word.f k s p) (· = (2, (⟨#[]⟩ : ByteArray), n, true, p + (itz n).length)) := by
  unfold note_parser_word.f
  refine EvP.bind (scan_ev s hs post hp _ p h (itz_word n).1) (fun j hj => ?_)
  subst hj
  have hl := h.app.2.1
  refine EvP.pos ⟨h.1, by omega, hl, by omega⟩ ?_
  rw [cut_at h]
  have hb : nameB ⟨(itz n).toArray⟩ = false := by
    obtain ⟨_, c, r, e, hc, _⟩ := itz_word n
    rw [e]
    have : bt ⟨(c :: r).toArray⟩ 0 = (c.toNat : Int) := rfl
    unfold nameB
    have h2 : ¬ (97 : Int) ≤ bt ⟨(c :: r).toArray⟩ 0 := by rw [this]; omega
    simp [h2]
  have ea : atoiR ⟨(itz n).toArray⟩ = (n, true) := by
    unfold atoiR
    have e : (⟨(itz n).toArray⟩ : ByteArray).data.toList = itz n := rfl
    rw [e, atoi_itz n h0 h1]
  refine EvP.bindv (nameP _) (EvP.neg (by rw [hb]; decide) (EvP.ret ?_))
  rw [ea]
  simp [h0, h1]
theorem quoted_ev (s : ByteArray) (hs : s.size ≤ 20000) (post : List UInt8) : ∀ (t : List UInt8) (o : List Int) (p : Int), o.length + t.length ≤ 200 → At s p (escU t ++ 34 :: post) →
    EvP (fun k => note_parser_quoted.l0 k s o p) (· = (strOfNums (o ++ t.map (fun c => (c.toNat : Int))), true, p + (escU t).length + 1))
  | [], o, p, hl, h => by
    obtain ⟨h1, h2, h3⟩ := (show At s p (34 :: post) from h).cons
    have := h.1
    refine EvP.step (fun k => by rw [note_parser_quoted.l0]) (EvP.pos h1 (EvP.pos h.1 ?_))
    rw [h2, w64 (x := p + 1) (by omega) (by omega)]
    refine EvP.pos rfl (EvP.ret ?_)
    have e : decide ((o.length : Int) ≤ 200) = true := by simp at hl ⊢; omega
    rw [e]
    simp [escU]
  | c :: t, o, p, hl, h => by
    have h0 := h.1
    have fin : ∀ {a b : Int}, a = b → ∀ r : ByteArray × Bool × Int, r = (strOfNums ((o ++ [(c.toNat : Int)]) ++ t.map (fun c => (c.toNat : Int))), true, a) → r = (strOfNums (o ++ (c :: t).map (fun c => (c.toNat : Int))), true, b) := by
      rintro a b rfl r rfl
      simp
    simp only [List.length_cons] at hl
    rw [escU, List.append_assoc] at h
    by_cases d : c.toNat = 34
    · rw [if_pos d] at h
      obtain ⟨h1, h2, h3⟩ := (show At s p (92 :: (c :: (escU t ++ 34 :: post))) from h).cons
      obtain ⟨g1, g2, g3⟩ := h3.cons
      refine EvP.step (fun k => by rw [note_parser_quoted.l0]) (EvP.pos h1 (EvP.pos h0 ?_))
      rw [h2, w64 (x := p + 1) (by omega) (by omega), w64 (x := p + 1 + 1) (by omega) (by omega), g2]
      refine EvP.neg (by decide) (EvP.pos rfl (EvP.neg (by omega) (EvP.pos (by omega) (EvP.pos g1 (EvP.pos (by omega) (EvP.pos (by omega) ?_))))))
      refine (quoted_ev s hs post t (o ++ [(c.toNat : Int)]) (p + 1 + 1) (by simp; omega) g3).mono (fin ?_)
      rw [escU, if_pos d]
      simp; omega
    by_cases d' : c.toNat = 92
    · rw [if_neg d, if_pos d'] at h
      obtain ⟨h1, h2, h3⟩ := (show At s p (92 :: (c :: (escU t ++ 34 :: post))) from h).cons
      obtain ⟨g1, g2, g3⟩ := h3.cons
      refine EvP.step (fun k => by rw [note_parser_quoted.l0]) (EvP.pos h1 (EvP.pos h0 ?_))
      rw [h2, w64 (x := p + 1) (by omega) (by omega), w64 (x := p + 1 + 1) (by omega) (by omega), g2]
      refine EvP.neg (by decide) (EvP.pos rfl (EvP.neg (by omega) (EvP.pos (by omega) (EvP.pos g1 (EvP.neg (by omega) (EvP.pos (by omega) (EvP.pos (by omega) ?_)))))))
      refine (quoted_ev s hs post t (o ++ [(c.toNat : Int)]) (p + 1 + 1) (by simp; omega) g3).mono (fin ?_)
      rw [escU, if_neg d, if_pos d']
      simp; omega
    rw [if_neg d, if_neg d'] at h
    obtain ⟨h1, h2, h3⟩ := (show At s p (c :: (escU t ++ 34 :: post)) from h).cons
    refine EvP.step (fun k => by rw [note_parser_quoted.l0]) (EvP.pos h1 (EvP.pos h0 ?_))
    rw [h2, w64 (x := p + 1) (by omega) (by omega)]
    refine EvP.neg (by omega) (EvP.neg (by omega) (EvP.pos (by omega) ?_))
    refine (quoted_ev s hs post t (o ++ [(c.toNat : Int)]) (p + 1) (by simp; omega) h3).mono (fin ?_)
    rw [escU, if_neg d, if_neg d']
    simp; omega
theorem strOfNums_nat (t : ByteArray) : strOfNums (t.data.toList.map (fun c => (c.toNat : Int))) = t := by
  refine ba_ext ?_
  rw [strOfNums_data, List.map_map]
  conv => rhs; rw [← List.map_id t.data.toList]
  refine List.map_congr_left (fun c _ => ?_)
  simp

abbrev RP := Int × ByteArray × Int × List S33 × Int
def SL (k : Nat) (s : ByteArray) (q : Ps) : Option RP := (note_parser_spaces.f k s q.at_).bind fun i => note_Parse.l0 k s { q with at_ := i }
def endq (at_ : Int) (rs : List (List S33)) (d m : Int) (x0 e : S33) : Ps := match rs with
  | [] => ⟨at_, [], d, m, true, e⟩
  | ks :: r => ⟨at_, (ks ++ [e]) :: r, d, m, false, x0⟩
theorem ends_ok (at_ : Int) (rs : List (List S33)) (d m : Int) (x0 e : S33) (h : rs.length ≤ 20) (hk : ∀ ks r, rs = ks :: r → ks.length ≤ 400) :
    note_parser_ends.f ⟨at_, rs, d, m, false, x0⟩ e = some (endq at_ rs d m x0 e) := by
  cases rs with
  | nil => rfl
  | cons ks r =>
    have h1 := hk ks r rfl
    simp only [List.length_cons] at h
    unfold note_parser_ends.f endq
    dsimp only
    rw [if_pos ⟨by omega, by omega⟩]
theorem endq_at (at_ z : Int) (rs : List (List S33)) (d m : Int) (x0 e : S33) : { endq at_ rs d m x0 e with at_ := z } = endq z rs d m x0 e := by cases rs <;> rfl
theorem endq_at_ (at_ : Int) (rs : List (List S33)) (d m : Int) (x0 e : S33) : (endq at_ rs d m x0 e).at_ = at_ := by cases rs <;> rfl
theorem mx20 {a b : Int} (h : a ≤ 20) (k : b ≤ 20) : mx a b ≤ 20 := by unfold mx; split <;> assumption
theorem go_on {s : ByteArray} {P : RP → Prop} {q q' : Ps} (hq : q.at_ < s.size) (h : EvP (fun k => note_parser_step.f k s q) (· = (true, q'))) (K : EvP (fun k => SL k s q') P) : EvP (fun k => note_Parse.l0 k s q) P := by
  refine EvP.step (fun k => by rw [note_Parse.l0]) (EvP.pos hq (EvP.bind h (fun t ht => ?_)))
  subst ht
  exact EvP.pos rfl K
theorem SL_stay {s : ByteArray} (hs : s.size ≤ 20000) {P : RP → Prop} {q : Ps} {L : List UInt8} (h : At s q.at_ L) (hn : NoSp L) (K : EvP (fun k => note_Parse.l0 k s q) P) : EvP (fun k => SL k s q) P := by
  refine EvP.bind (spaces0 s hs q.at_ L h hn) (fun i hi => ?_)
  subst hi
  exact K
theorem SL_skip {s : ByteArray} (hs : s.size ≤ 20000) {P : RP → Prop} {q : Ps} {L : List UInt8} (h : At s q.at_ (32 :: L)) (hn : NoSp L) (K : EvP (fun k => note_Parse.l0 k s { q with at_ := q.at_ + 1 }) P) : EvP (fun k => SL k s q) P := by
  refine EvP.bind (spaces1 s hs q.at_ L h hn) (fun i hi => ?_)
  subst hi
  exact K
theorem txE_head (x : S33) (h : rightE x = true) (L : List UInt8) : NoSp (txE x ++ L) := by
  obtain ⟨k, t, n, ks⟩ := x
  simp only [rightE, Bool.and_eq_true] at h
  rintro c L' e
  rw [txE] at e
  rcases oneB_kind h.1 with rfl | rfl | rfl | ⟨rfl, _⟩
  · rw [if_pos rfl] at e; injection e with e1 _; subst e1; rfl
  · have hb := (oneB_one h.1).1
    have hl := nameB_len hb
    obtain ⟨b, e1, e2⟩ := bt_byte t 0 (by omega) (by omega)
    rw [if_neg (by decide), if_pos rfl] at e
    have e3 : t.data.toList = b :: t.data.toList.drop (0 + 1 : Int).toNat := by rw [← e2]; rfl
    rw [e3] at e
    injection e with e4 _
    subst e4
    unfold nameB at hb
    simp only [Bool.and_eq_true, decide_eq_true_eq] at hb
    rw [e1] at hb
    have := hb.1.1.2
    unfold spU
    have a1 : ¬ b.toNat = 32 := by omega
    have a2 : ¬ b.toNat = 9 := by omega
    have a3 : ¬ b.toNat = 10 := by omega
    simp [a1, a2, a3]
  · obtain ⟨_, b, r, e2, e3, e4⟩ := itz_word n
    rw [if_neg (by decide), if_neg (by decide), if_pos rfl, e2] at e
    injection e with e5 _
    subst e5
    unfold spU
    have a1 : ¬ b.toNat = 32 := by omega
    have a2 : ¬ b.toNat = 9 := by omega
    have a3 : ¬ b.toNat = 10 := by omega
    simp [a1, a2, a3]
  · rw [if_neg (by decide), if_neg (by decide), if_neg (by decide)] at e; injection e with e1 _; subst e1; rfl
def One (s : ByteArray) (P : RP → Prop) (n : Nat) : Prop := ∀ (x : S33), cntE x ≤ n → rightE x = true → ∀ (p : Int) (rs : List (List S33)) (d m : Int) (x0 : S33) (post : List UInt8), Post post → At s p (txE x ++ post) → rs.length + dpE x ≤ 20 → (∀ ks r, rs = ks :: r → ks.length ≤ 400) → 0 ≤ m → m + cntE x ≤ 400 → d ≤ 20 →
  (∀ d' : Int, d' ≤ 20 → EvP (fun k => SL k s (endq (p + (txE x).length) rs d' (m + cntE x) x0 x)) P) → EvP (fun k => note_Parse.l0 k s ⟨p, rs, d, m, false, x0⟩) P
theorem kids_ev {s : ByteArray} (hs : s.size ≤ 20000) {P : RP → Prop} {n : Nat} (one : One s P n) (post : List UInt8) (rs : List (List S33)) (x0 : S33) : ∀ (xs : List S33) (b : Bool) (acc : List S33) (p d m : Int), cntEL xs ≤ n → rightEL xs = true → At s p (txR b xs ++ 41 :: post) → acc.length + xs.length ≤ 400 → rs.length + 1 + dpEL xs ≤ 20 → 0 ≤ m → m + cntEL xs ≤ 400 → d ≤ 20 →
    (∀ d' : Int, d' ≤ 20 → EvP (fun k => note_Parse.l0 k s ⟨p + (txR b xs).length, (acc ++ xs) :: rs, d', m + cntEL xs, false, x0⟩) P) → EvP (fun k => SL k s ⟨p, acc :: rs, d, m, false, x0⟩) P
  | [], b, acc, p, d, m, _, _, h, _, _, _, _, hd, K => by
    have h : At s p (41 :: post) := h
    refine SL_stay hs (L := 41 :: post) h (fun c L' e => by injection e with e1 _; subst e1; rfl) ?_
    have := K d hd
    simpa [txR, cntEL] using this
  | x :: xs, b, acc, p, d, m, hn, hr, h, hl, hdp, hm0, hm1, hd, K => by
    simp only [rightEL, Bool.and_eq_true] at hr
    simp only [cntEL] at hn hm1 K
    simp only [dpEL] at hdp
    simp only [List.length_cons] at hl
    have hp : Post (txR true xs ++ 41 :: post) := by
      intro c L' e
      cases xs with
      | nil => injection e with e1 _; subst e1; exact .inr rfl
      | cons y ys => injection e with e1 _; subst e1; exact .inl rfl
    have next : ∀ p' : Int, p' + (txE x).length + (txR true xs).length = p + (txR b (x :: xs)).length → At s p' (txE x ++ (txR true xs ++ 41 :: post)) → EvP (fun k => note_Parse.l0 k s ⟨p', acc :: rs, d, m, false, x0⟩) P := by
      intro p' ep hA
      refine one x (by omega) hr.1 p' (acc :: rs) d m x0 _ hp hA (by simp; omega) (fun ks r e => by injection e with e1 _; subst e1; omega) hm0 (by omega) hd (fun d' hd' => ?_)
      show EvP (fun k => SL k s ⟨p' + (txE x).length, (acc ++ [x]) :: rs, d', m + cntE x, false, x0⟩) P
      refine kids_ev hs one post rs x0 xs true (acc ++ [x]) _ d' _ (by omega) hr.2 hA.app (by simp; omega) (by omega) (by omega) (by omega) hd' (fun d2 hd2 => ?_)
      have := K d2 hd2
      rw [ep, show m + (cntE x : Int) + (cntEL xs : Int) = m + ((cntE x + cntEL xs : Nat) : Int) by omega, List.append_assoc]
      exact this
    cases b with
    | false =>
      have e : txR false (x :: xs) ++ 41 :: post = txE x ++ (txR true xs ++ 41 :: post) := by simp [txR]
      rw [e] at h
      exact SL_stay hs h (txE_head x hr.1 _) (next p (by simp [txR]; omega) h)
    | true =>
      have e : txR true (x :: xs) ++ 41 :: post = 32 :: (txE x ++ (txR true xs ++ 41 :: post)) := by simp [txR]
      rw [e] at h
      exact SL_skip hs h (txE_head x hr.1 _) (next (p + 1) (by simp [txR]; omega) h.cons.2.2)
theorem one_ev {s : ByteArray} (hs : s.size ≤ 20000) {P : RP → Prop} : ∀ n, One s P n
  | 0 => by
    intro x hx
    have := cntE_kids x
    omega
  | n + 1 => by
    rintro ⟨k, t, nn, ks⟩ hn hr p rs d m x0 post hp hA hdp hk hm0 hm1 hd K
    have hr' := hr
    simp only [rightE, Bool.and_eq_true] at hr'
    obtain ⟨ho, hr2⟩ := hr'
    simp only [cntE] at hn hm1 K
    simp only [dpE] at hdp
    have hnosp := txE_head _ hr post
    rw [txE] at hA K
    have hp0 := hA.1
    have ed : mx d ((rs.length : Int) + 1) ≤ 20 := mx20 hd (by omega)
    rcases oneB_kind ho with rfl | rfl | rfl | ⟨rfl, h3, h4, h5⟩
    · obtain ⟨rfl, rfl⟩ := oneB_zero ho
      rw [if_pos rfl] at hA K
      have hA1 : At s p (40 :: (txR false ks ++ 41 :: post)) := by simpa using hA
      obtain ⟨h1, h2, h3⟩ := hA1.cons
      have step : EvP (fun k => note_parser_step.f k s ⟨p, rs, d, m, false, x0⟩) (· = (true, ⟨p + 1, [] :: rs, mx d ((rs.length : Int) + 1), m + 1, false, x0⟩)) := by
        unfold note_parser_step.f
        dsimp only
        rw [h2, w64 (x := m + 1) (by omega) (by omega), w64 (x := p + 1) (by omega) (by omega)]
        exact EvP.pos ⟨hp0, h1, by omega⟩ (EvP.neg (by decide) (EvP.neg (by decide) (EvP.pos rfl (EvP.pos (by omega) (EvP.ret rfl)))))
      refine go_on h1 step ?_
      have hle := cntEL_le ks
      refine kids_ev hs (one_ev hs n) post rs x0 ks false [] (p + 1) _ (m + 1) (by omega) hr2 h3 (by simp; omega) (by omega) (by omega) (by omega) ed (fun d' hd' => ?_)
      obtain ⟨g1, g2, g3⟩ := (h3.app).cons
      have g0 := h3.app.1
      have step2 : EvP (fun k => note_parser_step.f k s ⟨p + 1 + (txR false ks).length, ([] ++ ks) :: rs, d', m + 1 + cntEL ks, false, x0⟩) (· = (true, endq (p + 1 + (txR false ks).length + 1) rs d' (m + 1 + cntEL ks) x0 ⟨0, ⟨#[]⟩, 0, ks⟩)) := by
        unfold note_parser_step.f
        dsimp only
        rw [g2]
        refine EvP.pos ⟨g0, g1, by simp; omega⟩ (EvP.pos rfl ?_)
        refine EvP.bindv (ends_ok _ rs d' _ x0 _ (by omega) hk) (EvP.ret ?_)
        rw [endq_at, endq_at_, w64 (by omega) (by omega)]
        rfl
      refine go_on g1 step2 ?_
      have := K d' hd'
      have e1 : p + ((40 :: (txR false ks ++ [41])).length : Nat) = p + 1 + (txR false ks).length + 1 := by simp; omega
      have e2 : m + ((1 + cntEL ks : Nat) : Int) = m + 1 + cntEL ks := by omega
      rw [e1, e2] at this
      exact this
    · obtain ⟨hb, rfl, hks⟩ := oneB_one ho
      obtain rfl := List.length_eq_zero_iff.1 hks
      rw [if_neg (by decide), if_pos rfl] at hA K
      have hl := nameB_len hb
      obtain ⟨b, e1, e2⟩ := bt_byte t 0 (by omega) (by omega)
      have e3 : t.data.toList = b :: t.data.toList.drop (0 + 1 : Int).toNat := by rw [← e2]; rfl
      have hA1 := hA
      rw [e3] at hA1
      obtain ⟨h1, h2, _⟩ := At.cons (show At s p (b :: (t.data.toList.drop (0 + 1 : Int).toNat ++ post)) from hA1)
      have hb97 : (97 : Int) ≤ b.toNat := by
        unfold nameB at hb
        simp only [Bool.and_eq_true, decide_eq_true_eq] at hb
        rw [e1] at hb
        exact hb.1.1.2
      refine go_on (q' := endq (p + t.data.toList.length) rs (mx d ((rs.length : Int) + 1)) (m + 1) x0 ⟨1, t, 0, []⟩) h1 ?_ (K _ ed)
      unfold note_parser_step.f
      dsimp only
      rw [h2, w64 (x := m + 1) (by omega) (by omega)]
      refine EvP.pos ⟨hp0, h1, by omega⟩ (EvP.neg (by omega) (EvP.neg (by decide) (EvP.neg (by omega) (EvP.neg (by omega) ?_))))
      refine EvP.bind (wname_ev s hs post hp t hb p hA) (fun r hr => ?_)
      subst hr
      exact EvP.bindv (ends_ok _ rs _ _ x0 _ (by omega) hk) (EvP.ret rfl)
    · obtain ⟨rfl, hn2, hks⟩ := oneB_two ho
      obtain rfl := List.length_eq_zero_iff.1 hks
      rw [if_neg (by decide), if_neg (by decide), if_pos rfl] at hA K
      obtain ⟨_, b, r, e2, e3, e4⟩ := itz_word nn
      have hA1 := hA
      rw [e2] at hA1
      obtain ⟨h1, h2, _⟩ := At.cons (show At s p (b :: (r ++ post)) from hA1)
      refine go_on (q' := endq (p + (itz nn).length) rs (mx d ((rs.length : Int) + 1)) (m + 1) x0 ⟨2, ⟨#[]⟩, nn, []⟩) h1 ?_ (K _ ed)
      unfold note_parser_step.f
      dsimp only
      rw [h2, w64 (x := m + 1) (by omega) (by omega)]
      refine EvP.pos ⟨hp0, h1, by omega⟩ (EvP.neg (by omega) (EvP.neg (by decide) (EvP.neg (by omega) (EvP.neg (by omega) ?_))))
      refine EvP.bind (wnum_ev s hs post hp nn hn2.1 hn2.2 p hA) (fun r hr => ?_)
      subst hr
      exact EvP.bindv (ends_ok _ rs _ _ x0 _ (by omega) hk) (EvP.ret rfl)
    · subst h4
      obtain rfl := List.length_eq_zero_iff.1 h5
      rw [if_neg (by decide), if_neg (by decide), if_neg (by decide)] at hA K
      have hA1 : At s p (34 :: (escU t.data.toList ++ 34 :: post)) := by simpa using hA
      obtain ⟨h1, h2, h6⟩ := hA1.cons
      have e1 : p + ((34 :: (escU t.data.toList ++ [34])).length : Nat) = p + 1 + (escU t.data.toList).length + 1 := by simp; omega
      rw [e1] at K
      refine go_on (q' := endq (p + 1 + (escU t.data.toList).length + 1) rs (mx d ((rs.length : Int) + 1)) (m + 1) x0 ⟨3, t, 0, []⟩) h1 ?_ (K _ ed)
      unfold note_parser_step.f
      dsimp only
      rw [h2, w64 (x := m + 1) (by omega) (by omega), w64 (x := p + 1) (by omega) (by omega)]
      refine EvP.pos ⟨hp0, h1, by omega⟩ (EvP.neg (by decide) (EvP.neg (by decide) (EvP.neg (by decide) (EvP.pos rfl ?_))))
      refine EvP.bind (quoted_ev s hs post t.data.toList [] (p + 1) (by simp; omega) h6) (fun r hr => ?_)
      subst hr
      rw [List.nil_append, strOfNums_nat]
      exact EvP.bindv (ends_ok _ rs _ _ x0 _ (by omega) hk) (EvP.ret rfl)
theorem parse_ev (a0 : Int) (a1 : ByteArray) (a2 : Int) (l : List S33) (h : validB a0 a1 a2 l = true) (hs : (tx a0 a1 a2 l).size ≤ 20000) : EvP (fun k => note_Parse.f k (tx a0 a1 a2 l)) (· = (a0, a1, a2, l, 0)) := by
  unfold validB at h
  simp only [Bool.and_eq_true, decide_eq_true_eq] at h
  obtain ⟨⟨⟨h1, h2⟩, h3⟩, h4⟩ := h
  have hr : rightE ⟨a0, a1, a2, l⟩ = true := by rw [rightE, h1, h2]; rfl
  unfold note_Parse.f
  refine EvP.neg (by omega) ?_
  have hA : At (tx a0 a1 a2 l) 0 (txE ⟨a0, a1, a2, l⟩) := ⟨by omega, by omega, rfl⟩
  refine SL_stay hs (q := ⟨0, [], 0, 0, false, z33⟩) hA (by have := txE_head _ hr []; rwa [List.append_nil] at this) ?_
  have hA' : At (tx a0 a1 a2 l) 0 (txE ⟨a0, a1, a2, l⟩ ++ []) := by rw [List.append_nil]; exact hA
  refine one_ev hs (cntE ⟨a0, a1, a2, l⟩) ⟨a0, a1, a2, l⟩ (Nat.le_refl _) hr 0 [] 0 0 z33 [] (fun c L' e => by cases e) hA' (by simp only [dpE]; simp; omega) (fun ks r e => by cases e) (by omega) (by simp only [cntE]; omega) (by omega) (fun d' hd' => ?_)
  have hn := hA'.app
  refine SL_stay hs (q := endq _ [] d' _ z33 _) hn (fun c L' e => by cases e) ?_
  refine EvP.step (fun k => by rw [note_Parse.l0]) ?_
  have := hn.nil
  refine EvP.neg (by show ¬ (0 + ((txE ⟨a0, a1, a2, l⟩).length : Int) < _); omega) (EvP.pos rfl (EvP.neg ?_ (EvP.neg ?_ (EvP.ret rfl))))
  · show ¬ ((0 : Int) + (cntE ⟨a0, a1, a2, l⟩ : Int) > 400)
    simp only [cntE]; omega
  · show ¬ (d' > 20)
    omega
theorem same_ev : ∀ (n : Nat) (a0 : Int) (a1 : ByteArray) (a2 : Int) (l : List S33), cntEL l < n → l.length ≤ 1000000 → cntEL l ≤ 1000000 → EvP (fun k => incunableref25_SameExpr.f k a0 a1 a2 l a0 a1 a2 l) (· = true)
  | 0, _, _, _, _, h, _, _ => by omega
  | n + 1, a0, a1, a2, l, hn, hl, hc => by
    refine EvP.step (fun k => by rw [incunableref25_SameExpr.f]) (EvP.pos rfl (EvP.pos rfl (EvP.pos rfl ?_)))
    refine EvP.step (fun k => by rw [incunableref25_SameExpr.j0]) (EvP.neg (by simp) ?_)
    refine EvP.up (L := fun k i (_ : Unit) => incunableref25_SameExpr.l0 k i a0 a1 a2 l a0 a1 a2 l) (fun i _ => 0 ≤ i) l.length ?_ 0 () (by omega) (by omega)
    intro i u i0 hin ih
    refine EvP.step (fun k => by rw [incunableref25_SameExpr.l0]) ?_
    refine EvP.ite (fun c1 => ?_) (fun c1 => EvP.ret rfl)
    have hk := cntE_kid l i i0 c1
    have h2 := cntEL_le (rd_T33 l i).f3
    refine EvP.pos i0 (EvP.pos c1 (EvP.bind (same_ev n _ _ _ _ (by omega) (by omega) (by omega)) (fun r hr => EvP.pos hr ?_)))
    rw [w64 (x := i + 1) (by omega) (by omega)]
    exact ih () c1 (by omega)

def digU (c : UInt8) : Bool := decide (48 ≤ c.toNat) && decide (c.toNat ≤ 57)
def valU (a : Nat) (l : List UInt8) : Nat := l.foldl (fun a c => 10 * a + (c.toNat - 48)) a
theorem valU_nil (a : Nat) : valU a [] = a := by unfold valU; rw [List.foldl_nil]
theorem valU_cons (a : Nat) (c : UInt8) (l : List UInt8) : valU a (c :: l) = valU (10 * a + (c.toNat - 48)) l := by unfold valU; rw [List.foldl_cons]
theorem valU_app (l : List UInt8) (c : UInt8) : ∀ a, valU a (l ++ [c]) = 10 * valU a l + (c.toNat - 48) := by
  induction l with
  | nil => intro a; rw [List.nil_append, valU_cons, valU_nil, valU_nil]
  | cons x l ih => intro a; simp only [List.cons_append, valU_cons, ih]
theorem valU_lt : ∀ (l : List UInt8) (a : Nat), l.all digU = true → valU a l + 1 ≤ (a + 1) * 10 ^ l.length
  | [], a, _ => by rw [valU_nil]; simp
  | c :: l, a, h => by
    rw [List.all_cons, Bool.and_eq_true] at h
    have h1 := valU_lt l (10 * a + (c.toNat - 48)) h.2
    have h2 : c.toNat ≤ 57 := by have := h.1; unfold digU at this; simp only [Bool.and_eq_true, decide_eq_true_eq] at this; exact this.2
    rw [valU_cons]
    refine Nat.le_trans h1 ?_
    rw [List.length_cons, Nat.pow_succ, Nat.mul_comm (10 ^ l.length) 10, ← Nat.mul_assoc]
    exact Nat.mul_le_mul_right _ (by omega)
theorem dig_of (c : UInt8) (h : digU c = true) : UInt8.ofNat (48 + (c.toNat - 48)) = c := by
  unfold digU at h
  simp only [Bool.and_eq_true, decide_eq_true_eq] at h
  rw [show 48 + (c.toNat - 48) = c.toNat by omega]
  simp
/-- A numeral without a zero ahead is that of its value. -/
theorem dd_val : ∀ (n : Nat) (l : List UInt8), l.length ≤ n → l ≠ [] → l.all digU = true → (l.head? = some 48 → l = [48]) → Go.Lib.decDigits (valU 0 l) = l
  | 0, l, hn, hl, _, _ => absurd (List.length_eq_zero_iff.1 (by omega)) hl
  | n + 1, l, hn, hl, hd, hz => by
    obtain ⟨l', c, rfl⟩ : ∃ l' c, l = l' ++ [c] := ⟨l.dropLast, l.getLast hl, (List.dropLast_concat_getLast hl).symm⟩
    rw [List.all_append, Bool.and_eq_true] at hd
    have hc : digU c = true := by simpa using hd.2
    have hc2 : 48 ≤ c.toNat ∧ c.toNat ≤ 57 := by unfold digU at hc; simpa using hc
    rw [valU_app, Go.Lib.decDigits]
    cases l' with
    | nil =>
      rw [dif_pos (by rw [valU_nil]; omega)]
      simp only [valU_nil, Nat.mul_zero, Nat.zero_add]
      rw [dig_of c hc]; rfl
    | cons x l' =>
      have hx : x ≠ 48 := fun e => by
        have := hz (by rw [e]; rfl)
        have := congrArg List.length this
        simp at this
      have hxd : digU x = true := by have := hd.1; rw [List.all_cons, Bool.and_eq_true] at this; exact this.1
      have hx2 : 48 ≤ x.toNat ∧ x.toNat ≤ 57 := by unfold digU at hxd; simpa using hxd
      have hx3 : x.toNat ≠ 48 := fun e => hx (by rw [← UInt8.toNat_inj]; exact e)
      have ih := dd_val n (x :: l') (by simp at hn ⊢; omega) (by simp) hd.1 (fun h => absurd (by simpa using h) hx)
      have hpos : 1 ≤ valU 0 (x :: l') := by
        rw [valU_cons]
        have key : ∀ (l : List UInt8) (a : Nat), 1 ≤ a → 1 ≤ valU a l := by
          intro l
          induction l with
          | nil => intro a h; exact h
          | cons y l ih => intro a h; rw [valU_cons]; exact ih _ (by omega)
        exact key _ _ (by omega)
      rw [dif_neg (by omega), show (10 * valU 0 (x :: l') + (c.toNat - 48)) / 10 = valU 0 (x :: l') by omega, show (10 * valU 0 (x :: l') + (c.toNat - 48)) % 10 = c.toNat - 48 by omega, ih, dig_of c hc]
theorem dd_good : ∀ (n u : Nat), u < n → (Go.Lib.decDigits u).head? = some 48 → u = 0
  | 0, _, h, _ => by omega
  | n + 1, u, h, hh => by
    rw [Go.Lib.decDigits] at hh
    by_cases c : u < 10
    · rw [dif_pos c] at hh
      simp only [List.head?_cons, Option.some.injEq] at hh
      have := congrArg UInt8.toNat hh
      simp at this
      omega
    · rw [dif_neg c, List.head?_append] at hh
      have hne := (dd_word (u / 10 + 1) (u / 10) (by omega)).2
      cases hd : Go.Lib.decDigits (u / 10) with
      | nil => exact absurd hd hne
      | cons x xs =>
        rw [hd] at hh
        have := dd_good n (u / 10) (by omega) (by rw [hd]; simpa using hh)
        omega
/-- The numeral behind the sign is right. -/
def GoodD (d : List UInt8) : Prop := d ≠ [] ∧ d.length ≤ 6 ∧ d.all digU = true ∧ (d.head? = some 48 → d = [48])
theorem dd_GoodD (u : Nat) (h : u < 1000000) : GoodD (Go.Lib.decDigits u) := by
  refine ⟨(dd_word (u + 1) u (by omega)).2, dd_len 5 u (by omega), (dd_word (u + 1) u (by omega)).1, fun hh => ?_⟩
  rw [dd_good (u + 1) u (by omega) hh, Go.Lib.decDigits, dif_pos (by decide)]
  rfl
/-- What a word of digits (and a sign) says. -/
def NumIs (w : List UInt8) (r : Int × Bool) : Prop := (r.2 = true → w = itz r.1 ∧ -999999 ≤ r.1 ∧ r.1 ≤ 999999) ∧ (r.2 = false → ∀ n : Int, -999999 ≤ n → n ≤ 999999 → w ≠ itz n)
theorem NumIs.no {w : List UInt8} (h : ∀ n : Int, -999999 ≤ n → n ≤ 999999 → w ≠ itz n) : NumIs w (0, false) := ⟨fun h => absurd h (by simp), fun _ => h⟩
theorem itz_neg (n : Int) (h : n < 0) : itz n = 45 :: Go.Lib.decDigits n.natAbs := by rw [itz_eq, Go.Lib.itoa, if_pos h]
theorem itz_pos (n : Int) (h : ¬ n < 0) : itz n = Go.Lib.decDigits n.toNat := by rw [itz_eq, Go.Lib.itoa, if_neg h]
theorem dd_no45 (u : Nat) (l : List UInt8) : Go.Lib.decDigits u ≠ 45 :: l := by
  intro h
  have := (dd_word (u + 1) u (by omega)).1
  rw [h] at this
  simp at this
/-- The sign and what is behind it. -/
theorem numIs_of (w d : List UInt8) (neg : Bool) (hw : w = if neg = true then 45 :: d else d) (h45 : neg = false → ∀ l, d ≠ 45 :: l) :
    (∀ n : Int, -999999 ≤ n → n ≤ 999999 → w = itz n → GoodD d ∧ (neg = true → d ≠ [48])) ∧ (GoodD d → (neg = true → d ≠ [48]) → w = itz (if neg = true then -(valU 0 d : Int) else valU 0 d) ∧ (valU 0 d : Int) ≤ 999999) := by
  constructor
  · intro n h0 h1 e
    cases neg with
    | true =>
      rw [if_pos rfl] at hw
      by_cases c : n < 0
      · rw [hw, itz_neg n c] at e
        injection e with _ e
        rw [e]
        refine ⟨dd_GoodD _ (by omega), fun _ h => ?_⟩
        have := dd_good (n.natAbs + 1) n.natAbs (by omega) (by rw [h]; rfl)
        omega
      · rw [hw, itz_pos n c] at e
        exact absurd e.symm (dd_no45 _ _)
    | false =>
      rw [if_neg (by decide)] at hw
      by_cases c : n < 0
      · rw [hw, itz_neg n c] at e
        exact absurd e (h45 rfl _)
      · rw [hw, itz_pos n c] at e
        rw [e]
        exact ⟨dd_GoodD _ (by omega), fun h => by cases h⟩
  · intro hg hz
    have h1 := valU_lt d 0 hg.2.2.1
    have h2 : 10 ^ d.length ≤ 10 ^ 6 := Nat.pow_le_pow_right (by decide) hg.2.1
    have e := dd_val d.length d (Nat.le_refl _) hg.1 hg.2.2.1 hg.2.2.2
    refine ⟨?_, by omega⟩
    cases neg with
    | true =>
      rw [if_pos rfl] at hw ⊢
      have hv : valU 0 d ≠ 0 := fun h0 => by
        rw [h0, Go.Lib.decDigits, dif_pos (by decide)] at e
        exact hz rfl e.symm
      rw [itz_neg _ (by omega), show (-(valU 0 d : Int)).natAbs = valU 0 d by omega, e, hw]
    | false =>
      rw [if_neg (by decide)] at hw ⊢
      rw [itz_pos _ (by omega), show ((valU 0 d : Int)).toNat = valU 0 d by omega, e, hw]

theorem numj1_ev (s d : ByteArray) (neg : Bool) (hd : d.size ≤ 20000) (hsz : s.size = d.size + (if neg = true then 1 else 0)) (hw : s.data.toList = if neg = true then 45 :: d.data.toList else d.data.toList) (h45 : neg = false → ∀ l, d.data.toList ≠ 45 :: l) :
    EvP (fun k => incunableref25_number.j1 k s d) (NumIs s.data.toList) := by
  obtain ⟨n1, n2⟩ := numIs_of _ _ neg hw h45
  have el : d.data.toList.length = d.size := by simp
  have bad : (¬ (GoodD d.data.toList ∧ (neg = true → d.data.toList ≠ [48]))) → EvP (fun k => incunableref25_number.j2 k s d true) (NumIs s.data.toList) := fun hb =>
    EvP.step (fun k => by rw [incunableref25_number.j2]) (EvP.pos rfl (EvP.ret (NumIs.no (fun n h0 h1 e => hb (n1 n h0 h1 e)))))
  have loop : (d.data.toList.head? = some 48 → d.data.toList = [48]) → (neg = true → d.data.toList ≠ [48]) → 1 ≤ d.size → d.size ≤ 6 → EvP (fun k => incunableref25_number.j2 k s d false) (NumIs s.data.toList) := by
    intro hz hn h1 h6
    refine EvP.step (fun k => by rw [incunableref25_number.j2]) (EvP.neg (by decide) ?_)
    refine EvP.up (L := fun k i (v : Int) => incunableref25_number.l0 k s d v i) (fun i v => 0 ≤ i ∧ ∃ u : Nat, v = u ∧ u + 1 ≤ 10 ^ i.toNat ∧ valU 0 d.data.toList = valU u (d.data.toList.drop i.toNat) ∧ d.data.toList.all digU = (d.data.toList.drop i.toNat).all digU) d.size ?_ 0 0 (by omega) ⟨by omega, 0, rfl, by simp, by simp, by simp⟩
    intro i v hi hin ih
    obtain ⟨i0, u, rfl, hu, e1, e2⟩ := hi
    refine EvP.step (fun k => by rw [incunableref25_number.l0]) ?_
    refine EvP.ite (fun c => ?_) (fun c => ?_)
    · obtain ⟨b, hb, hdr⟩ := bt_byte d i i0 c
      have hp : 10 ^ i.toNat ≤ 10 ^ 6 := Nat.pow_le_pow_right (by decide) (by omega)
      have hp1 : 10 ^ (i + 1).toNat = 10 ^ i.toNat * 10 := by rw [show (i + 1).toNat = i.toNat + 1 by omega, Nat.pow_succ]
      rw [hdr, valU_cons] at e1
      rw [hdr, List.all_cons] at e2
      rw [hb]
      have hlt := b.toNat_lt
      refine EvP.pos i0 (EvP.ite (fun c1 => EvP.ret (NumIs.no (fun n h0 h1 e => ?_))) (fun c1 => EvP.ite (fun c2 => EvP.ret (NumIs.no (fun n h0 h1 e => ?_))) (fun c2 => ?_)))
      · have := (n1 n h0 h1 e).1.2.2.1
        rw [e2, Bool.and_eq_true] at this
        have := this.1
        unfold digU at this
        simp only [Bool.and_eq_true, decide_eq_true_eq] at this
        omega
      · have := (n1 n h0 h1 e).1.2.2.1
        rw [e2, Bool.and_eq_true] at this
        have := this.1
        unfold digU at this
        simp only [Bool.and_eq_true, decide_eq_true_eq] at this
        omega
      · have hdg : digU b = true := by unfold digU; simp only [Bool.and_eq_true, decide_eq_true_eq]; omega
        rw [hdg, Bool.true_and] at e2
        rw [w64 (x := 10 * (u : Int)) (by omega) (by omega), show ((b.toNat : Int) - 48) % 256 = ((b.toNat - 48 : Nat) : Int) by omega, w64 (x := 10 * (u : Int) + _) (by omega) (by omega), w64 (x := i + 1) (by omega) (by omega)]
        exact ih _ c ⟨by omega, 10 * u + (b.toNat - 48), by omega, by omega, e1, e2⟩
    · have en : d.data.toList.drop i.toNat = [] := drop_noneB d i i0 c
      rw [en, valU_nil] at e1
      rw [en, List.all_nil] at e2
      obtain ⟨m1, m2⟩ := n2 ⟨fun h => by rw [h] at el; simp at el; omega, by omega, e2, hz⟩ hn
      have hp : 10 ^ i.toNat ≤ 10 ^ 6 := Nat.pow_le_pow_right (by decide) (by omega)
      cases neg with
      | true =>
        simp only [if_true] at m1 hsz
        refine EvP.pos (by omega) (EvP.ret ⟨fun _ => ?_, fun h => by cases h⟩)
        rw [w64 (x := -(u : Int)) (by omega) (by omega), ← e1]
        exact ⟨m1, by omega, by omega⟩
      | false =>
        simp only [Bool.false_eq_true, if_false] at m1 hsz
        refine EvP.neg (by omega) (EvP.ret ⟨fun _ => ?_, fun h => by cases h⟩)
        show s.data.toList = itz (u : Int) ∧ _
        rw [← e1]
        exact ⟨m1, by omega, by omega⟩
  have head0 : ∀ b : UInt8, 0 < d.size → bt d 0 = (b.toNat : Int) → d.data.toList.head? = some b := by
    intro b h0 hb
    obtain ⟨c, e1, e2⟩ := bt_byte d 0 (by omega) (by omega)
    have : c = b := by rw [← UInt8.toNat_inj]; rw [hb] at e1; omega
    subst this
    have e3 : d.data.toList = c :: d.data.toList.drop (0 + 1 : Int).toNat := by rw [← e2]; rfl
    rw [e3]; rfl
  refine EvP.step (fun k => by rw [incunableref25_number.j1]) ?_
  refine EvP.ite (fun c => bad (fun h => h.1.1 (List.length_eq_zero_iff.1 (by omega)))) (fun c => ?_)
  refine EvP.ite (fun c1 => bad (fun h => by have := h.1.2.1; omega)) (fun c1 => ?_)
  refine EvP.pos (by omega) ?_
  refine EvP.ite (fun c2 => ?_) (fun c2 => ?_)
  · have hh : d.data.toList.head? = some 48 := head0 48 (by omega) (by rw [c2]; rfl)
    refine EvP.ite (fun c3 => bad (fun h => by have := congrArg List.length (h.1.2.2.2 hh); simp at this; omega)) (fun c3 => ?_)
    have h48 : d.data.toList = [48] := by
      obtain ⟨x, hx⟩ := List.length_eq_one_iff.1 (show d.data.toList.length = 1 by omega)
      rw [hx] at hh ⊢
      simp at hh
      rw [hh]
    cases neg with
    | true =>
      have e : decide ((s.size : Int) > 1) = true := by simp at hsz ⊢; omega
      rw [e]
      exact bad (fun h => h.2 rfl h48)
    | false =>
      have e : decide ((s.size : Int) > 1) = false := by simp at hsz ⊢; omega
      rw [e]
      exact loop (fun _ => h48) (fun h => by cases h) (by omega) (by omega)
  · refine loop (fun h => ?_) (fun _ h => ?_) (by omega) (by omega)
    · obtain ⟨b, e1, e2⟩ := bt_byte d 0 (by omega) (by omega)
      have := head0 b (by omega) e1
      rw [this] at h
      injection h with h
      rw [h] at e1
      exact absurd e1 c2
    · obtain ⟨b, e1, e2⟩ := bt_byte d 0 (by omega) (by omega)
      have := head0 b (by omega) e1
      rw [h] at this
      injection this with h
      rw [← h] at e1
      exact absurd e1 c2
theorem number_ev (s : ByteArray) (hs : s.size ≤ 20000) : EvP (fun k => incunableref25_number.f k s) (NumIs s.data.toList) := by
  unfold incunableref25_number.f
  refine EvP.ite (fun c => EvP.pos (by omega) ?_) (fun c => ?_)
  · obtain ⟨b, e1, e2⟩ := bt_byte s 0 (by omega) (by omega)
    have e3 : s.data.toList = b :: s.data.toList.drop 1 := by rw [show s.data.toList.drop 1 = s.data.toList.drop (0 + 1 : Int).toNat from rfl, ← e2]; rfl
    refine EvP.step (fun k => by rw [incunableref25_number.j0]) ?_
    refine EvP.ite (fun c1 => EvP.pos (by omega) ?_) (fun c1 => ?_)
    · have hb : bt s 0 = 45 := by simpa using c1
      have h45 : b = 45 := by rw [← UInt8.toNat_inj]; rw [e1] at hb; show b.toNat = 45; omega
      have ed : (s.extract 1 s.size).data.toList = s.data.toList.drop 1 := by
        rw [Go.Lib.extract_data, List.take_of_length_le (by simp)]
      have es : (s.extract 1 s.size).size = s.size - 1 := by
        simp
      refine numj1_ev s _ true (by omega) (by simp; omega) ?_ (fun h => by cases h)
      rw [if_pos rfl, ed]
      rw [h45] at e3
      exact e3
    · refine numj1_ev s s false hs (by simp) (by simp) (fun _ l h => ?_)
      rw [e3] at h
      injection h with h _
      rw [h] at e1
      exact c1 (by rw [e1]; rfl)
  · refine EvP.step (fun k => by rw [incunableref25_number.j0]) (EvP.neg (by decide) ?_)
    refine numj1_ev s s false hs (by simp) (by simp) (fun _ l h => ?_)
    have := congrArg List.length h
    simp at this
    omega

theorem isLetterR (c : Int) : incunableref25_isLetter.f c = some (decide (97 ≤ c) && decide (c ≤ 122)) := by
  unfold incunableref25_isLetter.f
  by_cases h : c ≥ 97
  · have h' : 97 ≤ c := h
    rw [if_pos h]; simp [h']
  · have h' : ¬ 97 ≤ c := h
    rw [if_neg h]; simp [h']
def wordI (c : Int) : Bool := (decide (97 ≤ c) && decide (c ≤ 122)) || (decide (48 ≤ c) && decide (c ≤ 57)) || decide (c = 45)
theorem isWordR (c : Int) : incunableref25_isWord.f c = some (wordI c) := by
  unfold incunableref25_isWord.f wordI
  have e : (c == 45) = decide (c = 45) := by rw [Bool.eq_iff_iff]; simp
  rw [isLetterR, Option.bind_some]
  cases h : (decide (97 ≤ c) && decide (c ≤ 122))
  · rw [if_neg (by simp)]
    by_cases h1 : c ≥ 48
    · have h1' : 48 ≤ c := h1
      rw [if_pos h1]
      by_cases h2 : c ≤ 57
      · rw [if_pos h2]; simp [h1', h2]
      · rw [if_neg h2, e]; simp [h2]
    · have h1' : ¬ 48 ≤ c := h1
      rw [if_neg h1, e]; simp [h1']
  · rw [if_pos rfl]; simp
theorem bt_data (s : ByteArray) (i : Int) (h0 : 0 ≤ i) (h1 : i < s.size) : s.data.toList.drop i.toNat = UInt8.ofNat (bt s i).toNat :: s.data.toList.drop (i + 1).toNat ∧ wordU (UInt8.ofNat (bt s i).toNat) = wordI (bt s i) := by
  have hl : i.toNat < s.data.toList.length := by simp; omega
  have hb : bt s i = ((s.data.toList[i.toNat]'hl).toNat : Int) := by
    have hs : i.toNat < s.size := by omega
    unfold bt
    rw [dif_pos hs]
    rfl
  rw [hb]
  have e : UInt8.ofNat ((s.data.toList[i.toNat]'hl).toNat : Int).toNat = s.data.toList[i.toNat]'hl := by simp
  rw [e]
  constructor
  · rw [show (i + 1).toNat = i.toNat + 1 by omega, List.drop_eq_getElem_cons hl]
  · unfold wordU wordI
    rw [Bool.eq_iff_iff]
    simp only [Bool.or_eq_true, Bool.and_eq_true, decide_eq_true_eq]
    omega
theorem nameR (s : ByteArray) (hs : s.size ≤ 140737488351232) : EvP (fun k => incunableref25_isName.f k s) (· = nameB s) := by
  unfold incunableref25_isName.f
  refine EvP.ite (fun c => ?_) (fun c => ?_)
  · refine EvP.step (fun k => by rw [incunableref25_isName.j0]) (EvP.pos rfl (EvP.ret ?_))
    have : ¬ 1 ≤ s.size := by omega
    simp [nameB, this]
  refine EvP.ite (fun c1 => ?_) (fun c1 => ?_)
  · refine EvP.step (fun k => by rw [incunableref25_isName.j0]) (EvP.pos rfl (EvP.ret ?_))
    have : ¬ s.size ≤ 30 := by omega
    simp [nameB, this]
  have d1 : 1 ≤ s.size := by omega
  have d2 : s.size ≤ 30 := by omega
  refine EvP.pos (by omega) (EvP.bindv (isLetterR _) ?_)
  refine EvP.step (fun k => by rw [incunableref25_isName.j0]) ?_
  refine EvP.ite (fun c2 => EvP.ret ?_) (fun c2 => ?_)
  · unfold nameB
    have c3 : (decide (97 ≤ bt s 0) && decide (bt s 0 ≤ 122)) = false := by
      cases h : (decide (97 ≤ bt s 0) && decide (bt s 0 ≤ 122)) with
      | false => rfl
      | true => rw [h] at c2; cases c2
    rw [Bool.and_assoc (decide (1 ≤ s.size) && decide (s.size ≤ 30)), c3]
    simp
  have c3 : (decide (97 ≤ bt s 0) && decide (bt s 0 ≤ 122)) = true := by
    cases h : (decide (97 ≤ bt s 0) && decide (bt s 0 ≤ 122)) with
    | true => rfl
    | false => rw [h] at c2; exact absurd rfl c2
  have e : nameB s = s.data.toList.all wordU := by
    unfold nameB
    rw [Bool.and_assoc (decide (1 ≤ s.size) && decide (s.size ≤ 30)), c3]
    simp [d1, d2]
  rw [e]
  refine EvP.up (L := fun k i (_ : Unit) => incunableref25_isName.l0 k s i) (fun i _ => 0 ≤ i ∧ s.data.toList.all wordU = (s.data.toList.drop i.toNat).all wordU) s.size ?_ 0 () (by omega) ⟨by omega, by simp⟩
  intro i u hi hin ih
  obtain ⟨i0, e1⟩ := hi
  refine EvP.step (fun k => by rw [incunableref25_isName.l0]) ?_
  refine EvP.ite (fun c4 => ?_) (fun c4 => ?_)
  · obtain ⟨h1, h2⟩ := bt_data s i i0 c4
    rw [h1, List.all_cons, h2] at e1
    refine EvP.pos i0 (EvP.bindv (isWordR _) ?_)
    refine EvP.ite (fun c5 => ?_) (fun c5 => EvP.ret ?_)
    · rw [w64 (x := i + 1) (by omega) (by omega)]
      refine ih () c4 ⟨by omega, ?_⟩
      rw [e1, c5, Bool.true_and]
    · rw [e1]
      simp [c5]
  · refine EvP.ret ?_
    have hz : s.data.toList.drop i.toNat = [] := List.drop_eq_nil_of_le (by simp; omega)
    rw [e1, hz]
    rfl

def Stop (L : List UInt8) : Prop := ∀ c L', L = c :: L' → wordU c = false
theorem split_word (L : List UInt8) : ∃ w post, L = w ++ post ∧ w.all wordU = true ∧ Stop post := by
  induction L with
  | nil => exact ⟨[], [], rfl, rfl, fun c L' e => by cases e⟩
  | cons c L ih =>
    cases h : wordU c with
    | true =>
      obtain ⟨w, post, e, h1, h2⟩ := ih
      exact ⟨c :: w, post, by rw [e]; rfl, by rw [List.all_cons, h, h1]; rfl, h2⟩
    | false => exact ⟨[], c :: L, rfl, rfl, fun c' L' e => by injection e with e1 _; rw [← e1]; exact h⟩
theorem scanS_ev (s : ByteArray) (hs : s.size ≤ 20000) (post : List UInt8) (hp : Stop post) : ∀ (w : List UInt8) (p : Int), At s p (w ++ post) → w.all wordU = true → EvP (fun k => note_parser_scan.f k s p) (· = p + w.length)
  | [], p, h, _ => by
    refine EvP.step (fun k => by rw [note_parser_scan.f]) ?_
    have h : At s p post := h
    cases post with
    | nil =>
      have := h.nil
      exact EvP.neg (by omega) (EvP.ret (by simp))
    | cons c L' =>
      obtain ⟨h1, h2, h3⟩ := h.cons
      refine EvP.pos h1 (EvP.pos h.1 ?_)
      rw [h2, show (⟨#[97, 98, 99, 100, 101, 102, 103, 104, 105, 106, 107, 108, 109, 110, 111, 112, 113, 114, 115, 116, 117, 118, 119, 120, 121, 122, 48, 49, 50, 51, 52, 53, 54, 55, 56, 57, 45]⟩ : ByteArray) = ⟨letU.toArray⟩ from rfl, ix_val]
      have e := let_ix c
      rw [hp c L' rfl] at e
      exact EvP.neg (by simpa using e) (EvP.ret (by simp))
  | c :: w, p, h, ha => by
    refine EvP.step (fun k => by rw [note_parser_scan.f]) ?_
    have h' : At s p (c :: (w ++ post)) := h
    obtain ⟨h1, h2, h3⟩ := h'.cons
    rw [List.all_cons, Bool.and_eq_true] at ha
    refine EvP.pos h1 (EvP.pos h.1 ?_)
    rw [h2, show (⟨#[97, 98, 99, 100, 101, 102, 103, 104, 105, 106, 107, 108, 109, 110, 111, 112, 113, 114, 115, 116, 117, 118, 119, 120, 121, 122, 48, 49, 50, 51, 52, 53, 54, 55, 56, 57, 45]⟩ : ByteArray) = ⟨letU.toArray⟩ from rfl, ix_val]
    have e := let_ix c
    rw [ha.1] at e
    have := h.1
    refine EvP.pos (by simpa using e) ?_
    rw [w64 (x := p + 1) (by omega) (by omega)]
    refine (scanS_ev s hs post hp w (p + 1) h3 ha.2).mono ?_
    rintro r rfl
    simp
    omega
theorem wordI_U (c : UInt8) : wordI (c.toNat : Int) = wordU c := by
  unfold wordU wordI
  rw [Bool.eq_iff_iff]
  simp only [Bool.or_eq_true, Bool.and_eq_true, decide_eq_true_eq]
  omega
theorem rscan_ev (s : ByteArray) (hs : s.size ≤ 20000) (p0 : Int) (b : Bool) {P : Int × ByteArray × Int × List S33 × ByteArray × Int × Bool → Prop} (post : List UInt8) (hp : Stop post) : ∀ (w : List UInt8) (p : Int), At s p (w ++ post) → w.all wordU = true → EvP (fun k => incunableref25_reader_word.j1 k p0 s (p + w.length) b) P → EvP (fun k => incunableref25_reader_word.l0 k p0 s p b) P
  | [], p, h, _, K => by
    refine EvP.step (fun k => by rw [incunableref25_reader_word.l0]) ?_
    have h : At s p post := h
    simp only [List.length_nil, Int.natCast_zero, Int.add_zero] at K
    cases post with
    | nil =>
      have := h.nil
      exact EvP.neg (by omega) K
    | cons c L' =>
      obtain ⟨h1, h2, h3⟩ := h.cons
      refine EvP.pos h1 (EvP.pos h.1 (EvP.bindv (isWordR _) ?_))
      rw [h2, wordI_U, hp c L' rfl]
      exact EvP.neg (by decide) K
  | c :: w, p, h, ha, K => by
    refine EvP.step (fun k => by rw [incunableref25_reader_word.l0]) ?_
    have h' : At s p (c :: (w ++ post)) := h
    obtain ⟨h1, h2, h3⟩ := h'.cons
    rw [List.all_cons, Bool.and_eq_true] at ha
    have := h.1
    refine EvP.pos h1 (EvP.pos h.1 (EvP.bindv (isWordR _) ?_))
    rw [h2, wordI_U, ha.1]
    refine EvP.pos rfl ?_
    rw [w64 (x := p + 1) (by omega) (by omega)]
    refine rscan_ev s hs p0 b post hp w (p + 1) h3 ha.2 ?_
    rw [show p + 1 + (w.length : Int) = p + ((c :: w).length : Nat) by simp; omega]
    exact K
theorem itz_inj {m n : Int} (hm0 : -999999 ≤ m) (hm1 : m ≤ 999999) (hn0 : -999999 ≤ n) (hn1 : n ≤ 999999) (h : itz m = itz n) : m = n := by
  have e := atoi_itz m hm0 hm1
  rw [h, atoi_itz n hn0 hn1] at e
  injection e with e
  exact e.symm
/-- A word, read by both: a number, a name, or a fault. -/
theorem word_both (s : ByteArray) (hs : s.size ≤ 20000) (p : Int) (w post : List UInt8) (h : At s p (w ++ post)) (ha : w.all wordU = true) (hp : Stop post) :
    (∃ k t n, oneB k t n 0 = true ∧ (1 ≤ w.length ∧ (txE ⟨k, t, n, []⟩).length = w.length) ∧ EvP (fun f => note_parser_word.f f s p) (· = (k, t, n, true, p + w.length)) ∧ EvP (fun f => incunableref25_reader_word.f f s p false) (· = (k, t, n, [], s, p + w.length, false))) ∨
    (∃ x1 x2 x3 y, EvP (fun f => note_parser_word.f f s p) (· = (x1, x2, x3, false, p + w.length)) ∧ EvP (fun f => incunableref25_reader_word.f f s p false) (· = (1, y, 0, [], s, p + w.length, true))) := by
  have hl := h.app.2.1
  have h0 := h.1
  have el : (⟨w.toArray⟩ : ByteArray).data.toList = w := rfl
  have esz : (⟨w.toArray⟩ : ByteArray).size = w.length := by simp [ByteArray.size]
  have prog : EvP (fun f => note_parser_word.f f s p) (fun r => if nameB ⟨w.toArray⟩ = true then r = (1, ⟨w.toArray⟩, 0, true, p + w.length) else r = (2, (⟨#[]⟩ : ByteArray), (atoiR ⟨w.toArray⟩).1, ((atoiR ⟨w.toArray⟩).2 && ((⟨(itz (atoiR ⟨w.toArray⟩).1).toArray⟩ : ByteArray).toList == (⟨w.toArray⟩ : ByteArray).toList) && decide (-999999 ≤ (atoiR ⟨w.toArray⟩).1) && decide ((atoiR ⟨w.toArray⟩).1 ≤ 999999)), p + w.length)) := by
    unfold note_parser_word.f
    refine EvP.bind (scanS_ev s hs post hp w p h ha) (fun j hj => ?_)
    subst hj
    refine EvP.pos ⟨h.1, by omega, hl, by omega⟩ ?_
    rw [cut_at h]
    refine EvP.bindv (nameP _) (EvP.ite (fun c => EvP.ret ?_) (fun c => EvP.ret ?_))
    · rw [if_pos c]
    · rw [if_neg c]
  have ref : ∀ r : Int × Bool, NumIs w r → EvP (fun k => incunableref25_number.f k ⟨w.toArray⟩) (· = r) → EvP (fun f => incunableref25_reader_word.f f s p false) (fun q => if r.2 = true then q = (2, (⟨#[]⟩ : ByteArray), r.1, [], s, p + w.length, false) else q = (1, ⟨w.toArray⟩, 0, [], s, p + w.length, !(nameB ⟨w.toArray⟩))) := by
    intro r hr hn
    unfold incunableref25_reader_word.f
    refine rscan_ev s hs p false post hp w p h ha ?_
    refine EvP.step (fun k => by rw [incunableref25_reader_word.j1]) (EvP.pos h.1 (EvP.pos (by omega) (EvP.pos hl ?_)))
    rw [cut_at h]
    refine EvP.bind hn (fun q hq => ?_)
    subst hq
    refine EvP.ite (fun c => EvP.ret ?_) (fun c => ?_)
    · rw [if_pos c]
    · refine EvP.neg (by decide) (EvP.bind (nameR _ (by omega)) (fun t ht => EvP.ret ?_))
      subst ht
      rw [if_neg c]
  obtain ⟨r, hr, hnum⟩ := number_ev ⟨w.toArray⟩ (by omega)
  rw [el] at hnum
  have ref := ref r hnum ⟨r, hr, rfl⟩
  cases hb : r.2 with
  | true =>
    obtain ⟨m1, m2, m3⟩ := hnum.1 hb
    obtain ⟨_, c, l, e2, e3, e4⟩ := itz_word r.1
    simp only [hb, ↓reduceIte] at ref
    have hnm : nameB ⟨w.toArray⟩ = false := by
      rw [m1, e2]
      have : bt ⟨(c :: l).toArray⟩ 0 = (c.toNat : Int) := rfl
      unfold nameB
      have h2 : ¬ (97 : Int) ≤ bt ⟨(c :: l).toArray⟩ 0 := by rw [this]; omega
      simp [h2]
    simp only [hnm, Bool.false_eq_true, ↓reduceIte] at prog
    refine .inl ⟨2, ⟨#[]⟩, r.1, ?_, ⟨by rw [m1, e2]; simp, ?_⟩, prog.mono (fun q hq => ?_), ref⟩
    · unfold oneB
      rw [if_neg (by decide), if_neg (by decide), if_pos rfl]
      have e5 : (⟨#[]⟩ : ByteArray).toList = ([] : List UInt8) := by rw [ByteArray.toList_eq]
      simp [e5, m2, m3]
    · rw [txE, if_neg (by decide), if_neg (by decide), if_pos rfl, m1]
    · have ea : atoiR ⟨w.toArray⟩ = (r.1, true) := by
        unfold atoiR
        rw [el, m1, atoi_itz r.1 m2 m3]
      rw [hq, ea, ← m1]
      simp [m2, m3]
  | false =>
    simp only [hb, Bool.false_eq_true, ↓reduceIte] at ref
    cases hnm : nameB ⟨w.toArray⟩ with
    | true =>
      simp only [hnm, ↓reduceIte] at prog
      simp only [hnm, Bool.not_true] at ref
      have hln := nameB_len hnm
      rw [esz] at hln
      refine .inl ⟨1, ⟨w.toArray⟩, 0, ?_, ⟨hln.1, ?_⟩, prog, ref⟩
      · unfold oneB
        rw [if_neg (by decide), if_pos rfl, hnm]
        decide
      · rw [txE, if_neg (by decide), if_pos rfl]
    | false =>
      simp only [hnm, Bool.false_eq_true, ↓reduceIte] at prog
      simp only [hnm, Bool.not_false] at ref
      refine .inr ⟨2, ⟨#[]⟩, (atoiR ⟨w.toArray⟩).1, ⟨w.toArray⟩, prog.mono (fun q hq => ?_), ref⟩
      rw [hq]
      have e : ((atoiR ⟨w.toArray⟩).2 && ((⟨(itz (atoiR ⟨w.toArray⟩).1).toArray⟩ : ByteArray).toList == (⟨w.toArray⟩ : ByteArray).toList) && decide (-999999 ≤ (atoiR ⟨w.toArray⟩).1) && decide ((atoiR ⟨w.toArray⟩).1 ≤ 999999)) = false := by
        cases hx : ((atoiR ⟨w.toArray⟩).2 && ((⟨(itz (atoiR ⟨w.toArray⟩).1).toArray⟩ : ByteArray).toList == (⟨w.toArray⟩ : ByteArray).toList) && decide (-999999 ≤ (atoiR ⟨w.toArray⟩).1) && decide ((atoiR ⟨w.toArray⟩).1 ≤ 999999)) with
        | false => rfl
        | true =>
          simp only [Bool.and_eq_true, decide_eq_true_eq, beq_iff_eq] at hx
          have e1 := hx.1.1.2
          rw [ByteArray.toList_eq, ByteArray.toList_eq] at e1
          exact absurd e1.symm (hnum.2 hb _ hx.1.2 hx.2)
      rw [e]

theorem escU_app : ∀ a b : List UInt8, escU (a ++ b) = escU a ++ escU b
  | [], b => rfl
  | c :: a, b => by rw [List.cons_append, escU, escU, escU_app a b, List.append_assoc]
theorem escU_snoc (o : List Int) (c : UInt8) : ((escU (strOfNums (o ++ [(c.toNat : Int)])).data.toList).length : Int) = (escU (strOfNums o).data.toList).length + (if c.toNat = 34 ∨ c.toNat = 92 then 2 else 1) := by
  rw [strOfNums_data, strOfNums_data, List.map_append, escU_app]
  simp only [List.map_cons, List.map_nil, ofNat_byte, escU, List.length_append, List.append_nil]
  by_cases h : c.toNat = 34
  · rw [if_pos h, if_pos (.inl h)]; simp
  · by_cases h' : c.toNat = 92
    · rw [if_neg h, if_pos h', if_pos (.inr h')]; simp
    · rw [if_neg h, if_neg h', if_neg (fun k => k.elim h h')]; simp
/-- A text behind its first sign, read by both. -/
theorem text_both {s : ByteArray} (hs : s.size ≤ 20000) : ∀ (n : Nat) (L : List UInt8) (o : List Int) (i : Int), L.length ≤ n → At s i L → (o.length : Int) ≤ i →
    (∃ O j, O.length ≤ 200 ∧ i < j ∧ j ≤ s.size ∧ ((escU (strOfNums O).data.toList).length : Int) = (escU (strOfNums o).data.toList).length + (j - 1 - i) ∧ EvP (fun k => note_parser_quoted.l0 k s o i) (· = (strOfNums O, true, j)) ∧ EvP (fun k => incunableref25_reader_text.l0 k o s i false) (· = (3, strOfNums O, 0, [], s, j, false))) ∨
    (∃ x j, EvP (fun k => note_parser_quoted.l0 k s o i) (· = (x, false, j)) ∧ EvP (fun k => incunableref25_reader_text.l0 k o s i false) (fun r => r.2.2.2.2.2.2 = true ∧ r.2.2.2.2.1 = s ∧ 0 ≤ r.2.2.2.2.2.1 ∧ r.2.2.2.2.2.1 ≤ s.size + 1))
  | n, [], o, i, _, h, ho => by
    have hi := h.nil
    refine .inr ⟨_, _, EvP.step (fun k => by rw [note_parser_quoted.l0]) (EvP.neg (by omega) (EvP.ret rfl)), ?_⟩
    refine EvP.step (fun k => by rw [incunableref25_reader_text.l0]) (EvP.neg (by omega) ?_)
    have h0 := h.1
    refine EvP.step (fun k => by rw [incunableref25_reader_text.j1]) (EvP.neg (by decide) (EvP.neg (by decide) (EvP.pos (by omega) ?_)))
    rw [w64 (x := i + 1) (by omega) (by omega)]
    exact EvP.ret ⟨rfl, rfl, by show 0 ≤ i + 1; omega, by show i + 1 ≤ _; omega⟩
  | 0, c :: L, o, i, hn, _, _ => by simp at hn
  | n + 1, c :: L, o, i, hn, h, ho => by
    obtain ⟨h1, h2, h3⟩ := h.cons
    have h0 := h.1
    simp only [List.length_cons] at hn
    by_cases c34 : c.toNat = 34
    · have prog : EvP (fun k => note_parser_quoted.l0 k s o i) (· = (strOfNums o, decide ((o.length : Int) ≤ 200), i + 1)) := by
        refine EvP.step (fun k => by rw [note_parser_quoted.l0]) (EvP.pos h1 (EvP.pos h0 ?_))
        rw [h2, w64 (x := i + 1) (by omega) (by omega)]
        exact EvP.pos (by omega) (EvP.ret rfl)
      have ref : EvP (fun k => incunableref25_reader_text.l0 k o s i false) (· = (3, strOfNums o, 0, [], s, i + 1, decide ((o.length : Int) > 200))) := by
        refine EvP.step (fun k => by rw [incunableref25_reader_text.l0]) (EvP.pos h1 (EvP.pos h0 ?_))
        have e : (bt s i != 34) = false := by rw [h2, c34]; rfl
        rw [e]
        refine EvP.step (fun k => by rw [incunableref25_reader_text.j1]) (EvP.neg (by decide) (EvP.neg (by decide) (EvP.neg (by omega) ?_)))
        rw [w64 (x := i + 1) (by omega) (by omega)]
        exact EvP.ret rfl
      by_cases hl : o.length ≤ 200
      · have e1 : decide ((o.length : Int) ≤ 200) = true := by simp; omega
        have e2 : decide ((o.length : Int) > 200) = false := by simp; omega
        rw [e1] at prog
        rw [e2] at ref
        exact .inl ⟨o, i + 1, hl, by omega, by omega, by omega, prog, ref⟩
      · have e1 : decide ((o.length : Int) ≤ 200) = false := by simp; omega
        have e2 : decide ((o.length : Int) > 200) = true := by simp; omega
        rw [e1] at prog
        rw [e2] at ref
        exact .inr ⟨_, _, prog, ref.mono (fun r hr => by subst hr; exact ⟨rfl, rfl, by show 0 ≤ i + 1; omega, by show i + 1 ≤ _; omega⟩)⟩
    have e34 : (bt s i != 34) = true := by rw [h2]; exact bne_iff_ne.mpr (by omega)
    have refgo : ∀ {P : Int × ByteArray × Int × List S33 × ByteArray × Int × Bool → Prop}, EvP (fun k => if bt s i = 92 then (if (wrap64 (i + 1)) ≥ (s.size : Int) then (some (0, (⟨#[]⟩ : ByteArray), 0, ([] : List (S33)), s, wrap64 (i + 1), true)) else (if 0 ≤ (wrap64 (i + 1)) then (if (wrap64 (i + 1)) < (s.size : Int) then (if (bt s (wrap64 (i + 1))) = 34 then (if o.length < 140737488355328 then (incunableref25_reader_text.l0 k (o ++ [bt s (wrap64 (i + 1))]) s (wrap64 ((wrap64 (i + 1)) + 1)) false) else (none)) else (if (bt s (wrap64 (i + 1))) = 92 then (if o.length < 140737488355328 then (incunableref25_reader_text.l0 k (o ++ [bt s (wrap64 (i + 1))]) s (wrap64 ((wrap64 (i + 1)) + 1)) false) else (none)) else (some (0, (⟨#[]⟩ : ByteArray), 0, ([] : List (S33)), s, wrap64 (i + 1), true)))) else (none)) else (none))) else (if o.length < 140737488355328 then (incunableref25_reader_text.l0 k (o ++ [bt s i]) s (wrap64 (i + 1)) false) else (none))) P → EvP (fun k => incunableref25_reader_text.l0 k o s i false) P := by
      intro P K
      refine EvP.step (fun k => by rw [incunableref25_reader_text.l0]) (EvP.pos h1 (EvP.pos h0 ?_))
      rw [e34]
      exact EvP.step (fun k => by rw [incunableref25_reader_text.j1]) (EvP.pos rfl (EvP.pos h0 (EvP.pos h1 K)))
    have proggo : ∀ {P : ByteArray × Bool × Int → Prop}, EvP (fun k => if bt s i = 92 then (if wrap64 (i + 1) = (s.size : Int) then some ((⟨#[]⟩ : ByteArray), false, wrap64 (i + 1)) else (if 0 ≤ wrap64 (i + 1) then (if wrap64 (i + 1) < (s.size : Int) then (if bt s (wrap64 (i + 1)) = 34 then (if (o.length + 1) * 1 ≤ 140737488355328 then note_parser_quoted.l0 k s (o ++ [bt s (wrap64 (i + 1))]) (wrap64 (wrap64 (i + 1) + 1)) else none) else (if bt s (wrap64 (i + 1)) = 92 then (if (o.length + 1) * 1 ≤ 140737488355328 then note_parser_quoted.l0 k s (o ++ [bt s (wrap64 (i + 1))]) (wrap64 (wrap64 (i + 1) + 1)) else none) else some ((⟨#[]⟩ : ByteArray), false, wrap64 (i + 1)))) else none) else none)) else (if (o.length + 1) * 1 ≤ 140737488355328 then note_parser_quoted.l0 k s (o ++ [bt s i]) (wrap64 (i + 1)) else none)) P → EvP (fun k => note_parser_quoted.l0 k s o i) P := by
      intro P K
      exact EvP.step (fun k => by rw [note_parser_quoted.l0]) (EvP.pos h1 (EvP.pos h0 (EvP.neg (by omega) K)))
    rw [h2, w64 (x := i + 1) (by omega) (by omega)] at refgo proggo
    by_cases c92 : c.toNat = 92
    · cases L with
      | nil =>
        have he := h3.nil
        exact .inr ⟨_, _, proggo (EvP.pos (by omega) (EvP.pos he (EvP.ret rfl))), refgo (EvP.pos (by omega) (EvP.pos (by omega) (EvP.ret ⟨rfl, rfl, by show 0 ≤ i + 1; omega, by show i + 1 ≤ _; omega⟩)))⟩
      | cons d L =>
        obtain ⟨g1, g2, g3⟩ := h3.cons
        simp only [List.length_cons] at hn
        rw [g2, w64 (x := i + 1 + 1) (by omega) (by omega)] at refgo proggo
        have hsn := escU_snoc o d
        by_cases d34 : d.toNat = 34
        · rw [if_pos (.inl d34)] at hsn
          rcases text_both hs n L (o ++ [(d.toNat : Int)]) (i + 1 + 1) (by omega) g3 (by simp; omega) with ⟨O, j, q1, q2, q3, q4, q5, q6⟩ | ⟨x, j, q5, q6⟩
          · exact .inl ⟨O, j, q1, by omega, q3, by omega, proggo (EvP.pos (by omega) (EvP.neg (by omega) (EvP.pos (by omega) (EvP.pos g1 (EvP.pos (by omega) (EvP.pos (by omega) q5)))))), refgo (EvP.pos (by omega) (EvP.neg (by omega) (EvP.pos (by omega) (EvP.pos g1 (EvP.pos (by omega) (EvP.pos (by omega) q6))))))⟩
          · exact .inr ⟨x, j, proggo (EvP.pos (by omega) (EvP.neg (by omega) (EvP.pos (by omega) (EvP.pos g1 (EvP.pos (by omega) (EvP.pos (by omega) q5)))))), refgo (EvP.pos (by omega) (EvP.neg (by omega) (EvP.pos (by omega) (EvP.pos g1 (EvP.pos (by omega) (EvP.pos (by omega) q6))))))⟩
        by_cases d92 : d.toNat = 92
        · rw [if_pos (.inr d92)] at hsn
          rcases text_both hs n L (o ++ [(d.toNat : Int)]) (i + 1 + 1) (by omega) g3 (by simp; omega) with ⟨O, j, q1, q2, q3, q4, q5, q6⟩ | ⟨x, j, q5, q6⟩
          · exact .inl ⟨O, j, q1, by omega, q3, by omega, proggo (EvP.pos (by omega) (EvP.neg (by omega) (EvP.pos (by omega) (EvP.pos g1 (EvP.neg (by omega) (EvP.pos (by omega) (EvP.pos (by omega) q5))))))), refgo (EvP.pos (by omega) (EvP.neg (by omega) (EvP.pos (by omega) (EvP.pos g1 (EvP.neg (by omega) (EvP.pos (by omega) (EvP.pos (by omega) q6)))))))⟩
          · exact .inr ⟨x, j, proggo (EvP.pos (by omega) (EvP.neg (by omega) (EvP.pos (by omega) (EvP.pos g1 (EvP.neg (by omega) (EvP.pos (by omega) (EvP.pos (by omega) q5))))))), refgo (EvP.pos (by omega) (EvP.neg (by omega) (EvP.pos (by omega) (EvP.pos g1 (EvP.neg (by omega) (EvP.pos (by omega) (EvP.pos (by omega) q6)))))))⟩
        exact .inr ⟨_, _, proggo (EvP.pos (by omega) (EvP.neg (by omega) (EvP.pos (by omega) (EvP.pos g1 (EvP.neg (by omega) (EvP.neg (by omega) (EvP.ret rfl))))))), refgo (EvP.pos (by omega) (EvP.neg (by omega) (EvP.pos (by omega) (EvP.pos g1 (EvP.neg (by omega) (EvP.neg (by omega) (EvP.ret ⟨rfl, rfl, by show 0 ≤ i + 1; omega, by show i + 1 ≤ _; omega⟩)))))))⟩
    · have hsn := escU_snoc o c
      rw [if_neg (fun k => k.elim c34 c92)] at hsn
      rcases text_both hs n L (o ++ [(c.toNat : Int)]) (i + 1) (by omega) h3 (by simp; omega) with ⟨O, j, q1, q2, q3, q4, q5, q6⟩ | ⟨x, j, q5, q6⟩
      · exact .inl ⟨O, j, q1, by omega, q3, by omega, proggo (EvP.neg (by omega) (EvP.pos (by omega) q5)), refgo (EvP.neg (by omega) (EvP.pos (by omega) q6))⟩
      · exact .inr ⟨x, j, proggo (EvP.neg (by omega) (EvP.pos (by omega) q5)), refgo (EvP.neg (by omega) (EvP.pos (by omega) q6))⟩

theorem measure_ev : ∀ (n : Nat) (a0 : Int) (a1 : ByteArray) (a2 : Int) (l : List S33), cntEL l < n → GE l → cntEL l ≤ 6000 →
    EvP (fun k => incunableref25_measure.f k a0 a1 a2 l) (fun r => r.1 = 1 + cntEL l ∧ r.2 = 1 + dpEL l)
  | 0, _, _, _, _, h, _, _ => by omega
  | n + 1, a0, a1, a2, l, hn, hg, hc => by
    refine EvP.step (fun k => by rw [incunableref25_measure.f]) ?_
    have hmx : ∀ x y : Int, mx x y = max x y := fun x y => by unfold mx; split <;> omega
    have hdc := dpE_cnt (cntEL l + 1) l (by omega)
    refine EvP.up (L := fun k i (s : Int × Int) => incunableref25_measure.l0 k s.1 s.2 i a0 a1 a2 l) (fun i s => 0 ≤ i ∧ 0 ≤ s.1 ∧ 0 ≤ s.2 ∧ s.1 + cntEL (l.drop i.toNat) = 1 + cntEL l ∧ max s.2 (dpEL (l.drop i.toNat) : Int) = dpEL l) l.length ?_ 0 (1, 0) (by omega) ⟨by omega, by simp, by simp, by simp, by simp⟩
    intro i s hi hin ih
    obtain ⟨i0, hs0, hs1, e2, e3⟩ := hi
    refine EvP.step (fun k => by rw [incunableref25_measure.l0]) ?_
    refine EvP.ite (fun c1 => ?_) (fun c1 => ?_)
    · refine EvP.pos i0 ?_
      obtain ⟨_, k1, _, k3⟩ := hg.kids (rd_mem33 l i i0 c1)
      have hlen := hg.1
      have hk := cntE_kid l i i0 c1
      rw [cntEL_drop l i i0 c1] at e2
      rw [dpEL_drop l i i0 c1] at e3
      refine EvP.bind (measure_ev n _ _ _ (rd_T33 l i).f3 (by omega) k3 (by omega)) (fun r hr => ?_)
      obtain ⟨r1, r2⟩ := hr
      rw [w64 (x := i + 1) (by omega) (by omega), w64 (x := s.1 + r.1) (by omega) (by omega), hmx]
      exact ih (s.1 + r.1, max s.2 r.2) c1 ⟨by omega, by show 0 ≤ s.1 + r.1; omega, by show 0 ≤ max _ _; omega, by show s.1 + r.1 + _ = _; omega, by show max (max _ _) _ = _; omega⟩
    · rw [drop_none33 l i i0 c1] at e2 e3
      simp only [cntEL, dpEL] at e2 e3
      refine EvP.ret ⟨by show s.1 = _; omega, ?_⟩
      show wrap64 (s.2 + 1) = _
      rw [w64 (x := s.2 + 1) (by omega) (by omega)]
      omega

abbrev RO := Int × ByteArray × Int × List S33 × ByteArray × Int × Bool
def ERRP : RP := (0, (⟨#[]⟩ : ByteArray), 0, [], 3)
theorem blank_both {s : ByteArray} (hs : s.size ≤ 20000) : ∀ (L : List UInt8) (p : Int), At s p L → ∃ q L', p ≤ q ∧ At s q L' ∧ L'.length ≤ L.length ∧ NoSp L' ∧ EvP (fun k => note_parser_spaces.f k s p) (· = q) ∧ ∀ b, EvP (fun k => incunableref25_reader_blank.f k s p b) (· = (s, q, b))
  | [], p, h => by
    have := h.nil
    refine ⟨p, [], by omega, h, by simp, (fun c L' e => (by cases e)), spaces0 s hs p [] h (fun c L' e => (by cases e)), fun b => ?_⟩
    unfold incunableref25_reader_blank.f
    exact EvP.step (fun k => by rw [incunableref25_reader_blank.l0]) (EvP.neg (by omega) (EvP.ret rfl))
  | c :: L, p, h => by
    obtain ⟨h1, h2, h3⟩ := h.cons
    have h0 := h.1
    cases hc : spU c with
    | false =>
      have hn : NoSp (c :: L) := fun c' L' e => by injection e with e1 _; rw [← e1]; exact hc
      refine ⟨p, c :: L, by omega, h, by simp, hn, spaces0 s hs p _ h hn, fun b => ?_⟩
      unfold incunableref25_reader_blank.f
      refine EvP.step (fun k => by rw [incunableref25_reader_blank.l0]) (EvP.pos h1 (EvP.pos h0 ?_))
      rw [h2]
      unfold spU at hc
      simp only [Bool.or_eq_false_iff, decide_eq_false_iff_not] at hc
      exact EvP.neg (by omega) (EvP.neg (by omega) (EvP.neg (by omega) (EvP.ret rfl)))
    | true =>
      obtain ⟨q, L', g1, g2, g3, g4, g5, g6⟩ := blank_both hs L (p + 1) h3
      refine ⟨q, L', by omega, g2, by simp; omega, g4, ?_, fun b => ?_⟩
      · refine EvP.step (fun k => by rw [note_parser_spaces.f]) (EvP.pos h1 (EvP.pos h0 ?_))
        rw [h2, ix_val]
        have e := sp_ix c
        rw [hc] at e
        refine EvP.bindv rfl (EvP.pos (by simpa using e) ?_)
        rw [w64 (x := p + 1) (by omega) (by omega)]
        exact g5
      · have g6 := g6 b
        unfold incunableref25_reader_blank.f at g6 ⊢
        refine EvP.step (fun k => by rw [incunableref25_reader_blank.l0]) (EvP.pos h1 (EvP.pos h0 ?_))
        rw [h2, w64 (x := p + 1) (by omega) (by omega)]
        exact EvP.ite (fun _ => g6) (fun a1 => EvP.ite (fun _ => g6) (fun a2 => EvP.ite (fun _ => g6) (fun a3 => by
          unfold spU at hc
          simp only [Bool.or_eq_true, decide_eq_true_eq] at hc
          omega)))
theorem ends_ok2 (at_ : Int) (rs : List (List S33)) (d m : Int) (x0 e : S33) (h : rs.length ≤ 20000) (hk : ∀ ks r, rs = ks :: r → ks.length ≤ 20000) :
    note_parser_ends.f ⟨at_, rs, d, m, false, x0⟩ e = some (endq at_ rs d m x0 e) := by
  cases rs with
  | nil => rfl
  | cons ks r =>
    have h1 := hk ks r rfl
    simp only [List.length_cons] at h
    unfold note_parser_ends.f endq
    dsimp only
    rw [if_pos ⟨by omega, by omega⟩]
theorem mx_mx (a b c : Int) (h : b ≤ c) : mx (mx a b) c = mx a c := by unfold mx; (repeat' split) <;> omega
theorem mx_max (a : Int) (b c : Nat) (k : Int) : mx (mx a (k + b)) (k + c) = mx a (k + (max b c : Nat)) := by unfold mx; (repeat' split) <;> omega
/-- What the machine holds around the place p. -/
def Held (p : Int) (rs : List (List S33)) (m : Int) : Prop := (rs.length : Int) ≤ p ∧ (∀ ks r, rs = ks :: r → (ks.length : Int) ≤ p) ∧ 0 ≤ m ∧ m ≤ p
def OneR (s : ByteArray) (p : Int) : Prop := ∃ r : RO, EvP (fun k => incunableref25_reader_one.f k s p false) (· = r) ∧
  (((r.2.2.2.2.2.2 = true ∧ r.2.2.2.2.1 = s ∧ 0 ≤ r.2.2.2.2.2.1 ∧ r.2.2.2.2.2.1 ≤ 10 * (s.size : Int) + 10 - 2 * p) ∧ ∀ (rs : List (List S33)) (d m : Int) (x0 : S33), Held p rs m → (p < s.size → bt s p = 41 → rs = []) → EvP (fun k => note_Parse.l0 k s ⟨p, rs, d, m, false, x0⟩) (· = ERRP)) ∨
   (∃ (x : S33) (q : Int), r = (x.f0, x.f1, x.f2, x.f3, s, q, false) ∧ p < q ∧ q ≤ s.size ∧ rightE x = true ∧ ((txE x).length : Int) + 1 ≤ 2 * (q - p) ∧ (cntE x : Int) ≤ q - p ∧
     ∀ (P : RP → Prop) (rs : List (List S33)) (d m : Int) (x0 : S33), Held p rs m → EvP (fun k => SL k s (endq q rs (mx d ((rs.length : Int) + dpE x)) (m + cntE x) x0 x)) P → EvP (fun k => note_Parse.l0 k s ⟨p, rs, d, m, false, x0⟩) P))
def ListR (s : ByteArray) (p : Int) : Prop := ∀ acc : List S33, (acc.length : Int) ≤ p → ∃ r : RO, EvP (fun k => incunableref25_reader_one.l0 k s p false 0 (⟨#[]⟩ : ByteArray) 0 acc) (· = r) ∧
  (((r.2.2.2.2.2.2 = true ∧ r.2.2.2.2.1 = s ∧ 0 ≤ r.2.2.2.2.2.1 ∧ r.2.2.2.2.2.1 ≤ 10 * (s.size : Int) + 11 - 2 * p) ∧ ∀ (rs : List (List S33)) (d m : Int) (x0 : S33), Held p (acc :: rs) m → (∀ ks r, rs = ks :: r → (ks.length : Int) ≤ p) → EvP (fun k => note_Parse.l0 k s ⟨p, acc :: rs, d, m, false, x0⟩) (· = ERRP)) ∨
   (∃ (xs : List S33) (q : Int), r = (0, (⟨#[]⟩ : ByteArray), 0, acc ++ xs, s, q, false) ∧ p < q ∧ q ≤ s.size ∧ rightEL xs = true ∧ ((txR true xs).length : Int) + 2 ≤ 2 * (q - p) ∧ (cntEL xs : Int) + 1 ≤ q - p ∧
     ∀ (P : RP → Prop) (rs : List (List S33)) (d m : Int) (x0 : S33), Held p (acc :: rs) m → (∀ ks r, rs = ks :: r → (ks.length : Int) ≤ p) → EvP (fun k => SL k s (endq q rs (mx d ((rs.length : Int) + (1 + dpEL xs : Nat))) (m + cntEL xs) x0 ⟨0, ⟨#[]⟩, 0, acc ++ xs⟩)) P → EvP (fun k => note_Parse.l0 k s ⟨p, acc :: rs, mx d ((rs.length : Int) + 1), m, false, x0⟩) P))
theorem step_fault {s : ByteArray} {q : Ps} (hq : q.at_ < s.size) (h : EvP (fun k => note_parser_step.f k s q) (fun t => t.1 = false)) : EvP (fun k => note_Parse.l0 k s q) (· = ERRP) := by
  refine EvP.step (fun k => by rw [note_Parse.l0]) (EvP.pos hq (EvP.bind h (fun t ht => ?_)))
  rw [ht]
  exact EvP.neg (by decide) (EvP.ret rfl)
theorem end_fault {s : ByteArray} {q : Ps} (hq : ¬ q.at_ < s.size) (h : q.done = false) : EvP (fun k => note_Parse.l0 k s q) (· = ERRP) := by
  obtain ⟨at_, rs, d, m, done, x⟩ := q
  have h : done = false := h
  subst h
  refine EvP.step (fun k => by rw [note_Parse.l0]) ?_
  refine EvP.neg hq ?_
  exact EvP.neg Bool.false_ne_true (EvP.ret rfl)
theorem txR_le : ∀ (xs : List S33), (txR false xs).length ≤ (txR true xs).length
  | [] => by simp [txR]
  | x :: xs => by simp [txR]
theorem one_of_list {s : ByteArray} (hs : s.size ≤ 20000) (p : Int) (c : UInt8) (L : List UInt8) (h : At s p (c :: L)) (hL : ∀ q L', p < q → At s q L' → L'.length ≤ L.length → ListR s q) : OneR s p := by
  obtain ⟨h1, h2, h3⟩ := h.cons
  have h0 := h.1
  have refgo : ∀ {P : RO → Prop}, EvP (fun k => if (bt s p) = 34 then ((incunableref25_reader_text.f k s p false).bind fun bt146 => (some (bt146.1, bt146.2.1, bt146.2.2.1, bt146.2.2.2.1, bt146.2.2.2.2.1, bt146.2.2.2.2.2.1, bt146.2.2.2.2.2.2))) else (if (bt s p) = 40 then ((incunableref25_reader_blank.f k s (wrap64 (p + 1)) false).bind fun bt165 => (incunableref25_reader_one.l0 k bt165.1 bt165.2.1 bt165.2.2 0 (⟨#[]⟩ : ByteArray) 0 ([] : List (S33)))) else ((incunableref25_reader_word.f k s p false).bind fun bt155 => (some (bt155.1, bt155.2.1, bt155.2.2.1, bt155.2.2.2.1, bt155.2.2.2.2.1, bt155.2.2.2.2.2.1, bt155.2.2.2.2.2.2))))) P → EvP (fun k => incunableref25_reader_one.f k s p false) P := by
    intro P K
    exact EvP.step (fun k => by rw [incunableref25_reader_one.f]) (EvP.neg (by omega) (EvP.pos h0 (EvP.pos h1 K)))
  rw [h2, w64 (x := p + 1) (by omega) (by omega)] at refgo
  by_cases c34 : c.toNat = 34
  · have hstep : ∀ (rs : List (List S33)) (d m : Int) (x0 : S33), Held p rs m → ∀ {Q : Bool × Ps → Prop}, EvP (fun k => (note_parser_quoted.l0 k s [] (p + 1)).bind fun t => (note_parser_ends.f ⟨t.2.2, rs, mx d ((rs.length : Int) + 1), m + 1, false, x0⟩ ⟨3, t.1, 0, []⟩).bind fun st1 => some (t.2.1, st1)) Q → EvP (fun k => note_parser_step.f k s ⟨p, rs, d, m, false, x0⟩) Q := by
      intro rs d m x0 hh Q K
      obtain ⟨a1, a2, a3, a4⟩ := hh
      unfold note_parser_step.f
      dsimp only
      rw [h2, w64 (x := m + 1) (by omega) (by omega), w64 (x := p + 1) (by omega) (by omega)]
      exact EvP.pos ⟨h0, h1, by omega⟩ (EvP.neg (by omega) (EvP.neg (by decide) (EvP.neg (by omega) (EvP.pos (by omega) K))))
    rcases text_both hs L.length L [] (p + 1) (Nat.le_refl _) h3 (by simp; omega) with ⟨O, j, q1, q2, q3, q4, q5, q6⟩ | ⟨x, j, q5, q6⟩
    · refine ⟨(3, strOfNums O, 0, [], s, j, false), refgo (EvP.pos (by omega) ?_), .inr ⟨⟨3, strOfNums O, 0, []⟩, j, rfl, by omega, q3, ?_, ?_, ?_, ?_⟩⟩
      · unfold incunableref25_reader_text.f
        rw [w64 (x := p + 1) (by omega) (by omega)]
        exact EvP.bind q6 (fun r hr => EvP.ret (by rw [hr]))
      · have : (strOfNums O).size ≤ 200 := by rw [strOfNums_size]; exact q1
        simp [rightE, rightEL, oneB, this]
      · rw [txE, if_neg (by decide), if_neg (by decide), if_neg (by decide)]
        simp only [strOfNums_data, List.map_nil, escU, List.length_nil] at q4
        simp only [List.length_cons, List.length_append, List.length_nil, strOfNums_data]
        omega
      · simp [cntE, cntEL]; omega
      · intro P rs d m x0 hh K
        obtain ⟨a1, a2, a3, a4⟩ := hh
        refine go_on h1 (hstep rs d m x0 ⟨a1, a2, a3, a4⟩ (EvP.bind q5 (fun t ht => ?_))) K
        subst ht
        refine EvP.bindv (ends_ok2 _ rs _ _ x0 _ (by omega) (fun ks r e => by have := a2 ks r e; omega)) (EvP.ret ?_)
        simp [dpE, dpEL, cntE, cntEL]
    · obtain ⟨r, hr, hb⟩ := q6
      have hps := h.2.1
      refine ⟨r, refgo (EvP.pos (by omega) ?_), .inl ⟨⟨hb.1, hb.2.1, hb.2.2.1, by have := hb.2.2.2; omega⟩, fun rs d m x0 hh _ => ?_⟩⟩
      · unfold incunableref25_reader_text.f
        rw [w64 (x := p + 1) (by omega) (by omega)]
        exact EvP.bind ⟨r, hr, rfl⟩ (fun r' hr' => EvP.ret (by rw [hr']))
      · obtain ⟨a1, a2, a3, a4⟩ := hh
        refine step_fault h1 (hstep rs d m x0 ⟨a1, a2, a3, a4⟩ (EvP.bind q5 (fun t ht => ?_)))
        subst ht
        exact EvP.bindv (ends_ok2 _ rs _ _ x0 _ (by omega) (fun ks r e => by have := a2 ks r e; omega)) (EvP.ret rfl)
  by_cases c40 : c.toNat = 40
  · obtain ⟨q, L', g1, g2, g3, g4, g5, g6⟩ := blank_both hs L (p + 1) h3
    obtain ⟨r, hr, hcase⟩ := hL q L' (by omega) g2 g3 [] (by simp; omega)
    have hopen : ∀ {P : RP → Prop} (rs : List (List S33)) (d m : Int) (x0 : S33), Held p rs m → EvP (fun k => note_Parse.l0 k s ⟨q, [] :: rs, mx d ((rs.length : Int) + 1), m + 1, false, x0⟩) P → EvP (fun k => note_Parse.l0 k s ⟨p, rs, d, m, false, x0⟩) P := by
      intro P rs d m x0 hh K
      obtain ⟨a1, a2, a3, a4⟩ := hh
      refine go_on (q' := ⟨p + 1, [] :: rs, mx d ((rs.length : Int) + 1), m + 1, false, x0⟩) h1 ?_ (EvP.bind g5 (fun i hi => by subst hi; exact K))
      unfold note_parser_step.f
      dsimp only
      rw [h2, w64 (x := m + 1) (by omega) (by omega), w64 (x := p + 1) (by omega) (by omega)]
      exact EvP.pos ⟨h0, h1, by omega⟩ (EvP.neg (by omega) (EvP.neg (by decide) (EvP.pos (by omega) (EvP.pos (by omega) (EvP.ret rfl)))))
    have held : ∀ (rs : List (List S33)) (m : Int), Held p rs m → Held q ([] :: rs) (m + 1) ∧ (∀ ks r, rs = ks :: r → (ks.length : Int) ≤ q) := by
      intro rs m hh
      obtain ⟨a1, a2, a3, a4⟩ := hh
      refine ⟨⟨by simp; omega, fun ks r e => ?_, by omega, by omega⟩, fun ks r e => by have := a2 ks r e; omega⟩
      injection e with e1 _
      rw [← e1]
      simp; omega
    refine ⟨r, refgo (EvP.neg (by omega) (EvP.pos (by omega) (EvP.bind (g6 false) (fun b hb => by subst hb; exact hr)))), ?_⟩
    rcases hcase with ⟨hb, hf⟩ | ⟨xs, j, e, j1, j2, j3, j4, j5, hk⟩
    · exact .inl ⟨⟨hb.1, hb.2.1, hb.2.2.1, by have := hb.2.2.2; omega⟩, fun rs d m x0 hh _ => hopen rs d m x0 hh (hf rs _ _ x0 (held rs m hh).1 (held rs m hh).2)⟩
    · have hle := txR_le xs
      refine .inr ⟨⟨0, ⟨#[]⟩, 0, xs⟩, j, by rw [e, List.nil_append], by omega, j2, ?_, ?_, ?_, ?_⟩
      · have e5 : (⟨#[]⟩ : ByteArray).toList = ([] : List UInt8) := by rw [ByteArray.toList_eq]
        simp [rightE, oneB, j3, e5]
      · rw [txE, if_pos rfl]
        simp only [List.length_cons, List.length_append, List.length_nil]
        omega
      · simp only [cntE]; omega
      · intro P rs d m x0 hh K
        refine hopen rs d m x0 hh (hk P rs d (m + 1) x0 (held rs m hh).1 (held rs m hh).2 ?_)
        simp only [dpE, cntE] at K
        rw [show m + 1 + (cntEL xs : Int) = m + ((1 + cntEL xs : Nat) : Int) by omega, List.nil_append]
        exact K
  · obtain ⟨w, post, e, hw, hp⟩ := split_word (c :: L)
    have hA : At s p (w ++ post) := by rw [← e]; exact h
    have hl := hA.app.2.1
    have hstep : ∀ (rs : List (List S33)) (d m : Int) (x0 : S33), Held p rs m → c.toNat ≠ 41 → ∀ {Q : Bool × Ps → Prop}, EvP (fun k => (note_parser_word.f k s p).bind fun t => (note_parser_ends.f ⟨t.2.2.2.2, rs, mx d ((rs.length : Int) + 1), m + 1, false, x0⟩ ⟨t.1, t.2.1, t.2.2.1, []⟩).bind fun st1 => some (t.2.2.2.1, st1)) Q → EvP (fun k => note_parser_step.f k s ⟨p, rs, d, m, false, x0⟩) Q := by
      intro rs d m x0 hh c41 Q K
      obtain ⟨a1, a2, a3, a4⟩ := hh
      unfold note_parser_step.f
      dsimp only
      rw [h2, w64 (x := m + 1) (by omega) (by omega)]
      exact EvP.pos ⟨h0, h1, by omega⟩ (EvP.neg (by omega) (EvP.neg (by decide) (EvP.neg (by omega) (EvP.neg (by omega) K))))
    rcases word_both s hs p w post hA hw hp with ⟨k, t, n, ho, ⟨hw1, hw2⟩, v1, v2⟩ | ⟨x1, x2, x3, y, v1, v2⟩
    · have c41 : c.toNat ≠ 41 := fun hc => by
        cases w with
        | nil => simp at hw1
        | cons b w =>
          injection e with e1 _
          rw [List.all_cons, Bool.and_eq_true, ← e1] at hw
          have := hw.1
          unfold wordU at this
          simp only [Bool.or_eq_true, Bool.and_eq_true, decide_eq_true_eq] at this
          omega
      refine ⟨(k, t, n, [], s, p + w.length, false), refgo (EvP.neg (by omega) (EvP.neg (by omega) (EvP.bind v2 (fun r hr => EvP.ret (by rw [hr]))))), .inr ⟨⟨k, t, n, []⟩, p + w.length, rfl, by omega, hl, ?_, ?_, ?_, ?_⟩⟩
      · simp [rightE, rightEL, ho]
      · rw [hw2]; omega
      · simp [cntE, cntEL]; omega
      · intro P rs d m x0 hh K
        obtain ⟨a1, a2, a3, a4⟩ := hh
        refine go_on h1 (hstep rs d m x0 ⟨a1, a2, a3, a4⟩ c41 (EvP.bind v1 (fun t ht => ?_))) K
        subst ht
        refine EvP.bindv (ends_ok2 _ rs _ _ x0 _ (by omega) (fun ks r e => by have := a2 ks r e; omega)) (EvP.ret ?_)
        simp [dpE, dpEL, cntE, cntEL]
    · refine ⟨(1, y, 0, [], s, p + w.length, true), refgo (EvP.neg (by omega) (EvP.neg (by omega) (EvP.bind v2 (fun r hr => EvP.ret (by rw [hr]))))), .inl ⟨⟨rfl, rfl, by show 0 ≤ p + (w.length : Int); omega, by show p + (w.length : Int) ≤ _; omega⟩, fun rs d m x0 hh h41 => ?_⟩⟩
      by_cases c41 : c.toNat = 41
      · have hrs := h41 h1 (by rw [h2]; omega)
        subst hrs
        refine step_fault h1 ?_
        unfold note_parser_step.f
        dsimp only
        rw [h2]
        exact EvP.pos ⟨h0, h1, by simp⟩ (EvP.pos (by omega) (EvP.ret rfl))
      · obtain ⟨a1, a2, a3, a4⟩ := hh
        refine step_fault h1 (hstep rs d m x0 ⟨a1, a2, a3, a4⟩ c41 (EvP.bind v1 (fun t ht => ?_)))
        subst ht
        exact EvP.bindv (ends_ok2 _ rs _ _ x0 _ (by omega) (fun ks r e => by have := a2 ks r e; omega)) (EvP.ret rfl)
theorem lists_ev {s : ByteArray} (hs : s.size ≤ 20000) : ∀ (n : Nat) (p : Int) (L : List UInt8), At s p L → L.length ≤ n → ListR s p
  | n, p, [], h, _ => by
    intro acc ha
    have he := h.nil
    have h0 := h.1
    refine ⟨(0, ⟨#[]⟩, 0, acc, s, p + 1, true), ?_, .inl ⟨⟨rfl, rfl, by show 0 ≤ p + 1; omega, by show p + 1 ≤ _; omega⟩, fun rs d m x0 hh _ => end_fault (by show ¬ p < _; omega) rfl⟩⟩
    refine EvP.step (fun k => by rw [incunableref25_reader_one.l0]) (EvP.neg (by decide) (EvP.neg (by omega) ?_))
    refine EvP.step (fun k => by rw [incunableref25_reader_one.j1]) (EvP.neg (by decide) (EvP.neg (by decide) (EvP.ret ?_)))
    rw [w64 (x := p + 1) (by omega) (by omega)]
    have e : decide (p ≥ (s.size : Int)) = true := by simp; omega
    rw [e]
  | 0, p, c :: L, _, h => by simp at h
  | n + 1, p, c :: L, h, hn => by
    intro acc ha
    obtain ⟨h1, h2, h3⟩ := h.cons
    have h0 := h.1
    simp only [List.length_cons] at hn
    by_cases c41 : c.toNat = 41
    · refine ⟨(0, ⟨#[]⟩, 0, acc, s, p + 1, false), ?_, .inr ⟨[], p + 1, by rw [List.append_nil], by omega, by omega, rfl, by simp [txR]; omega, by simp [cntEL]; omega, ?_⟩⟩
      · refine EvP.step (fun k => by rw [incunableref25_reader_one.l0]) (EvP.neg (by decide) (EvP.pos h1 (EvP.pos h0 ?_)))
        have e : (bt s p != 41) = false := by rw [h2, c41]; rfl
        rw [e]
        refine EvP.step (fun k => by rw [incunableref25_reader_one.j1]) (EvP.neg (by decide) (EvP.neg (by decide) (EvP.ret ?_)))
        rw [w64 (x := p + 1) (by omega) (by omega)]
        have e : decide (p ≥ (s.size : Int)) = false := by simp; omega
        rw [e]
      · intro P rs d m x0 hh hks K
        obtain ⟨a1, a2, a3, a4⟩ := hh
        simp only [List.length_cons] at a1
        refine go_on (q' := endq (p + 1) rs (mx d ((rs.length : Int) + 1)) m x0 ⟨0, ⟨#[]⟩, 0, acc⟩) h1 ?_ (by simpa [dpEL, cntEL] using K)
        unfold note_parser_step.f
        dsimp only
        rw [h2]
        refine EvP.pos ⟨h0, h1, by simp; omega⟩ (EvP.pos (by omega) ?_)
        refine EvP.bindv (ends_ok2 _ rs _ _ x0 _ (by omega) (fun ks r e => by have := hks ks r e; omega)) (EvP.ret ?_)
        rw [endq_at, endq_at_, w64 (by omega) (by omega)]
    have hone := one_of_list hs p c L h (fun q L' hq hA hl => lists_ev hs n q L' hA (by omega))
    obtain ⟨r, hr, hcase⟩ := hone
    have refgo : ∀ {P : RO → Prop}, EvP (fun k => (incunableref25_reader_blank.f k r.2.2.2.2.1 r.2.2.2.2.2.1 r.2.2.2.2.2.2).bind fun bt180 => (incunableref25_reader_one.l0 k bt180.1 bt180.2.1 bt180.2.2 0 (⟨#[]⟩ : ByteArray) 0 (acc ++ [(⟨r.1, r.2.1, r.2.2.1, r.2.2.2.1⟩ : S33)]))) P → EvP (fun k => incunableref25_reader_one.l0 k s p false 0 (⟨#[]⟩ : ByteArray) 0 acc) P := by
      intro P K
      refine EvP.step (fun k => by rw [incunableref25_reader_one.l0]) (EvP.neg (by decide) (EvP.pos h1 (EvP.pos h0 ?_)))
      have e : (bt s p != 41) = true := by rw [h2]; exact bne_iff_ne.mpr (by omega)
      rw [e]
      refine EvP.step (fun k => by rw [incunableref25_reader_one.j1]) (EvP.pos rfl (EvP.bind hr (fun q hq => ?_)))
      subst hq
      exact EvP.pos (by omega) K
    have h41 : ∀ rs : List (List S33), p < s.size → bt s p = 41 → rs = [] := fun rs _ hb => by rw [h2] at hb; omega
    rcases hcase with ⟨⟨b1, b2, b3, b4⟩, hf⟩ | ⟨x, q, e, j1, j2, j3, j4, j5, hk⟩
    · obtain ⟨q2, hq2, hq3, hbl⟩ : ∃ q2, 0 ≤ q2 ∧ q2 ≤ 10 * (s.size : Int) + 10 - 2 * p ∧ EvP (fun k => incunableref25_reader_blank.f k s r.2.2.2.2.2.1 true) (· = (s, q2, true)) := by
        by_cases hc : r.2.2.2.2.2.1 < s.size
        · obtain ⟨q, L', g1, g2, _, _, _, g6⟩ := blank_both hs _ r.2.2.2.2.2.1 ⟨b3, by omega, rfl⟩
          have := g2.2.1
          have := h.2.1
          exact ⟨q, by omega, by omega, g6 true⟩
        · refine ⟨r.2.2.2.2.2.1, b3, b4, ?_⟩
          unfold incunableref25_reader_blank.f
          exact EvP.step (fun k => by rw [incunableref25_reader_blank.l0]) (EvP.neg hc (EvP.ret rfl))
      refine ⟨(0, ⟨#[]⟩, 0, acc ++ [(⟨r.1, r.2.1, r.2.2.1, r.2.2.2.1⟩ : S33)], s, q2 + 1, true), refgo ?_, .inl ⟨⟨rfl, rfl, by show 0 ≤ q2 + 1; omega, by show q2 + 1 ≤ _; omega⟩, fun rs d m x0 hh hks => ?_⟩⟩
      · rw [b1, b2]
        refine EvP.bind hbl (fun b hb => ?_)
        subst hb
        refine EvP.step (fun k => by rw [incunableref25_reader_one.l0]) (EvP.pos rfl ?_)
        refine EvP.step (fun k => by rw [incunableref25_reader_one.j1]) (EvP.neg (by decide) (EvP.pos rfl (EvP.ret ?_)))
        rw [w64 (x := q2 + 1) (by omega) (by omega)]
      · exact hf (acc :: rs) d m x0 hh (h41 _)
    · have hAq : At s q (s.data.toList.drop q.toNat) := ⟨by omega, j2, rfl⟩
      obtain ⟨q2, L', g1, g2, _, _, g5, g6⟩ := blank_both hs _ q hAq
      have hlen : L'.length ≤ n := by have := g2.le; have := h.le; simp only [List.length_cons] at this; omega
      obtain ⟨r2, hr2, hcase2⟩ := lists_ev hs n q2 L' g2 hlen (acc ++ [x]) (by have := cntE_kids x; simp; omega)
      have hheld : ∀ (rs : List (List S33)) (m : Int), Held p (acc :: rs) m → (∀ ks r, rs = ks :: r → (ks.length : Int) ≤ p) → Held q2 ((acc ++ [x]) :: rs) (m + cntE x) ∧ (∀ ks r, rs = ks :: r → (ks.length : Int) ≤ q2) := by
        intro rs m hh hks
        obtain ⟨a1, a2, a3, a4⟩ := hh
        have := cntE_kids x
        simp only [List.length_cons] at a1
        refine ⟨⟨by simp; omega, fun ks r e => ?_, by omega, by omega⟩, fun ks r e => by have := hks ks r e; omega⟩
        injection e with e1 _
        rw [← e1]
        simp; omega
      have hSL : ∀ {P : RP → Prop} (rs : List (List S33)) (d m : Int) (x0 : S33), EvP (fun k => note_Parse.l0 k s ⟨q2, (acc ++ [x]) :: rs, d, m, false, x0⟩) P → EvP (fun k => SL k s (endq q (acc :: rs) d m x0 x)) P := by
        intro P rs d m x0 K
        exact EvP.bind g5 (fun i hi => by subst hi; exact K)
      have hx : (⟨x.f0, x.f1, x.f2, x.f3⟩ : S33) = x := by cases x; rfl
      refine ⟨r2, refgo ?_, ?_⟩
      · rw [e]
        show EvP (fun k => (incunableref25_reader_blank.f k s q false).bind fun b => incunableref25_reader_one.l0 k b.1 b.2.1 b.2.2 0 (⟨#[]⟩ : ByteArray) 0 (acc ++ [(⟨x.f0, x.f1, x.f2, x.f3⟩ : S33)])) _
        rw [hx]
        exact EvP.bind (g6 false) (fun b hb => by subst hb; exact hr2)
      have hq2 := g2.2.1
      rcases hcase2 with ⟨⟨b1, b2, b3, b4⟩, hf⟩ | ⟨xs, q3, e3, i1, i2, i3, i4, i5, hk3⟩
      · refine .inl ⟨⟨b1, b2, b3, by omega⟩, fun rs d m x0 hh hks => ?_⟩
        refine hk _ (acc :: rs) d m x0 hh (hSL rs _ _ x0 ?_)
        exact hf rs _ _ x0 (hheld rs m hh hks).1 (hheld rs m hh hks).2
      · refine .inr ⟨x :: xs, q3, ?_, by omega, i2, by simp [rightEL, j3, i3], ?_, ?_, ?_⟩
        · rw [e3, List.append_assoc]; rfl
        · simp only [txR, List.length_append]; simp; omega
        · simp only [cntEL]; omega
        · intro P rs d m x0 hh hks K
          refine hk P (acc :: rs) _ m x0 hh (hSL rs _ _ x0 ?_)
          have hd : mx (mx d ((rs.length : Int) + 1)) (((acc :: rs).length : Int) + dpE x) = mx (mx d ((rs.length : Int) + (1 + dpE x : Nat))) ((rs.length : Int) + 1) := by
            have := dpE_kids x
            simp only [List.length_cons]
            unfold mx
            (repeat' split) <;> omega
          rw [hd]
          refine hk3 P rs (mx d ((rs.length : Int) + (1 + dpE x : Nat))) (m + cntE x) x0 (hheld rs m hh hks).1 (hheld rs m hh hks).2 ?_
          have hd2 : mx (mx d ((rs.length : Int) + (1 + dpE x : Nat))) ((rs.length : Int) + (1 + dpEL xs : Nat)) = mx d ((rs.length : Int) + (1 + dpEL (x :: xs) : Nat)) := by
            simp only [dpEL]
            unfold mx
            (repeat' split) <;> omega
          rw [hd2, show m + (cntE x : Int) + (cntEL xs : Int) = m + (cntEL (x :: xs) : Nat) by simp only [cntEL]; omega, List.append_assoc]
          exact K

theorem Sane25_is : EvP (fun k => incunablelaw25_Sane.f k) (· = true) :=
  ⟨true, Ev.of (fun k => incunablelaw25_Sane.mono k) (k := 40) (by decide +kernel), rfl⟩

theorem oneR_all {s : ByteArray} (hs : s.size ≤ 20000) (p : Int) (L : List UInt8) (h : At s p L) : OneR s p := by
  cases L with
  | nil =>
    have he := h.nil
    have h0 := h.1
    refine ⟨(0, ⟨#[]⟩, 0, [], s, p, true), EvP.step (fun k => by rw [incunableref25_reader_one.f]) (EvP.pos (by omega) (EvP.ret rfl)), .inl ⟨⟨rfl, rfl, h0, by show p ≤ _; omega⟩, fun rs d m x0 hh _ => end_fault (by show ¬ p < _; omega) rfl⟩⟩
  | cons c L => exact one_of_list hs p c L h (fun q L' _ hA _ => lists_ev hs L'.length q L' hA (Nat.le_refl _))
theorem rightEL_mem : ∀ (l : List S33) (x : S33), x ∈ l → rightEL l = true → rightE x = true
  | y :: ys, x, h, hr => by
    simp only [rightEL, Bool.and_eq_true] at hr
    rcases List.mem_cons.1 h with rfl | h
    · exact hr.1
    · exact rightEL_mem ys x h hr.2
theorem wf_of {n : Int} (h0 : -999999 ≤ n) (h1 : n ≤ 999999) : (Lit.int .i64 n).wf = true := by
  have a : IntKind.i64.min ≤ n := by
    have e : IntKind.i64.min = -9223372036854775808 := by decide
    omega
  have b : n ≤ IntKind.i64.max := by
    have e : IntKind.i64.max = 9223372036854775807 := by decide
    omega
  show (decide (IntKind.i64.min ≤ n) && decide (n ≤ IntKind.i64.max)) = true
  rw [decide_eq_true a, decide_eq_true b]
  rfl
theorem good_of : ∀ (n : Nat) (x : S33), cntE x ≤ n → n ≤ 20000 → rightE x = true → Good33 n x
  | 0, x, h, _, _ => by have := cntE_kids x; omega
  | n + 1, x, h, hn, hr => by
    rw [rightE_kids, Bool.and_eq_true] at hr
    have hc := cntE_kids x
    have hl := cntEL_le x.f3
    have key : (-999999 ≤ x.f0 ∧ x.f0 ≤ 999999) ∧ x.f1.size ≤ 200 ∧ (-999999 ≤ x.f2 ∧ x.f2 ≤ 999999) := by
      have ho := hr.1
      rcases oneB_kind ho with e | e | e | ⟨e, e1, e2, _⟩
      · rw [e] at ho ⊢
        obtain ⟨e1, e2⟩ := oneB_zero ho
        rw [e1, e2]
        exact ⟨by omega, by decide, by omega⟩
      · rw [e] at ho ⊢
        obtain ⟨e1, e2, _⟩ := oneB_one ho
        have := nameB_len e1
        exact ⟨by omega, by omega, by omega⟩
      · rw [e] at ho ⊢
        obtain ⟨e1, e2, _⟩ := oneB_two ho
        rw [e1]
        exact ⟨by omega, by decide, by omega⟩
      · rw [e, e2]
        exact ⟨by omega, e1, by omega⟩
    refine ⟨wf_of key.1.1 key.1.2, by omega, wf_of key.2.2.1 key.2.2.2, by omega, by omega, fun y hy => good_of n y ?_ (by omega) (rightEL_mem _ y hy hr.2)⟩
    have := cntEL_mem _ y hy
    omega
theorem ge_of (l : List S33) (h : cntEL l ≤ 20000) (hr : rightEL l = true) : GE l := by
  have hl := cntEL_le l
  refine ⟨by omega, by omega, fun y hy => ⟨20000, good_of 20000 y ?_ (Nat.le_refl _) (rightEL_mem l y hy hr)⟩⟩
  have := cntEL_mem l y hy
  omega
theorem both_ev (s : ByteArray) (hs : s.size ≤ 3000) : ∃ r : RP, EvP (fun k => note_Parse.f k s) (· = r) ∧ EvP (fun k => incunableref25_Parse.f k s) (· = r) ∧ cntEL r.2.2.2.1 ≤ 3000 ∧
    (r.2.2.2.2 = 0 → validB r.1 r.2.1 r.2.2.1 r.2.2.2.1 = true ∧ GE r.2.2.2.1 ∧ (tx r.1 r.2.1 r.2.2.1 r.2.2.2.1).size ≤ 20000) := by
  have hs' : s.size ≤ 20000 := by omega
  obtain ⟨p, L, g1, g2, _, _, g5, g6⟩ := blank_both hs' s.data.toList 0 ⟨by omega, by omega, rfl⟩
  have hp := g2.2.1
  obtain ⟨r, hr, hcase⟩ := oneR_all hs' p L g2
  have prog : ∀ {P : RP → Prop}, EvP (fun k => note_Parse.l0 k s ⟨p, [], 0, 0, false, z33⟩) P → EvP (fun k => note_Parse.f k s) P := by
    intro P K
    unfold note_Parse.f
    exact EvP.neg (by omega) (EvP.bind g5 (fun i hi => by subst hi; exact K))
  have ref : ∀ {P : RP → Prop} (q2 : Int) (b : Bool), EvP (fun k => incunableref25_reader_blank.f k r.2.2.2.2.1 r.2.2.2.2.2.1 r.2.2.2.2.2.2) (· = (s, q2, b)) → EvP (fun k => if b = true then some (0, (⟨#[]⟩ : ByteArray), 0, [], 3) else (if q2 ≠ (s.size : Int) then some (0, (⟨#[]⟩ : ByteArray), 0, [], 3) else ((incunableref25_small.f k r.1 r.2.1 r.2.2.1 r.2.2.2.1).bind fun m => if m = true then some (r.1, r.2.1, r.2.2.1, r.2.2.2.1, 0) else some (0, (⟨#[]⟩ : ByteArray), 0, [], 4)))) P → EvP (fun k => incunableref25_Parse.f k s) P := by
    intro P q2 b hb K
    unfold incunableref25_Parse.f
    refine EvP.neg (by omega) (EvP.bind (g6 false) (fun a ha => ?_))
    subst ha
    refine EvP.bind hr (fun t ht => ?_)
    subst ht
    refine EvP.bind hb (fun c hc => ?_)
    subst hc
    exact K
  have held : Held p [] 0 := ⟨by simp; omega, (fun ks r e => (by cases e)), by omega, by omega⟩
  rcases hcase with ⟨⟨b1, b2, b3, b4⟩, hf⟩ | ⟨x, q, e, j1, j2, j3, j4, j5, hk⟩
  · refine ⟨ERRP, prog (hf [] 0 0 z33 held (fun _ _ => rfl)), ?_, by simp [ERRP, cntEL], fun h => by cases h⟩
    obtain ⟨q2, hbl⟩ : ∃ q2, EvP (fun k => incunableref25_reader_blank.f k s r.2.2.2.2.2.1 true) (· = (s, q2, true)) := by
      by_cases hc : r.2.2.2.2.2.1 < s.size
      · obtain ⟨q, L', _, _, _, _, _, g6⟩ := blank_both hs' _ r.2.2.2.2.2.1 ⟨b3, by omega, rfl⟩
        exact ⟨q, g6 true⟩
      · refine ⟨r.2.2.2.2.2.1, ?_⟩
        unfold incunableref25_reader_blank.f
        exact EvP.step (fun k => by rw [incunableref25_reader_blank.l0]) (EvP.neg hc (EvP.ret rfl))
    exact ref q2 true (by rw [b1, b2]; exact hbl) (EvP.pos rfl (EvP.ret rfl))
  · obtain ⟨q2, L', k1, k2, _, _, k5, k6⟩ := blank_both hs' (s.data.toList.drop q.toNat) q ⟨by omega, j2, rfl⟩
    have hq2 := k2.2.1
    have ref := fun {P : RP → Prop} => ref (P := P) q2 false (by rw [e]; exact k6 false)
    have mach : ∀ {P : RP → Prop}, EvP (fun k => note_Parse.l0 k s ⟨q2, [], mx 0 (0 + (dpE x : Int)), 0 + (cntE x : Int), true, x⟩) P → EvP (fun k => note_Parse.f k s) P := by
      intro P K
      exact prog (hk P [] 0 0 z33 held (EvP.bind k5 (fun i hi => by subst hi; exact K)))
    by_cases hend : q2 < s.size
    · refine ⟨ERRP, mach (step_fault hend ?_), ref (EvP.neg (by decide) (EvP.pos (by omega) (EvP.ret rfl))), by simp [ERRP, cntEL], fun h => by cases h⟩
      unfold note_parser_step.f
      dsimp only
      exact EvP.pos ⟨by omega, hend, by simp⟩ (EvP.ite (fun _ => EvP.ret rfl) (fun _ => EvP.pos rfl (EvP.ret rfl)))
    · have hq : q2 = s.size := by omega
      have hx := cntE_kids x
      have hdx := dpE_kids x
      have hrx := j3
      rw [rightE_kids, Bool.and_eq_true] at hrx
      have hge := ge_of x.f3 (by omega) hrx.2
      have hmx : mx 0 (0 + (dpE x : Int)) = dpE x := by unfold mx; split <;> omega
      have small : EvP (fun k => incunableref25_small.f k x.f0 x.f1 x.f2 x.f3) (· = (decide (cntE x ≤ 400) && decide (dpE x ≤ 20))) := by
        unfold incunableref25_small.f
        refine EvP.bind (measure_ev (cntEL x.f3 + 1) x.f0 x.f1 x.f2 x.f3 (by omega) hge (by omega)) (fun m hm => ?_)
        obtain ⟨hm1, hm2⟩ : m.1 = (1 + cntEL x.f3 : Int) ∧ m.2 = (1 + dpEL x.f3 : Int) := by
          first | exact hm | (subst hm; exact ⟨rfl, rfl⟩) | (subst hm; constructor <;> simp)
        refine EvP.ite (fun c => EvP.ret ?_) (fun c => EvP.ret ?_)
        · have : cntE x ≤ 400 := by omega
          simp only [this, decide_true, Bool.true_and]
          rw [Bool.eq_iff_iff]
          simp only [decide_eq_true_eq]
          omega
        · have : ¬ cntE x ≤ 400 := by omega
          simp [this]
      have fin : ∀ {P : RP → Prop}, EvP (fun k => if (0 + (cntE x : Int)) > 400 then some (0, (⟨#[]⟩ : ByteArray), 0, [], 4) else (if (dpE x : Int) > 20 then some (0, (⟨#[]⟩ : ByteArray), 0, [], 4) else some (x.f0, x.f1, x.f2, x.f3, 0))) P → EvP (fun k => note_Parse.f k s) P := by
        intro P K
        refine mach (EvP.step (fun k => by rw [note_Parse.l0]) (EvP.neg (by show ¬ q2 < _; omega) (EvP.pos rfl ?_)))
        rw [hmx]
        exact K
      by_cases hsm : cntE x ≤ 400 ∧ dpE x ≤ 20
      · refine ⟨(x.f0, x.f1, x.f2, x.f3, 0), fin (EvP.neg (by omega) (EvP.neg (by omega) (EvP.ret rfl))), ref (EvP.neg (by decide) (EvP.neg (by omega) ?_)), by show cntEL x.f3 ≤ 3000; omega, fun _ => ⟨?_, hge, ?_⟩⟩
        · rw [e]
          refine EvP.bind small (fun m hm => ?_)
          subst hm
          exact EvP.pos (by simp [hsm.1, hsm.2]) (EvP.ret rfl)
        · show validB x.f0 x.f1 x.f2 x.f3 = true
          unfold validB
          rw [hrx.1, hrx.2]
          simp
          omega
        · show (tx x.f0 x.f1 x.f2 x.f3).size ≤ 20000
          have : (tx x.f0 x.f1 x.f2 x.f3).size = (txE x).length := by rw [txE_eta x]; simp [tx, ByteArray.size]
          omega
      · refine ⟨(0, ⟨#[]⟩, 0, [], 4), fin ?_, ref (EvP.neg (by decide) (EvP.neg (by omega) ?_)), by simp [cntEL], fun h => by cases h⟩
        · exact EvP.ite (fun _ => EvP.ret rfl) (fun c => EvP.pos (by omega) (EvP.ret rfl))
        · rw [e]
          refine EvP.bind small (fun m hm => ?_)
          subst hm
          refine EvP.neg ?_ (EvP.ret rfl)
          simp only [Bool.and_eq_true, decide_eq_true_eq]
          exact hsm
theorem NoteParses : incunablelaw25_NoteParses.Pure := by
  intro s hs0
  have sane : EvP (fun k => (incunablelaw25_Sane.f k).bind fun t => some t) (· = true) := EvP.bind Sane25_is (fun r hr => EvP.ret hr)
  refine EvP.rounds ?_
  have J : ∀ b : Bool, (b = true ∨ s.size ≤ 3000 ∨ 20000 < s.size) → EvP (fun k => incunablelaw25_NoteParses.j0 k s b) (· = true) := by
    intro b hb
    refine EvP.step (fun k => by rw [incunablelaw25_NoteParses.j0]) (EvP.ite (fun c => sane) (fun c => ?_))
    have hb : s.size ≤ 3000 ∨ 20000 < s.size := hb.resolve_left c
    obtain ⟨r, h1, h2, h3, h4⟩ : ∃ r : RP, EvP (fun k => note_Parse.f k s) (· = r) ∧ EvP (fun k => incunableref25_Parse.f k s) (· = r) ∧ cntEL r.2.2.2.1 ≤ 3000 ∧ (r.2.2.2.2 = 0 → validB r.1 r.2.1 r.2.2.1 r.2.2.2.1 = true ∧ GE r.2.2.2.1 ∧ (tx r.1 r.2.1 r.2.2.1 r.2.2.2.1).size ≤ 20000) := by
      rcases hb with hb | hb
      · exact both_ev s hb
      · refine ⟨(0, ⟨#[]⟩, 0, [], 4), ?_, ?_, by simp [cntEL], fun h => by cases h⟩
        · unfold note_Parse.f
          exact EvP.pos (by omega) (EvP.ret rfl)
        · unfold incunableref25_Parse.f
          exact EvP.pos (by omega) (EvP.ret rfl)
    have hl := cntEL_le r.2.2.2.1
    refine EvP.bind h1 (fun a ha => EvP.bind h2 (fun b hb => ?_))
    subst ha; subst hb
    refine EvP.pos rfl ?_
    refine EvP.bind (same_ev (cntEL b.2.2.2.1 + 1) b.1 b.2.1 b.2.2.1 b.2.2.2.1 (by omega) (by omega) (by omega)) (fun t ht => ?_)
    subst ht
    refine EvP.step (fun k => by rw [incunablelaw25_NoteParses.j1]) (EvP.neg (by decide) (EvP.ite (fun c0 => ?_) (fun c0 => sane)))
    obtain ⟨v1, v2, v3⟩ := h4 c0
    refine EvP.bind (format_ev b.1 b.2.1 b.2.2.1 b.2.2.2.1 v2) (fun q hq => ?_)
    rw [if_pos v1] at hq
    subst hq
    refine EvP.bind (parse_ev b.1 b.2.1 b.2.2.1 b.2.2.2.1 v1 v3) (fun q hq => ?_)
    subst hq
    refine EvP.pos rfl (EvP.pos rfl ?_)
    refine EvP.bind (same_ev (cntEL b.2.2.2.1 + 1) b.1 b.2.1 b.2.2.1 b.2.2.2.1 (by omega) (by omega) (by omega)) (fun t ht => EvP.pos ht sane)
  unfold incunablelaw25_NoteParses.f
  refine EvP.ite (fun c => EvP.ite (fun c1 => J _ (.inl rfl)) (fun c1 => J _ (.inr (.inr (by omega))))) (fun c => J _ (.inr (.inl (by omega))))

end Go.Proofs.YtacdchogjpeffaaDoor.Pure
