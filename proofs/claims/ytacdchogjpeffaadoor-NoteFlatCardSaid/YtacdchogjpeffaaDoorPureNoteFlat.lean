/- NoteFlat of incunablelaw25 answers true for every list of outlines: the flat lists of the program and of the reference are the same. -/
import Derived.Test.YtacdchogjpeffaaDoorPNoteFlatx6
import Derived.Test.YtacdchogjpeffaaDoorQBase
namespace Go.Proofs.YtacdchogjpeffaaDoor.Pure
open Go.RowKit Go.Proofs.YtacdchogjpeffaaDoor.PNoteFlat Go.Proofs.YtacdchogjpeffaaDoorW.PrintWords Go.Proofs.YtacdchogjpeffaaDoorW.PrintLast Go.Proofs.YtacdchogjpeffaaDoorW.PrintMore Go.Proofs.YtacdchogjpeffaaDoorW.Pu
set_option linter.unusedVariables false
set_option linter.unusedSimpArgs false
/-- The numbers of a list are those of bytes. -/
def Byt (p : List Int) : Prop := ∀ x ∈ p, 0 ≤ x ∧ x ≤ 255
theorem val_byt {w h : Int} {p : List Int} (v : Val w h p) : Byt p := fun x hx => ⟨(v.2.2.2.2.2.2 x hx).1, by have := (v.2.2.2.2.2.2 x hx).2; omega⟩

theorem wf_byt {p : List Int} (h : ∀ y ∈ p, (Lit.int .u8 y).wf = true) : Byt p := fun x hx => by
  have h1 : (decide (IntKind.u8.min ≤ x) && decide (x ≤ IntKind.u8.max)) = true := h x hx
  obtain ⟨a, b⟩ := Bool.and_eq_true_iff.mp h1
  exact ⟨of_decide_eq_true a, of_decide_eq_true b⟩
theorem wf_i64 {x : Int} (h : (Lit.int .i64 x).wf = true) : -9223372036854775808 ≤ x ∧ x ≤ 9223372036854775807 := by
  have h1 : (decide (IntKind.i64.min ≤ x) && decide (x ≤ IntKind.i64.max)) = true := h
  obtain ⟨a, b⟩ := Bool.and_eq_true_iff.mp h1
  exact ⟨of_decide_eq_true a, of_decide_eq_true b⟩

mutual
def cntO : S61 → Nat
  | ⟨_, _, ks⟩ => 1 + cntL ks
def cntL : List S61 → Nat
  | [] => 0
  | x :: xs => cntO x + cntL xs
end
mutual
def dpO : S61 → Nat
  | ⟨_, _, ks⟩ => 1 + dpL ks
def dpL : List S61 → Nat
  | [] => 0
  | x :: xs => max (dpO x) (dpL xs)
end
mutual
def okO : S61 → Bool
  | ⟨t, p, ks⟩ => decide (t.size ≤ 200) && decide (1 ≤ p) && decide (p ≤ 1000) && okL ks
def okL : List S61 → Bool
  | [] => true
  | x :: xs => okO x && okL xs
end
mutual
def foO : S61 → List S61
  | ⟨t, p, ks⟩ => ⟨t, p, []⟩ :: foL ks
def foL : List S61 → List S61
  | [] => []
  | x :: xs => foO x ++ foL xs
end
mutual
def fdO : Int → S61 → List Int
  | d, ⟨_, _, ks⟩ => d :: fdL (d + 1) ks
def fdL : Int → List S61 → List Int
  | _, [] => []
  | d, x :: xs => fdO d x ++ fdL d xs
end
theorem cntO_kids (x : S61) : cntO x = 1 + cntL x.f2 := by cases x; simp [cntO]
theorem dpO_kids (x : S61) : dpO x = 1 + dpL x.f2 := by cases x; simp [dpO]
theorem okO_kids (x : S61) : okO x = (decide (x.f0.size ≤ 200) && decide (1 ≤ x.f1) && decide (x.f1 ≤ 1000) && okL x.f2) := by cases x; simp [okO]
theorem foO_kids (x : S61) : foO x = ⟨x.f0, x.f1, []⟩ :: foL x.f2 := by cases x; simp [foO]
theorem fdO_kids (d : Int) (x : S61) : fdO d x = d :: fdL (d + 1) x.f2 := by cases x; simp [fdO]
theorem drop_rd61 (l : List S61) (i : Int) (h0 : 0 ≤ i) (h1 : i < l.length) : l.drop i.toNat = rd_T61 l i :: l.drop (i + 1).toNat := by
  have hl : i.toNat < l.length := by omega
  rw [show (i + 1).toNat = i.toNat + 1 by omega, List.drop_eq_getElem_cons hl]
  congr 1
  simp [rd_T61, List.getD, List.getElem?_eq_getElem hl]
theorem drop_none61 (l : List S61) (i : Int) (h0 : 0 ≤ i) (h1 : ¬ i < l.length) : l.drop i.toNat = [] := List.drop_eq_nil_of_le (by omega)
theorem rd_mem61 (l : List S61) (i : Int) (h0 : 0 ≤ i) (h1 : i < l.length) : rd_T61 l i ∈ l := by
  have hl : i.toNat < l.length := by omega
  have e : rd_T61 l i = l[i.toNat] := by simp [rd_T61, List.getD, List.getElem?_eq_getElem hl]
  rw [e]
  exact List.getElem_mem hl
theorem cntL_le : ∀ (l : List S61), l.length ≤ cntL l
  | [] => by simp [cntL]
  | x :: xs => by have := cntL_le xs; have := cntO_kids x; simp [cntL]; omega
theorem dp_cnt : ∀ (n : Nat) (l : List S61), cntL l < n → dpL l ≤ cntL l
  | 0, _, h => by omega
  | n + 1, [], _ => by simp [dpL]
  | n + 1, x :: xs, h => by
    have e1 := cntO_kids x
    have e2 := dpO_kids x
    simp only [cntL, dpL] at h ⊢
    have h1 := dp_cnt n x.f2 (by omega)
    have h2 := dp_cnt n xs (by omega)
    omega
theorem cntL_mem : ∀ (l : List S61) (x : S61), x ∈ l → cntO x ≤ cntL l
  | y :: ys, x, h => by
    simp only [cntL]
    rcases List.mem_cons.1 h with rfl | h
    · omega
    · have := cntL_mem ys x h; omega
theorem foL_len : ∀ (n : Nat) (l : List S61), cntL l < n → (foL l).length = cntL l
  | 0, _, h => by omega
  | n + 1, [], _ => by simp [foL, cntL]
  | n + 1, x :: xs, h => by
    have e1 := cntO_kids x
    simp only [cntL, foL] at h ⊢
    have h1 := foL_len n x.f2 (by omega)
    have h2 := foL_len n xs (by omega)
    rw [foO_kids, List.length_append, List.length_cons]
    omega
theorem fdL_len : ∀ (n : Nat) (d : Int) (l : List S61), cntL l < n → (fdL d l).length = cntL l
  | 0, _, _, h => by omega
  | n + 1, d, [], _ => by simp [fdL, cntL]
  | n + 1, d, x :: xs, h => by
    have e1 := cntO_kids x
    simp only [cntL, fdL] at h ⊢
    have h1 := fdL_len n (d + 1) x.f2 (by omega)
    have h2 := fdL_len n d xs (by omega)
    rw [fdO_kids, List.length_append, List.length_cons]
    omega
def GL (l : List S61) : Prop := l.length ≤ 9223372036854775807 ∧ l.length * 48 ≤ 140737488351232 ∧ ∀ y ∈ l, ∃ n, Good61 n y
theorem GL.kids {l : List S61} {x : S61} (h : GL l) (hx : x ∈ l) : x.f0.size ≤ 140737488351232 ∧ (-9223372036854775808 ≤ x.f1 ∧ x.f1 ≤ 9223372036854775807) ∧ GL x.f2 := by
  obtain ⟨n, hn⟩ := h.2.2 x hx
  cases n with
  | zero => exact hn.elim
  | succ n =>
    obtain ⟨a, b, c, d, e⟩ := hn
    exact ⟨a, wf_i64 b, c, d, fun y hy => ⟨n, e y hy⟩⟩
theorem cntL_drop (l : List S61) (i : Int) (h0 : 0 ≤ i) (h1 : i < l.length) : cntL (l.drop i.toNat) = 1 + cntL (rd_T61 l i).f2 + cntL (l.drop (i + 1).toNat) := by
  rw [drop_rd61 l i h0 h1, cntL, cntO_kids]
theorem dpL_drop (l : List S61) (i : Int) (h0 : 0 ≤ i) (h1 : i < l.length) : dpL (l.drop i.toNat) = max (1 + dpL (rd_T61 l i).f2) (dpL (l.drop (i + 1).toNat)) := by
  rw [drop_rd61 l i h0 h1, dpL, dpO_kids]
theorem okL_drop (l : List S61) (i : Int) (h0 : 0 ≤ i) (h1 : i < l.length) : okL (l.drop i.toNat) = ((decide ((rd_T61 l i).f0.size ≤ 200) && decide (1 ≤ (rd_T61 l i).f1) && decide ((rd_T61 l i).f1 ≤ 1000) && okL (rd_T61 l i).f2) && okL (l.drop (i + 1).toNat)) := by
  rw [drop_rd61 l i h0 h1, okL, okO_kids]
theorem cnt_kid (l : List S61) (i : Int) (h0 : 0 ≤ i) (h1 : i < l.length) : cntL (rd_T61 l i).f2 < cntL l := by
  have := cntL_mem l _ (rd_mem61 l i h0 h1)
  have := cntO_kids (rd_T61 l i)
  omega

theorem room_ev : ∀ (n : Nat) (l : List S61), cntL l < n → GL l → ∀ (d left : Int), 0 ≤ d → d ≤ 60 → -140737488360000 ≤ left → left ≤ 6000 →
    EvP (fun k => incunablelaw25_room.f k l d left) (fun r => -140737488360000 ≤ r ∧ r ≤ 6000 ∧ (0 ≤ r → (cntL l : Int) + r ≤ left))
  | 0, _, h, _, _, _, _, _, _, _ => by omega
  | n + 1, l, hn, hg, d, left, hd0, hd1, hl0, hl1 => by
    refine EvP.step (fun k => by rw [incunablelaw25_room.f]) ?_
    refine EvP.ite (fun c => EvP.ret ⟨by omega, by omega, by omega⟩) (fun c => ?_)
    refine EvP.up (L := fun k i (s : Int) => incunablelaw25_room.l0 k l d s i) (fun i s => 0 ≤ i ∧ -140737488360000 ≤ s ∧ s ≤ 6000 ∧ (0 ≤ s → (cntL l : Int) + s ≤ left + cntL (l.drop i.toNat))) l.length ?_ 0 left (by omega) ⟨by omega, hl0, hl1, fun _ => by simp; omega⟩
    intro i s hi hin ih
    obtain ⟨i0, hs0, hs1, hs⟩ := hi
    refine EvP.step (fun k => by rw [incunablelaw25_room.l0]) ?_
    refine EvP.ite (fun c1 => ?_) (fun c1 => ?_)
    · refine EvP.ite (fun c2 => ?_) (fun c2 => EvP.ret ⟨hs0, hs1, fun h => by omega⟩)
      refine EvP.pos i0 ?_
      have hm := rd_mem61 l i i0 c1
      obtain ⟨k1, _, k3⟩ := hg.kids hm
      have hlen := hg.1
      have e2 := cntL_drop l i i0 c1
      rw [w64 (x := d - 1) (by omega) (by omega), w64 (x := s - 1) (by omega) (by omega), w64 (x := s - 1 - _) (by omega) (by omega)]
      refine EvP.bind (room_ev n (rd_T61 l i).f2 (by have := cnt_kid l i i0 c1; omega) k3 (d - 1) (s - 1 - ((rd_T61 l i).f0.size : Int)) (by omega) (by omega) (by omega) (by omega)) (fun r hr => ?_)
      obtain ⟨r0, r1, r2⟩ := hr
      rw [w64 (x := i + 1) (by omega) (by omega)]
      refine ih r c1 ⟨by omega, r0, r1, fun h => ?_⟩
      have := r2 h
      have := hs c2
      omega
    · refine EvP.ret ⟨hs0, hs1, fun h => ?_⟩
      have := hs h
      have e : l.drop i.toNat = [] := drop_none61 l i i0 c1
      rw [e] at this
      simp [cntL] at this
      omega
theorem heavy_ev (l : List S61) (hg : GL l) : EvP (fun k => incunablelaw25_Heavy.f k l) (fun b => b = false → cntL l ≤ 6000) := by
  refine EvP.bind (room_ev (cntL l + 1) l (by omega) hg 60 6000 (by omega) (by omega) (by omega) (by omega)) (fun r hr => EvP.ret (fun h => ?_))
  obtain ⟨_, _, h2⟩ := hr
  have h3 : ¬ r < 0 := by simpa using h
  have := h2 (by omega)
  omega

theorem outl_ev : ∀ (n : Nat) (l : List S61), cntL l < n → GL l → ∀ (m d : Int), 0 ≤ m → m ≤ 400 → 1 ≤ d → d ≤ 21 →
    EvP (fun k => note_looks_outlines.f k m l d) (fun r => (0 ≤ r.2 ∧ r.2 ≤ 401) ∧ (r.1 = true ↔ (okL l = true ∧ m + cntL l ≤ 400 ∧ d + dpL l ≤ 21)) ∧ (r.1 = true → r.2 = m + cntL l))
  | 0, _, h, _, _, _, _, _, _, _ => by omega
  | n + 1, l, hn, hg, m, d, hm0, hm1, hd0, hd1 => by
    refine EvP.step (fun k => by rw [note_looks_outlines.f]) ?_
    refine EvP.up (L := fun k i (s : Int) => note_looks_outlines.l0 k d l (l.length : Int) i s) (fun i s => 0 ≤ i ∧ 0 ≤ s ∧ s ≤ 400 ∧ okL l = okL (l.drop i.toNat) ∧ m + cntL l = s + cntL (l.drop i.toNat) ∧ (d + dpL l ≤ 21 ↔ d + dpL (l.drop i.toNat) ≤ 21)) l.length ?_ 0 m (by omega) ⟨by omega, hm0, hm1, by simp, by simp, by simp⟩
    intro i s hi hin ih
    obtain ⟨i0, hs0, hs1, e1, e2, e3⟩ := hi
    refine EvP.step (fun k => by rw [note_looks_outlines.l0]) ?_
    refine EvP.ite (fun c1 => ?_) (fun c1 => ?_)
    · refine EvP.pos i0 (EvP.pos c1 ?_)
      have hm := rd_mem61 l i i0 c1
      obtain ⟨k1, _, k3⟩ := hg.kids hm
      have hlen := hg.1
      have f1 := okL_drop l i i0 c1
      have f2 := cntL_drop l i i0 c1
      have f3 := dpL_drop l i i0 c1
      rw [f1] at e1
      rw [f2] at e2
      rw [f3] at e3
      rw [w64 (x := s + 1) (by omega) (by omega)]
      refine EvP.ite (fun c => EvP.ret ⟨⟨by omega, by omega⟩, ⟨fun h => (by cases h), fun h => by omega⟩, fun h => (by cases h)⟩) (fun c2 => ?_)
      refine EvP.ite (fun c => EvP.ret ⟨⟨by omega, by omega⟩, ⟨fun h => (by cases h), fun h => by have := e3.1 h.2.2; omega⟩, fun h => (by cases h)⟩) (fun c3 => ?_)
      refine EvP.ite (fun c => EvP.ret ⟨⟨by omega, by omega⟩, ⟨fun h => (by cases h), fun h => by have := e1.symm.trans h.1; simp at this; omega⟩, fun h => (by cases h)⟩) (fun c4 => ?_)
      refine EvP.ite (fun c => EvP.ret ⟨⟨by omega, by omega⟩, ⟨fun h => (by cases h), fun h => by have := e1.symm.trans h.1; simp at this; omega⟩, fun h => (by cases h)⟩) (fun c5 => ?_)
      refine EvP.ite (fun c => EvP.ret ⟨⟨by omega, by omega⟩, ⟨fun h => (by cases h), fun h => by have := e1.symm.trans h.1; simp at this; omega⟩, fun h => (by cases h)⟩) (fun c6 => ?_)
      rw [w64 (x := d + 1) (by omega) (by omega)]
      refine EvP.bind (outl_ev n (rd_T61 l i).f2 (by have := cnt_kid l i i0 c1; omega) k3 (s + 1) (d + 1) (by omega) (by omega) (by omega) (by omega)) (fun r hr => ?_)
      obtain ⟨⟨r0, r1⟩, r2, r3⟩ := hr
      refine EvP.ite (fun c => ?_) (fun c => ?_)
      · rw [w64 (x := i + 1) (by omega) (by omega)]
        obtain ⟨g1, g2, g3⟩ := r2.1 c
        have g4 := r3 c
        refine ih r.2 c1 ⟨by omega, r0, by omega, ?_, by omega, ?_⟩
        · rw [e1, g1]
          have a1 : (rd_T61 l i).f0.size ≤ 200 := by omega
          have a2 : 1 ≤ (rd_T61 l i).f1 := by omega
          have a3 : (rd_T61 l i).f1 ≤ 1000 := by omega
          simp [a1, a2, a3]
        · rw [e3]
          omega
      · refine EvP.ret ⟨⟨r0, r1⟩, ⟨fun h => (by cases h), fun h => ?_⟩, fun h => (by cases h)⟩
        obtain ⟨h1, h2, h3⟩ := h
        refine absurd (r2.2 ⟨?_, ?_, ?_⟩) c
        · have := e1.symm.trans h1
          simp at this
          exact this.1.2
        · omega
        · have := e3.1 h3
          omega
    · have e : l.drop i.toNat = [] := drop_none61 l i i0 c1
      rw [e] at e1 e2 e3
      simp only [okL, cntL, dpL] at e1 e2 e3
      refine EvP.ret ⟨⟨hs0, by omega⟩, ⟨fun _ => ⟨e1, by omega, e3.2 (by omega)⟩, fun _ => rfl⟩, fun _ => by show s = _; omega⟩
theorem valid_ev (l : List S61) (hg : GL l) : EvP (fun k => note_ValidOutlines.f k l) (fun b => (b = true ↔ (okL l = true ∧ cntL l ≤ 400 ∧ dpL l ≤ 20))) := by
  refine EvP.bind (outl_ev (cntL l + 1) l (by omega) hg 0 1 (by omega) (by omega) (by omega) (by omega)) (fun r hr => EvP.ret ?_)
  rw [hr.2.1]
  constructor
  · rintro ⟨a, b, c⟩; exact ⟨a, by omega, by omega⟩
  · rintro ⟨a, b, c⟩; exact ⟨a, by omega, by omega⟩

theorem refOutl_ev : ∀ (n : Nat) (l : List S61), cntL l < n → GL l → cntL l ≤ 6000 →
    EvP (fun k => incunableref25_outlines.f k l) (fun r => r.1 = cntL l ∧ r.2.1 = dpL l ∧ r.2.2 = okL l)
  | 0, _, h, _, _ => by omega
  | n + 1, l, hn, hg, hc => by
    refine EvP.step (fun k => by rw [incunableref25_outlines.f]) ?_
    refine EvP.up (L := fun k i (s : Int × Int × Bool) => incunableref25_outlines.l0 k l s.1 s.2.1 s.2.2 i) (fun i s => 0 ≤ i ∧ 0 ≤ s.1 ∧ 0 ≤ s.2.1 ∧ (s.1 + cntL (l.drop i.toNat) = cntL l) ∧ max s.2.1 (dpL (l.drop i.toNat) : Int) = dpL l ∧ (s.2.2 && okL (l.drop i.toNat)) = okL l) l.length ?_ 0 (0, 0, true) (by omega) ⟨by omega, by simp, by simp, by simp, by simp, by simp⟩
    intro i s hi hin ih
    obtain ⟨i0, hs0, hs1, e2, e3, e1⟩ := hi
    have hdc := dp_cnt (cntL l + 1) l (by omega)
    refine EvP.step (fun k => by rw [incunableref25_outlines.l0]) ?_
    refine EvP.ite (fun c1 => ?_) (fun c1 => ?_)
    · refine EvP.pos i0 ?_
      have hm := rd_mem61 l i i0 c1
      obtain ⟨k1, _, k3⟩ := hg.kids hm
      have hlen := hg.1
      have f1 := okL_drop l i i0 c1
      have f2 := cntL_drop l i i0 c1
      have f3 := dpL_drop l i i0 c1
      rw [f1] at e1
      rw [f2] at e2
      rw [f3] at e3
      have hk := cnt_kid l i i0 c1
      refine EvP.bind (refOutl_ev n (rd_T61 l i).f2 (by omega) k3 (by omega)) (fun r hr => ?_)
      obtain ⟨r1, r2, r3⟩ := hr
      have hmx : ∀ x y : Int, mx x y = max x y := fun x y => by unfold mx; split <;> omega
      have hkd := dp_cnt (cntL (rd_T61 l i).f2 + 1) (rd_T61 l i).f2 (by omega)
      rw [w64 (x := i + 1) (by omega) (by omega), w64 (x := s.1 + 1) (by omega) (by omega), w64 (x := s.1 + 1 + r.1) (by omega) (by omega), w64 (x := r.2.1 + 1) (by omega) (by omega)]
      have key : ∀ b : Bool, b = (s.2.2 && r.2.2 && decide ((rd_T61 l i).f0.size ≤ 200) && decide (1 ≤ (rd_T61 l i).f1) && decide ((rd_T61 l i).f1 ≤ 1000)) → EvP (fun k => incunableref25_outlines.l0 k l (s.1 + 1 + r.1) (mx s.2.1 (r.2.1 + 1)) b (i + 1)) (fun r => r.1 = cntL l ∧ r.2.1 = dpL l ∧ r.2.2 = okL l) := by
        intro b hb
        refine ih (s.1 + 1 + r.1, mx s.2.1 (r.2.1 + 1), b) c1 ⟨by omega, by show 0 ≤ s.1 + 1 + r.1; omega, by show 0 ≤ mx _ _; rw [hmx]; omega, by show s.1 + 1 + r.1 + _ = _; omega, by show max (mx _ _) _ = _; rw [hmx]; omega, ?_⟩
        show (b && _) = _
        rw [hb, ← e1, r3]
        cases s.2.2 <;> cases okL (rd_T61 l i).f2 <;> simp
      refine EvP.ite (fun d1 => ?_) (fun d1 => ?_)
      · refine EvP.ite (fun d2 => ?_) (fun d2 => ?_)
        · refine EvP.ite (fun d3 => ?_) (fun d3 => ?_)
          · have d3' : (rd_T61 l i).f0.size ≤ 200 := by omega
            refine EvP.ite (fun d4 => ?_) (fun d4 => ?_)
            · have d4' : 1 ≤ (rd_T61 l i).f1 := d4
              exact key _ (by simp [d1, d2, d3', d4'])
            · have d4' : ¬ 1 ≤ (rd_T61 l i).f1 := d4
              exact key _ (by simp [d4'])
          · have d3' : ¬ (rd_T61 l i).f0.size ≤ 200 := by omega
            exact key _ (by simp [d3'])
        · exact key _ (by simp [d2])
      · exact key _ (by simp [d1])
    · have e : l.drop i.toNat = [] := drop_none61 l i i0 c1
      rw [e] at e1 e2 e3
      simp only [okL, cntL, dpL] at e1 e2 e3
      refine EvP.ret ⟨by show s.1 = _; omega, by show s.2.1 = _; omega, by show s.2.2 = _; rw [← e1]; simp⟩
theorem refValid_ev (l : List S61) (hg : GL l) (hc : cntL l ≤ 6000) : EvP (fun k => incunableref25_ValidOutlines.f k l) (fun b => (b = true ↔ (okL l = true ∧ cntL l ≤ 400 ∧ dpL l ≤ 20))) := by
  refine EvP.bind (refOutl_ev (cntL l + 1) l (by omega) hg hc) (fun r hr => ?_)
  obtain ⟨r1, r2, r3⟩ := hr
  refine EvP.ite (fun d1 => ?_) (fun d1 => EvP.ret (Iff.intro (fun h => by cases h) (fun h => absurd (r3.trans h.1) d1)))
  refine EvP.ite (fun d2 => ?_) (fun d2 => EvP.ret (Iff.intro (fun h => by cases h) (fun h => by omega)))
  refine EvP.ret (Iff.intro (fun h => ⟨r3.symm.trans d1, by omega, ?_⟩) (fun h => ?_))
  · have := of_decide_eq_true h
    omega
  · exact decide_eq_true (by omega)

theorem flat_ev : ∀ (n : Nat) (l : List S61), cntL l < n → GL l → ∀ (d : Int) (o : List S61) (ds : List Int), 0 ≤ d → d + cntL l ≤ 1000000 → o.length + cntL l ≤ 1000000 → ds.length + cntL l ≤ 1000000 →
    EvP (fun k => note_flat.l0 k l d o ds 0) (· = (o ++ foL l, ds ++ fdL d l))
  | 0, _, h, _, _, _, _, _, _, _, _ => by omega
  | n + 1, l, hn, hg, d, o, ds, hd0, hd1, ho1, hs1 => by
    refine EvP.up (L := fun k i (s : List S61 × List Int) => note_flat.l0 k l d s.1 s.2 i) (fun i s => 0 ≤ i ∧ s.1.length + cntL (l.drop i.toNat) ≤ 1000000 ∧ s.2.length + cntL (l.drop i.toNat) ≤ 1000000 ∧ s.1 ++ foL (l.drop i.toNat) = o ++ foL l ∧ s.2 ++ fdL d (l.drop i.toNat) = ds ++ fdL d l) l.length ?_ 0 (o, ds) (by omega) ⟨by omega, by simpa using ho1, by simpa using hs1, by simp, by simp⟩
    intro i s hi hin ih
    obtain ⟨i0, a1, a2, e1, e2⟩ := hi
    refine EvP.step (fun k => by rw [note_flat.l0]) ?_
    refine EvP.ite (fun c1 => ?_) (fun c1 => ?_)
    · have hm := rd_mem61 l i i0 c1
      obtain ⟨k1, _, k3⟩ := hg.kids hm
      have hlen := hg.1
      have hk := cnt_kid l i i0 c1
      have f2 := cntL_drop l i i0 c1
      have hdr := drop_rd61 l i i0 c1
      rw [f2] at a1 a2
      refine EvP.pos i0 (EvP.pos (by omega) (EvP.pos (by omega) ?_))
      rw [w64 (x := d + 1) (by omega) (by omega)]
      refine EvP.bind (flat_ev n (rd_T61 l i).f2 (by omega) k3 (d + 1) _ _ (by omega) (by omega) (by rw [List.length_append, List.length_singleton]; omega) (by rw [List.length_append, List.length_singleton]; omega)) (fun r hr => ?_)
      obtain rfl : r = _ := hr
      rw [w64 (x := i + 1) (by omega) (by omega)]
      have g1 := foL_len (cntL (rd_T61 l i).f2 + 1) (rd_T61 l i).f2 (by omega)
      have g2 := fdL_len (cntL (rd_T61 l i).f2 + 1) (d + 1) (rd_T61 l i).f2 (by omega)
      refine ih (_, _) c1 ⟨by omega, ?_, ?_, ?_, ?_⟩
      · show (_ ++ _ ++ foL _).length + _ ≤ _
        simp only [List.length_append, List.length_singleton, g1]
        omega
      · show (_ ++ _ ++ fdL _ _).length + _ ≤ _
        simp only [List.length_append, List.length_singleton, g2]
        omega
      · show _ ++ _ ++ foL _ ++ _ = _
        rw [← e1, hdr, foL, foO_kids]
        simp
      · show _ ++ _ ++ fdL _ _ ++ _ = _
        rw [← e2, hdr, fdL, fdO_kids]
        simp
    · have e : l.drop i.toNat = [] := drop_none61 l i i0 c1
      rw [e] at e1 e2
      simp only [foL, fdL, List.append_nil] at e1 e2
      refine EvP.ret ?_
      rw [e1, e2]
theorem refFlat_eq : ∀ (k : Nat), incunableref25_flat.l0 k = note_flat.l0 k
  | 0 => by
    funext l d o ds i
    rw [incunableref25_flat.l0, note_flat.l0]
  | k + 1 => by
    funext l d o ds i
    rw [incunableref25_flat.l0, note_flat.l0, refFlat_eq k]

theorem sameOut_ev : ∀ (n : Nat) (l : List S61), cntL l < n → cntL l ≤ 1000000 → EvP (fun k => incunableref25_SameOutlines.f k l l) (· = true)
  | 0, _, h, _ => by omega
  | n + 1, l, hn, hc => by
    refine EvP.step (fun k => by rw [incunableref25_SameOutlines.f]) (EvP.pos rfl ?_)
    refine EvP.up (L := fun k i (s : Unit) => incunableref25_SameOutlines.l0 k l l i) (fun i _ => 0 ≤ i) l.length ?_ 0 () (by omega) (by omega)
    intro i s i0 hin ih
    have hlen := cntL_le l
    refine EvP.step (fun k => by rw [incunableref25_SameOutlines.l0]) ?_
    refine EvP.ite (fun c1 => ?_) (fun c1 => EvP.ret rfl)
    have hk := cnt_kid l i i0 c1
    refine EvP.pos i0 (EvP.pos c1 (EvP.pos rfl (EvP.pos rfl ?_)))
    refine EvP.bind (sameOut_ev n (rd_T61 l i).f2 (by omega) (by omega)) (fun r hr => ?_)
    refine EvP.pos hr ?_
    rw [w64 (x := i + 1) (by omega) (by omega)]
    exact ih () c1 (by omega)
theorem cntL_foL : ∀ (n : Nat) (l : List S61), cntL l < n → cntL (foL l) = cntL l
  | 0, _, h => by omega
  | n + 1, [], _ => by simp [foL]
  | n + 1, x :: xs, h => by
    have e1 := cntO_kids x
    simp only [cntL] at h
    have h1 := cntL_foL n x.f2 (by omega)
    have h2 := cntL_foL n xs (by omega)
    have app : ∀ (a b : List S61), cntL (a ++ b) = cntL a + cntL b := by
      intro a b
      induction a with
      | nil => simp [cntL]
      | cons y ys ih => simp [cntL, ih]; omega
    rw [foL, foO_kids, app, cntL, h1, h2, cntL, e1]
    simp [cntO, cntL]

theorem Sane25_is : EvP (fun k => incunablelaw25_Sane.f k) (· = true) :=
  ⟨true, Ev.of (fun k => incunablelaw25_Sane.mono k) (k := 40) (by decide +kernel), rfl⟩

theorem SameInts_self (l : List Int) (hl : (l.length : Int) ≤ 9223372036854775806) : EvP (fun k => incunableref01_SameInts.f k l l) (· = true) := by
  unfold incunableref01_SameInts.f
  refine EvP.pos rfl ?_
  refine EvP.up (L := fun k i (_ : Unit) => incunableref01_SameInts.l0 k l l i) (fun i _ => 0 ≤ i) l.length ?_ 0 () (by omega) (by omega)
  intro i _ i0 hi ih
  refine EvP.step (fun k => by rw [incunableref01_SameInts.l0]) ?_
  refine EvP.ite (fun c => ?_) (fun c => EvP.ret rfl)
  refine EvP.pos i0 (EvP.pos c (EvP.pos rfl ?_))
  rw [w64 (x := i + 1) (by omega) (by omega)]
  exact ih () c (by omega)

theorem NoteFlat : incunablelaw25_NoteFlat.Pure := by
  intro l hg
  have hg : GL l := hg
  refine EvP.rounds ?_
  refine EvP.bind (heavy_ev l hg) (fun b hb => ?_)
  refine EvP.ite (fun c => EvP.bind Sane25_is (fun r hr => EvP.ret hr)) (fun c => ?_)
  have hc : cntL l ≤ 6000 := hb (by simpa using c)
  have hsame : ∀ (o : List S61) (ds : List Int) (e : Int), cntL o ≤ 1000000 → ds.length ≤ 1000000 →
      EvP (fun k => if e = e then ((incunableref25_SameOutlines.f k o o).bind fun t158 => (if t158 = true then ((incunableref01_SameInts.f k ds ds).bind fun t159 => (if t159 = true then ((incunablelaw25_Sane.f k).bind fun t160 => (some t160)) else (some false))) else (some false))) else (some false)) (· = true) := by
    intro o ds e ho hds
    refine EvP.pos rfl (EvP.bind (sameOut_ev (cntL o + 1) o (by omega) ho) (fun r hr => EvP.pos hr ?_))
    refine EvP.bind (SameInts_self ds (by omega)) (fun r hr => EvP.pos hr ?_)
    exact EvP.bind Sane25_is (fun r hr => EvP.ret hr)
  have flat1 : EvP (fun k => note_Flat.f k l) (fun r => (okL l = true ∧ cntL l ≤ 400 ∧ dpL l ≤ 20) ∧ r = (foL l, fdL 0 l, 0) ∨ ¬ (okL l = true ∧ cntL l ≤ 400 ∧ dpL l ≤ 20) ∧ r = ([], [], 95)) := by
    refine EvP.bind (valid_ev l hg) (fun v hv => ?_)
    refine EvP.ite (fun c => ?_) (fun c => EvP.ret (.inr ⟨fun h => c (hv.2 h), rfl⟩))
    refine EvP.bind (flat_ev (cntL l + 1) l (by omega) hg 0 [] [] (by omega) (by omega) (by simp; omega) (by simp; omega)) (fun r hr => EvP.ret (.inl ⟨hv.1 c, ?_⟩))
    rw [hr]
    simp
  have flat2 : EvP (fun k => incunableref25_Flat.f k l) (fun r => (okL l = true ∧ cntL l ≤ 400 ∧ dpL l ≤ 20) ∧ r = (foL l, fdL 0 l, 0) ∨ ¬ (okL l = true ∧ cntL l ≤ 400 ∧ dpL l ≤ 20) ∧ r = ([], [], 95)) := by
    unfold incunableref25_Flat.f
    simp only [refFlat_eq]
    refine EvP.bind (refValid_ev l hg hc) (fun v hv => ?_)
    refine EvP.ite (fun c => ?_) (fun c => EvP.ret (.inr ⟨fun h => c (hv.2 h), rfl⟩))
    refine EvP.bind (flat_ev (cntL l + 1) l (by omega) hg 0 [] [] (by omega) (by omega) (by simp; omega) (by simp; omega)) (fun r hr => EvP.ret (.inl ⟨hv.1 c, ?_⟩))
    rw [hr]
    simp
  refine EvP.bind flat1 (fun r hr => EvP.bind flat2 (fun q hq => ?_))
  rcases hr with ⟨h1, rfl⟩ | ⟨h1, rfl⟩ <;> rcases hq with ⟨h2, rfl⟩ | ⟨h2, rfl⟩
  · exact hsame _ _ _ (by rw [cntL_foL (cntL l + 1) l (by omega)]; omega) (by rw [fdL_len (cntL l + 1) 0 l (by omega)]; omega)
  · exact absurd h1 h2
  · exact absurd h2 h1
  · exact hsame _ _ _ (by simp [cntL]) (by simp)

end Go.Proofs.YtacdchogjpeffaaDoor.Pure
