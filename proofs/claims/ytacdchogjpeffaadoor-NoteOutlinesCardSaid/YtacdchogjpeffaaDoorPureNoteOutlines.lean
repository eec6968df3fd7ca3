/- The bytes of outlines, and that GetOutlines of them is the list. -/
import Derived.Test.YtacdchogjpeffaaDoorPNoteOutlinesx7
import Derived.Test.YtacdchogjpeffaaDoorQBase
namespace Go.Proofs.YtacdchogjpeffaaDoor.Pure
open Go.RowKit Go.Proofs.YtacdchogjpeffaaDoor.PNoteOutlines Go.Proofs.YtacdchogjpeffaaDoorW.PrintWords Go.Proofs.YtacdchogjpeffaaDoorW.PrintLast Go.Proofs.YtacdchogjpeffaaDoorW.PrintMore Go.Proofs.YtacdchogjpeffaaDoorW.Pu
set_option linter.unusedVariables false
set_option linter.unusedSimpArgs false
/-- The numbers of a list are those of bytes. -/
def Byt (p : List Int) : Prop := ∀ x ∈ p, 0 ≤ x ∧ x ≤ 255
theorem val_byt {w h : Int} {p : List Int} (v : Val w h p) : Byt p := fun x hx => ⟨(v.2.2.2.2.2.2 x hx).1, by have := (v.2.2.2.2.2.2 x hx).2; omega⟩

theorem wf_byt {p : List Int} (h : ∀ y ∈ p, (Lit.int .u8 y).wf = true) : Byt p := fun x hx => by
  have h1 : (decide (IntKind.u8.min ≤ x) && decide (x ≤ IntKind.u8.max)) = true := h x hx
  obtain ⟨a, b⟩ := Bool.and_eq_true_iff.mp h1
  exact ⟨of_decide_eq_true a, of_decide_eq_true b⟩
theorem wf_i64 {x : Int} (h : (Lit.int .i64 x).wf = true) : -9223372036854775808 ≤ x ∧ x ≤ 9223372036854775807 := by
  have h1 : (decide (IntKind.i64.min ≤ x) && decide (x ≤ IntKind.i64.max)) = true := h
  obtain ⟨a, b⟩ := Bool.and_eq_true_iff.mp h1
  exact ⟨of_decide_eq_true a, of_decide_eq_true b⟩

mutual
def cntO : S61 → Nat
  | ⟨_, _, ks⟩ => 1 + cntL ks
def cntL : List S61 → Nat
  | [] => 0
  | x :: xs => cntO x + cntL xs
end
mutual
def dpO : S61 → Nat
  | ⟨_, _, ks⟩ => 1 + dpL ks
def dpL : List S61 → Nat
  | [] => 0
  | x :: xs => max (dpO x) (dpL xs)
end
mutual
def okO : S61 → Bool
  | ⟨t, p, ks⟩ => decide (t.size ≤ 200) && decide (1 ≤ p) && decide (p ≤ 1000) && okL ks
def okL : List S61 → Bool
  | [] => true
  | x :: xs => okO x && okL xs
end
mutual
def foO : S61 → List S61
  | ⟨t, p, ks⟩ => ⟨t, p, []⟩ :: foL ks
def foL : List S61 → List S61
  | [] => []
  | x :: xs => foO x ++ foL xs
end
mutual
def fdO : Int → S61 → List Int
  | d, ⟨_, _, ks⟩ => d :: fdL (d + 1) ks
def fdL : Int → List S61 → List Int
  | _, [] => []
  | d, x :: xs => fdO d x ++ fdL d xs
end
theorem cntO_kids (x : S61) : cntO x = 1 + cntL x.f2 := by cases x; simp [cntO]
theorem dpO_kids (x : S61) : dpO x = 1 + dpL x.f2 := by cases x; simp [dpO]
theorem okO_kids (x : S61) : okO x = (decide (x.f0.size ≤ 200) && decide (1 ≤ x.f1) && decide (x.f1 ≤ 1000) && okL x.f2) := by cases x; simp [okO]
theorem foO_kids (x : S61) : foO x = ⟨x.f0, x.f1, []⟩ :: foL x.f2 := by cases x; simp [foO]
theorem fdO_kids (d : Int) (x : S61) : fdO d x = d :: fdL (d + 1) x.f2 := by cases x; simp [fdO]
theorem drop_rd61 (l : List S61) (i : Int) (h0 : 0 ≤ i) (h1 : i < l.length) : l.drop i.toNat = rd_T61 l i :: l.drop (i + 1).toNat := by
  have hl : i.toNat < l.length := by omega
  rw [show (i + 1).toNat = i.toNat + 1 by omega, List.drop_eq_getElem_cons hl]
  congr 1
  simp [rd_T61, List.getD, List.getElem?_eq_getElem hl]
theorem drop_none61 (l : List S61) (i : Int) (h0 : 0 ≤ i) (h1 : ¬ i < l.length) : l.drop i.toNat = [] := List.drop_eq_nil_of_le (by omega)
theorem rd_mem61 (l : List S61) (i : Int) (h0 : 0 ≤ i) (h1 : i < l.length) : rd_T61 l i ∈ l := by
  have hl : i.toNat < l.length := by omega
  have e : rd_T61 l i = l[i.toNat] := by simp [rd_T61, List.getD, List.getElem?_eq_getElem hl]
  rw [e]
  exact List.getElem_mem hl
theorem cntL_le : ∀ (l : List S61), l.length ≤ cntL l
  | [] => by simp [cntL]
  | x :: xs => by have := cntL_le xs; have := cntO_kids x; simp [cntL]; omega
theorem dp_cnt : ∀ (n : Nat) (l : List S61), cntL l < n → dpL l ≤ cntL l
  | 0, _, h => by omega
  | n + 1, [], _ => by simp [dpL]
  | n + 1, x :: xs, h => by
    have e1 := cntO_kids x
    have e2 := dpO_kids x
    simp only [cntL, dpL] at h ⊢
    have h1 := dp_cnt n x.f2 (by omega)
    have h2 := dp_cnt n xs (by omega)
    omega
theorem cntL_mem : ∀ (l : List S61) (x : S61), x ∈ l → cntO x ≤ cntL l
  | y :: ys, x, h => by
    simp only [cntL]
    rcases List.mem_cons.1 h with rfl | h
    · omega
    · have := cntL_mem ys x h; omega
theorem foL_len : ∀ (n : Nat) (l : List S61), cntL l < n → (foL l).length = cntL l
  | 0, _, h => by omega
  | n + 1, [], _ => by simp [foL, cntL]
  | n + 1, x :: xs, h => by
    have e1 := cntO_kids x
    simp only [cntL, foL] at h ⊢
    have h1 := foL_len n x.f2 (by omega)
    have h2 := foL_len n xs (by omega)
    rw [foO_kids, List.length_append, List.length_cons]
    omega
theorem fdL_len : ∀ (n : Nat) (d : Int) (l : List S61), cntL l < n → (fdL d l).length = cntL l
  | 0, _, _, h => by omega
  | n + 1, d, [], _ => by simp [fdL, cntL]
  | n + 1, d, x :: xs, h => by
    have e1 := cntO_kids x
    simp only [cntL, fdL] at h ⊢
    have h1 := fdL_len n (d + 1) x.f2 (by omega)
    have h2 := fdL_len n d xs (by omega)
    rw [fdO_kids, List.length_append, List.length_cons]
    omega
def GL (l : List S61) : Prop := l.length ≤ 9223372036854775807 ∧ l.length * 48 ≤ 140737488351232 ∧ ∀ y ∈ l, ∃ n, Good61 n y
theorem GL.kids {l : List S61} {x : S61} (h : GL l) (hx : x ∈ l) : x.f0.size ≤ 140737488351232 ∧ (-9223372036854775808 ≤ x.f1 ∧ x.f1 ≤ 9223372036854775807) ∧ GL x.f2 := by
  obtain ⟨n, hn⟩ := h.2.2 x hx
  cases n with
  | zero => exact hn.elim
  | succ n =>
    obtain ⟨a, b, c, d, e⟩ := hn
    exact ⟨a, wf_i64 b, c, d, fun y hy => ⟨n, e y hy⟩⟩
theorem cntL_drop (l : List S61) (i : Int) (h0 : 0 ≤ i) (h1 : i < l.length) : cntL (l.drop i.toNat) = 1 + cntL (rd_T61 l i).f2 + cntL (l.drop (i + 1).toNat) := by
  rw [drop_rd61 l i h0 h1, cntL, cntO_kids]
theorem dpL_drop (l : List S61) (i : Int) (h0 : 0 ≤ i) (h1 : i < l.length) : dpL (l.drop i.toNat) = max (1 + dpL (rd_T61 l i).f2) (dpL (l.drop (i + 1).toNat)) := by
  rw [drop_rd61 l i h0 h1, dpL, dpO_kids]
theorem okL_drop (l : List S61) (i : Int) (h0 : 0 ≤ i) (h1 : i < l.length) : okL (l.drop i.toNat) = ((decide ((rd_T61 l i).f0.size ≤ 200) && decide (1 ≤ (rd_T61 l i).f1) && decide ((rd_T61 l i).f1 ≤ 1000) && okL (rd_T61 l i).f2) && okL (l.drop (i + 1).toNat)) := by
  rw [drop_rd61 l i h0 h1, okL, okO_kids]
theorem cnt_kid (l : List S61) (i : Int) (h0 : 0 ≤ i) (h1 : i < l.length) : cntL (rd_T61 l i).f2 < cntL l := by
  have := cntL_mem l _ (rd_mem61 l i h0 h1)
  have := cntO_kids (rd_T61 l i)
  omega

theorem room_ev : ∀ (n : Nat) (l : List S61), cntL l < n → GL l → ∀ (d left : Int), 0 ≤ d → d ≤ 60 → -140737488360000 ≤ left → left ≤ 6000 →
    EvP (fun k => incunablelaw25_room.f k l d left) (fun r => -140737488360000 ≤ r ∧ r ≤ 6000 ∧ (0 ≤ r → (cntL l : Int) + r ≤ left))
  | 0, _, h, _, _, _, _, _, _, _ => by omega
  | n + 1, l, hn, hg, d, left, hd0, hd1, hl0, hl1 => by
    refine EvP.step (fun k => by rw [incunablelaw25_room.f]) ?_
    refine EvP.ite (fun c => EvP.ret ⟨by omega, by omega, by omega⟩) (fun c => ?_)
    refine EvP.up (L := fun k i (s : Int) => incunablelaw25_room.l0 k l d s i) (fun i s => 0 ≤ i ∧ -140737488360000 ≤ s ∧ s ≤ 6000 ∧ (0 ≤ s → (cntL l : Int) + s ≤ left + cntL (l.drop i.toNat))) l.length ?_ 0 left (by omega) ⟨by omega, hl0, hl1, fun _ => by simp; omega⟩
    intro i s hi hin ih
    obtain ⟨i0, hs0, hs1, hs⟩ := hi
    refine EvP.step (fun k => by rw [incunablelaw25_room.l0]) ?_
    refine EvP.ite (fun c1 => ?_) (fun c1 => ?_)
    · refine EvP.ite (fun c2 => ?_) (fun c2 => EvP.ret ⟨hs0, hs1, fun h => by omega⟩)
      refine EvP.pos i0 ?_
      have hm := rd_mem61 l i i0 c1
      obtain ⟨k1, _, k3⟩ := hg.kids hm
      have hlen := hg.1
      have e2 := cntL_drop l i i0 c1
      rw [w64 (x := d - 1) (by omega) (by omega), w64 (x := s - 1) (by omega) (by omega), w64 (x := s - 1 - _) (by omega) (by omega)]
      refine EvP.bind (room_ev n (rd_T61 l i).f2 (by have := cnt_kid l i i0 c1; omega) k3 (d - 1) (s - 1 - ((rd_T61 l i).f0.size : Int)) (by omega) (by omega) (by omega) (by omega)) (fun r hr => ?_)
      obtain ⟨r0, r1, r2⟩ := hr
      rw [w64 (x := i + 1) (by omega) (by omega)]
      refine ih r c1 ⟨by omega, r0, r1, fun h => ?_⟩
      have := r2 h
      have := hs c2
      omega
    · refine EvP.ret ⟨hs0, hs1, fun h => ?_⟩
      have := hs h
      have e : l.drop i.toNat = [] := drop_none61 l i i0 c1
      rw [e] at this
      simp [cntL] at this
      omega
theorem heavy_ev (l : List S61) (hg : GL l) : EvP (fun k => incunablelaw25_Heavy.f k l) (fun b => b = false → cntL l ≤ 6000) := by
  refine EvP.bind (room_ev (cntL l + 1) l (by omega) hg 60 6000 (by omega) (by omega) (by omega) (by omega)) (fun r hr => EvP.ret (fun h => ?_))
  obtain ⟨_, _, h2⟩ := hr
  have h3 : ¬ r < 0 := by simpa using h
  have := h2 (by omega)
  omega

theorem outl_ev : ∀ (n : Nat) (l : List S61), cntL l < n → GL l → ∀ (m d : Int), 0 ≤ m → m ≤ 400 → 1 ≤ d → d ≤ 21 →
    EvP (fun k => note_looks_outlines.f k m l d) (fun r => (0 ≤ r.2 ∧ r.2 ≤ 401) ∧ (r.1 = true ↔ (okL l = true ∧ m + cntL l ≤ 400 ∧ d + dpL l ≤ 21)) ∧ (r.1 = true → r.2 = m + cntL l))
  | 0, _, h, _, _, _, _, _, _, _ => by omega
  | n + 1, l, hn, hg, m, d, hm0, hm1, hd0, hd1 => by
    refine EvP.step (fun k => by rw [note_looks_outlines.f]) ?_
    refine EvP.up (L := fun k i (s : Int) => note_looks_outlines.l0 k d l (l.length : Int) i s) (fun i s => 0 ≤ i ∧ 0 ≤ s ∧ s ≤ 400 ∧ okL l = okL (l.drop i.toNat) ∧ m + cntL l = s + cntL (l.drop i.toNat) ∧ (d + dpL l ≤ 21 ↔ d + dpL (l.drop i.toNat) ≤ 21)) l.length ?_ 0 m (by omega) ⟨by omega, hm0, hm1, by simp, by simp, by simp⟩
    intro i s hi hin ih
    obtain ⟨i0, hs0, hs1, e1, e2, e3⟩ := hi
    refine EvP.step (fun k => by rw [note_looks_outlines.l0]) ?_
    refine EvP.ite (fun c1 => ?_) (fun c1 => ?_)
    · refine EvP.pos i0 (EvP.pos c1 ?_)
      have hm := rd_mem61 l i i0 c1
      obtain ⟨k1, _, k3⟩ := hg.kids hm
      have hlen := hg.1
      have f1 := okL_drop l i i0 c1
      have f2 := cntL_drop l i i0 c1
      have f3 := dpL_drop l i i0 c1
      rw [f1] at e1
      rw [f2] at e2
      rw [f3] at e3
      rw [w64 (x := s + 1) (by omega) (by omega)]
      refine EvP.ite (fun c => EvP.ret ⟨⟨by omega, by omega⟩, ⟨fun h => (by cases h), fun h => by omega⟩, fun h => (by cases h)⟩) (fun c2 => ?_)
      refine EvP.ite (fun c => EvP.ret ⟨⟨by omega, by omega⟩, ⟨fun h => (by cases h), fun h => by have := e3.1 h.2.2; omega⟩, fun h => (by cases h)⟩) (fun c3 => ?_)
      refine EvP.ite (fun c => EvP.ret ⟨⟨by omega, by omega⟩, ⟨fun h => (by cases h), fun h => by have := e1.symm.trans h.1; simp at this; omega⟩, fun h => (by cases h)⟩) (fun c4 => ?_)
      refine EvP.ite (fun c => EvP.ret ⟨⟨by omega, by omega⟩, ⟨fun h => (by cases h), fun h => by have := e1.symm.trans h.1; simp at this; omega⟩, fun h => (by cases h)⟩) (fun c5 => ?_)
      refine EvP.ite (fun c => EvP.ret ⟨⟨by omega, by omega⟩, ⟨fun h => (by cases h), fun h => by have := e1.symm.trans h.1; simp at this; omega⟩, fun h => (by cases h)⟩) (fun c6 => ?_)
      rw [w64 (x := d + 1) (by omega) (by omega)]
      refine EvP.bind (outl_ev n (rd_T61 l i).f2 (by have := cnt_kid l i i0 c1; omega) k3 (s + 1) (d + 1) (by omega) (by omega) (by omega) (by omega)) (fun r hr => ?_)
      obtain ⟨⟨r0, r1⟩, r2, r3⟩ := hr
      refine EvP.ite (fun c => ?_) (fun c => ?_)
      · rw [w64 (x := i + 1) (by omega) (by omega)]
        obtain ⟨g1, g2, g3⟩ := r2.1 c
        have g4 := r3 c
        refine ih r.2 c1 ⟨by omega, r0, by omega, ?_, by omega, ?_⟩
        · rw [e1, g1]
          have a1 : (rd_T61 l i).f0.size ≤ 200 := by omega
          have a2 : 1 ≤ (rd_T61 l i).f1 := by omega
          have a3 : (rd_T61 l i).f1 ≤ 1000 := by omega
          simp [a1, a2, a3]
        · rw [e3]
          omega
      · refine EvP.ret ⟨⟨r0, r1⟩, ⟨fun h => (by cases h), fun h => ?_⟩, fun h => (by cases h)⟩
        obtain ⟨h1, h2, h3⟩ := h
        refine absurd (r2.2 ⟨?_, ?_, ?_⟩) c
        · have := e1.symm.trans h1
          simp at this
          exact this.1.2
        · omega
        · have := e3.1 h3
          omega
    · have e : l.drop i.toNat = [] := drop_none61 l i i0 c1
      rw [e] at e1 e2 e3
      simp only [okL, cntL, dpL] at e1 e2 e3
      refine EvP.ret ⟨⟨hs0, by omega⟩, ⟨fun _ => ⟨e1, by omega, e3.2 (by omega)⟩, fun _ => rfl⟩, fun _ => by show s = _; omega⟩
theorem valid_ev (l : List S61) (hg : GL l) : EvP (fun k => note_ValidOutlines.f k l) (fun b => (b = true ↔ (okL l = true ∧ cntL l ≤ 400 ∧ dpL l ≤ 20))) := by
  refine EvP.bind (outl_ev (cntL l + 1) l (by omega) hg 0 1 (by omega) (by omega) (by omega) (by omega)) (fun r hr => EvP.ret ?_)
  rw [hr.2.1]
  constructor
  · rintro ⟨a, b, c⟩; exact ⟨a, by omega, by omega⟩
  · rintro ⟨a, b, c⟩; exact ⟨a, by omega, by omega⟩

theorem refOutl_ev : ∀ (n : Nat) (l : List S61), cntL l < n → GL l → cntL l ≤ 6000 →
    EvP (fun k => incunableref25_outlines.f k l) (fun r => r.1 = cntL l ∧ r.2.1 = dpL l ∧ r.2.2 = okL l)
  | 0, _, h, _, _ => by omega
  | n + 1, l, hn, hg, hc => by
    refine EvP.step (fun k => by rw [incunableref25_outlines.f]) ?_
    refine EvP.up (L := fun k i (s : Int × Int × Bool) => incunableref25_outlines.l0 k l s.1 s.2.1 s.2.2 i) (fun i s => 0 ≤ i ∧ 0 ≤ s.1 ∧ 0 ≤ s.2.1 ∧ (s.1 + cntL (l.drop i.toNat) = cntL l) ∧ max s.2.1 (dpL (l.drop i.toNat) : Int) = dpL l ∧ (s.2.2 && okL (l.drop i.toNat)) = okL l) l.length ?_ 0 (0, 0, true) (by omega) ⟨by omega, by simp, by simp, by simp, by simp, by simp⟩
    intro i s hi hin ih
    obtain ⟨i0, hs0, hs1, e2, e3, e1⟩ := hi
    have hdc := dp_cnt (cntL l + 1) l (by omega)
    refine EvP.step (fun k => by rw [incunableref25_outlines.l0]) ?_
    refine EvP.ite (fun c1 => ?_) (fun c1 => ?_)
    · refine EvP.pos i0 ?_
      have hm := rd_mem61 l i i0 c1
      obtain ⟨k1, _, k3⟩ := hg.kids hm
      have hlen := hg.1
      have f1 := okL_drop l i i0 c1
      have f2 := cntL_drop l i i0 c1
      have f3 := dpL_drop l i i0 c1
      rw [f1] at e1
      rw [f2] at e2
      rw [f3] at e3
      have hk := cnt_kid l i i0 c1
      refine EvP.bind (refOutl_ev n (rd_T61 l i).f2 (by omega) k3 (by omega)) (fun r hr => ?_)
      obtain ⟨r1, r2, r3⟩ := hr
      have hmx : ∀ x y : Int, mx x y = max x y := fun x y => by unfold mx; split <;> omega
      have hkd := dp_cnt (cntL (rd_T61 l i).f2 + 1) (rd_T61 l i).f2 (by omega)
      rw [w64 (x := i + 1) (by omega) (by omega), w64 (x := s.1 + 1) (by omega) (by omega), w64 (x := s.1 + 1 + r.1) (by omega) (by omega), w64 (x := r.2.1 + 1) (by omega) (by omega)]
      have key : ∀ b : Bool, b = (s.2.2 && r.2.2 && decide ((rd_T61 l i).f0.size ≤ 200) && decide (1 ≤ (rd_T61 l i).f1) && decide ((rd_T61 l i).f1 ≤ 1000)) → EvP (fun k => incunableref25_outlines.l0 k l (s.1 + 1 + r.1) (mx s.2.1 (r.2.1 + 1)) b (i + 1)) (fun r => r.1 = cntL l ∧ r.2.1 = dpL l ∧ r.2.2 = okL l) := by
        intro b hb
        refine ih (s.1 + 1 + r.1, mx s.2.1 (r.2.1 + 1), b) c1 ⟨by omega, by show 0 ≤ s.1 + 1 + r.1; omega, by show 0 ≤ mx _ _; rw [hmx]; omega, by show s.1 + 1 + r.1 + _ = _; omega, by show max (mx _ _) _ = _; rw [hmx]; omega, ?_⟩
        show (b && _) = _
        rw [hb, ← e1, r3]
        cases s.2.2 <;> cases okL (rd_T61 l i).f2 <;> simp
      refine EvP.ite (fun d1 => ?_) (fun d1 => ?_)
      · refine EvP.ite (fun d2 => ?_) (fun d2 => ?_)
        · refine EvP.ite (fun d3 => ?_) (fun d3 => ?_)
          · have d3' : (rd_T61 l i).f0.size ≤ 200 := by omega
            refine EvP.ite (fun d4 => ?_) (fun d4 => ?_)
            · have d4' : 1 ≤ (rd_T61 l i).f1 := d4
              exact key _ (by simp [d1, d2, d3', d4'])
            · have d4' : ¬ 1 ≤ (rd_T61 l i).f1 := d4
              exact key _ (by simp [d4'])
          · have d3' : ¬ (rd_T61 l i).f0.size ≤ 200 := by omega
            exact key _ (by simp [d3'])
        · exact key _ (by simp [d2])
      · exact key _ (by simp [d1])
    · have e : l.drop i.toNat = [] := drop_none61 l i i0 c1
      rw [e] at e1 e2 e3
      simp only [okL, cntL, dpL] at e1 e2 e3
      refine EvP.ret ⟨by show s.1 = _; omega, by show s.2.1 = _; omega, by show s.2.2 = _; rw [← e1]; simp⟩
theorem refValid_ev (l : List S61) (hg : GL l) (hc : cntL l ≤ 6000) : EvP (fun k => incunableref25_ValidOutlines.f k l) (fun b => (b = true ↔ (okL l = true ∧ cntL l ≤ 400 ∧ dpL l ≤ 20))) := by
  refine EvP.bind (refOutl_ev (cntL l + 1) l (by omega) hg hc) (fun r hr => ?_)
  obtain ⟨r1, r2, r3⟩ := hr
  refine EvP.ite (fun d1 => ?_) (fun d1 => EvP.ret (Iff.intro (fun h => by cases h) (fun h => absurd (r3.trans h.1) d1)))
  refine EvP.ite (fun d2 => ?_) (fun d2 => EvP.ret (Iff.intro (fun h => by cases h) (fun h => by omega)))
  refine EvP.ret (Iff.intro (fun h => ⟨r3.symm.trans d1, by omega, ?_⟩) (fun h => ?_))
  · have := of_decide_eq_true h
    omega
  · exact decide_eq_true (by omega)

theorem sameOut_ev : ∀ (n : Nat) (l : List S61), cntL l < n → cntL l ≤ 1000000 → EvP (fun k => incunableref25_SameOutlines.f k l l) (· = true)
  | 0, _, h, _ => by omega
  | n + 1, l, hn, hc => by
    refine EvP.step (fun k => by rw [incunableref25_SameOutlines.f]) (EvP.pos rfl ?_)
    refine EvP.up (L := fun k i (s : Unit) => incunableref25_SameOutlines.l0 k l l i) (fun i _ => 0 ≤ i) l.length ?_ 0 () (by omega) (by omega)
    intro i s i0 hin ih
    have hlen := cntL_le l
    refine EvP.step (fun k => by rw [incunableref25_SameOutlines.l0]) ?_
    refine EvP.ite (fun c1 => ?_) (fun c1 => EvP.ret rfl)
    have hk := cnt_kid l i i0 c1
    refine EvP.pos i0 (EvP.pos c1 (EvP.pos rfl (EvP.pos rfl ?_)))
    refine EvP.bind (sameOut_ev n (rd_T61 l i).f2 (by omega) (by omega)) (fun r hr => ?_)
    refine EvP.pos hr ?_
    rw [w64 (x := i + 1) (by omega) (by omega)]
    exact ih () c1 (by omega)
theorem cntL_foL : ∀ (n : Nat) (l : List S61), cntL l < n → cntL (foL l) = cntL l
  | 0, _, h => by omega
  | n + 1, [], _ => by simp [foL]
  | n + 1, x :: xs, h => by
    have e1 := cntO_kids x
    simp only [cntL] at h
    have h1 := cntL_foL n x.f2 (by omega)
    have h2 := cntL_foL n xs (by omega)
    have app : ∀ (a b : List S61), cntL (a ++ b) = cntL a + cntL b := by
      intro a b
      induction a with
      | nil => simp [cntL]
      | cons y ys ih => simp [cntL, ih]; omega
    rw [foL, foO_kids, app, cntL, h1, h2, cntL, e1]
    simp [cntO, cntL]

theorem Sane25_is : EvP (fun k => incunablelaw25_Sane.f k) (· = true) :=
  ⟨true, Ev.of (fun k => incunablelaw25_Sane.mono k) (k := 40) (by decide +kernel), rfl⟩

def sz25 (n : Int) : List Int := if n < 128 then [n] else [128 + n / 128, n % 128]
theorem sz25_len (n : Int) : (sz25 n).length ≤ 2 := by unfold sz25; split <;> simp
theorem sz25_pos (n : Int) : 1 ≤ (sz25 n).length := by unfold sz25; split <;> simp
theorem bsize_ev (n : Int) (h0 : 0 ≤ n) (h1 : n < 16384) : EvP (fun k => bits_Size.f k n) (· = (sz25 n, 0)) := by
  refine EvP.neg (by omega) ?_
  have e1 : Int.tdiv n 128 = n / 128 := Int.tdiv_eq_ediv_of_nonneg h0
  have e2 : Int.tmod n 128 = n % 128 := Int.tmod_eq_emod_of_nonneg h0
  refine EvP.step (fun k => by rw [bits_Size.j0]) (EvP.neg (by simp; omega) ?_)
  rw [e1, e2, w64 (x := n / 128) (by omega) (by omega), show n % 128 % 256 = n % 128 by omega]
  refine EvP.step (fun k => by rw [bits_Size.l0]) ?_
  by_cases c : n < 128
  · refine EvP.neg (by omega) (EvP.ret ?_)
    rw [show n % 128 = n by omega]
    unfold sz25
    rw [if_pos c]
  · refine EvP.pos (by omega) ?_
    have e3 : Int.tdiv (n / 128) 128 = 0 := by rw [Int.tdiv_eq_ediv_of_nonneg (by omega)]; omega
    have e4 : Int.tmod (n / 128) 128 = n / 128 := by rw [Int.tmod_eq_emod_of_nonneg (by omega)]; omega
    refine EvP.bindv rfl (EvP.pos (by simp) ?_)
    rw [e3, e4, w64 (x := 0) (by omega) (by omega)]
    refine EvP.step (fun k => by rw [bits_Size.l0]) (EvP.neg (by omega) (EvP.ret ?_))
    unfold sz25
    rw [if_neg c, show (n / 128 % 256 + 128) % 256 = 128 + n / 128 by omega]
    rfl
theorem size_ev (n : Int) (h0 : 0 ≤ n) (h1 : n < 16384) : EvP (fun k => note_size.f k n) (· = sz25 n) := by
  refine EvP.bind (bsize_ev n h0 h1) (fun r hr => EvP.ret ?_)
  rw [hr]
theorem gsize_ev (l : List Int) (p : Int) (pre post : List Int) (n : Int) (h0 : 0 ≤ n) (h1 : n < 16384) (hl : l = pre ++ (sz25 n ++ post)) (hp : p = pre.length) (hL : l.length ≤ 1000000) : EvP (fun k => bits_GetSize.f k l p) (· = (n, p + ((sz25 n).length : Int), 0)) := by
  have hlen : l.length = pre.length + (sz25 n).length + post.length := by rw [hl]; simp; omega
  have hs := sz25_pos n
  refine EvP.neg (by omega) ?_
  refine EvP.step (fun k => by rw [bits_GetSize.j0]) (EvP.neg (by simp; omega) ?_)
  refine EvP.step (fun k => by rw [bits_GetSize.l0]) (EvP.pos (by omega) ?_)
  rw [w64 (x := p + 0) (by omega) (by omega)]
  refine EvP.neg (by omega) (EvP.pos (by omega) (EvP.pos (by omega) ?_))
  have r0 : rd l (p + 0) = (sz25 n).headD 0 := by
    rw [hp, hl, show (pre.length : Int) + 0 = ((pre.length : Nat) : Int) by omega]
    simp only [rd, List.getD, Int.toNat_natCast]
    rw [List.getElem?_append_right (Nat.le_refl _)]
    unfold sz25
    split <;> simp
  by_cases c : n < 128
  · have e : sz25 n = [n] := by unfold sz25; rw [if_pos c]
    have r0 : rd l (p + 0) = n := by rw [r0, e]; rfl
    rw [e, r0]
    rw [w64 (x := n) (by omega) (by omega), (w64 (x := 0 * 128) (by omega) (by omega)).trans (Int.zero_mul 128), show Int.tmod n 128 = n by rw [Int.tmod_eq_emod_of_nonneg h0]; omega, w64 (x := 0 + n) (by omega) (by omega), w64 (x := p + 0 + 1) (by omega) (by omega)]
    refine EvP.pos c (EvP.neg (by omega) (EvP.neg (by omega) (EvP.ret ?_)))
    simp
  · have e : sz25 n = [128 + n / 128, n % 128] := by unfold sz25; rw [if_neg c]
    have r1 : rd l (p + 1) = n % 128 := by
      rw [hp, hl, show (pre.length : Int) + 1 = ((pre.length + 1 : Nat) : Int) by omega, e]
      simp only [rd, List.getD, Int.toNat_natCast]
      rw [List.getElem?_append_right (by omega)]
      simp
    have r2 : rd l p = 128 + n / 128 := by rw [show p = p + 0 by omega, r0, e]; rfl
    rw [e] at r0 hlen ⊢
    simp only [List.headD_cons, List.length_cons, List.length_nil] at r0 hlen ⊢
    rw [r0, w64 (x := 128 + n / 128) (by omega) (by omega)]
    refine EvP.neg (by omega) ?_
    rw [(w64 (x := 0 * 128) (by omega) (by omega)).trans (Int.zero_mul 128), show Int.tmod (128 + n / 128) 128 = n / 128 by rw [Int.tmod_eq_emod_of_nonneg (by omega)]; omega, w64 (x := 0 + n / 128) (by omega) (by omega), w64 (x := 0 + 1) (by omega) (by omega), Int.zero_add 1]
    refine EvP.step (fun k => by rw [bits_GetSize.l0]) (EvP.pos (by omega) ?_)
    rw [w64 (x := p + 1) (by omega) (by omega)]
    refine EvP.neg (by omega) (EvP.pos (by omega) (EvP.pos (by omega) ?_))
    rw [r1, w64 (x := n % 128) (by omega) (by omega)]
    refine EvP.pos (by omega) ?_
    rw [w64 (x := (0 + n / 128) * 128) (by omega) (by omega), show Int.tmod (n % 128) 128 = n % 128 by rw [Int.tmod_eq_emod_of_nonneg (by omega)]; omega, w64 (x := (0 + n / 128) * 128 + n % 128) (by omega) (by omega), w64 (x := p + 1 + 1) (by omega) (by omega), r2]
    refine EvP.neg (by omega) (EvP.pos (by omega) (EvP.pos (by omega) (EvP.pos (by omega) (EvP.neg (by omega) (EvP.ret ?_)))))
    rw [show (0 + n / 128) * 128 + n % 128 = n by omega]
    simp
    omega

mutual
def byO : S61 → List Int
  | ⟨t, p, ks⟩ => sz25 (t.size : Int) ++ bytesOf t ++ sz25 p ++ (sz25 (ks.length : Int) ++ beL ks)
def beL : List S61 → List Int
  | [] => []
  | x :: xs => byO x ++ beL xs
end
theorem byO_kids (x : S61) : byO x = sz25 (x.f0.size : Int) ++ bytesOf x.f0 ++ sz25 x.f1 ++ (sz25 (x.f2.length : Int) ++ beL x.f2) := by cases x; simp [byO]
theorem beL_drop (l : List S61) (i : Int) (h0 : 0 ≤ i) (h1 : i < l.length) : beL (l.drop i.toNat) = (sz25 ((rd_T61 l i).f0.size : Int) ++ bytesOf (rd_T61 l i).f0 ++ sz25 (rd_T61 l i).f1 ++ (sz25 ((rd_T61 l i).f2.length : Int) ++ beL (rd_T61 l i).f2)) ++ beL (l.drop (i + 1).toNat) := by
  rw [drop_rd61 l i h0 h1, beL, byO_kids]
theorem bytesOf_len (s : ByteArray) : (bytesOf s).length = s.size := by simp [bytesOf]
theorem okO_iff (x : S61) : okO x = true ↔ (x.f0.size ≤ 200 ∧ 1 ≤ x.f1 ∧ x.f1 ≤ 1000 ∧ okL x.f2 = true) := by
  rw [okO_kids]
  simp [and_assoc]
theorem beL_len : ∀ (n : Nat) (l : List S61), cntL l < n → okL l = true → (beL l).length ≤ 206 * cntL l
  | 0, _, h, _ => by omega
  | n + 1, [], _, _ => by simp [beL]
  | n + 1, x :: xs, h, ho => by
    have e1 := cntO_kids x
    simp only [okL, Bool.and_eq_true] at ho
    obtain ⟨h0, h1, h2, h3⟩ := (okO_iff x).1 ho.1
    simp only [cntL] at h ⊢
    have a := beL_len n x.f2 (by omega) h3
    have b := beL_len n xs (by omega) ho.2
    have s1 := sz25_len (x.f0.size : Int)
    have s2 := sz25_len x.f1
    have s3 := sz25_len (x.f2.length : Int)
    rw [beL, byO_kids]
    simp only [List.length_append, bytesOf_len]
    omega
theorem put_ev : ∀ (n : Nat) (l : List S61), cntL l < n → cntL l ≤ 400 → okL l = true → EvP (fun k => note_put.f k l) (· = sz25 (l.length : Int) ++ beL l)
  | 0, _, h, _, _ => by omega
  | n + 1, l, hn, hc, ho => by
    have hlen := cntL_le l
    have hb := beL_len (cntL l + 1) l (by omega) ho
    have hs0 := sz25_len (l.length : Int)
    refine EvP.step (fun k => by rw [note_put.f]) ?_
    refine EvP.bind (size_ev (l.length : Int) (by omega) (by omega)) (fun r hr => ?_)
    rw [hr]
    refine EvP.up (L := fun k i (o : List Int) => note_put.l0 k l o i) (fun i o => 0 ≤ i ∧ okL (l.drop i.toNat) = true ∧ o ++ beL (l.drop i.toNat) = sz25 (l.length : Int) ++ beL l) l.length ?_ 0 (sz25 (l.length : Int)) (by omega) ⟨by omega, by simpa using ho, by simp⟩
    intro i o hi hin ih
    obtain ⟨i0, hok, he⟩ := hi
    refine EvP.step (fun k => by rw [note_put.l0]) ?_
    refine EvP.ite (fun c1 => ?_) (fun c1 => ?_)
    · refine EvP.pos i0 ?_
      have hk := cnt_kid l i i0 c1
      rw [okL_drop l i i0 c1] at hok
      simp only [Bool.and_eq_true, decide_eq_true_eq] at hok
      obtain ⟨⟨⟨⟨g0, g1⟩, g2⟩, g3⟩, g4⟩ := hok
      rw [beL_drop l i i0 c1] at he
      have hl := congrArg List.length he
      simp only [List.length_append, bytesOf_len] at hl
      have hk2 := cntL_le (rd_T61 l i).f2
      refine EvP.bind (size_ev _ (by omega) (by omega)) (fun y1 h1 => ?_)
      rw [h1]
      refine EvP.bind (size_ev _ (by omega) (by omega)) (fun y2 h2 => ?_)
      rw [h2]
      refine EvP.bind (put_ev n (rd_T61 l i).f2 (by omega) (by omega) g3) (fun y3 h3 => ?_)
      rw [h3]
      refine EvP.pos (by omega) (EvP.pos (by simp only [List.length_append]; omega) ?_)
      rw [w64 (x := i + 1) (by omega) (by omega)]
      refine ih _ c1 ⟨by omega, g4, ?_⟩
      rw [← he]
      simp only [List.append_assoc]
    · refine EvP.ret ?_
      rw [drop_none61 l i i0 c1, beL, List.append_nil] at he
      exact he

theorem strOfNums_bytesOf (s : ByteArray) : strOfNums (bytesOf s) = s := by
  unfold strOfNums bytesOf
  cases s with
  | mk d =>
    simp only [List.map_map]
    congr 1
    apply Array.ext'
    refine (List.map_congr_left (fun b _ => ?_)).trans (List.map_id _)
    simp
theorem rsz_ev (l : List Int) (p : Int) (pre post : List Int) (n low high : Int) (h0 : 0 ≤ n) (h1 : n < 16384) (hl : l = pre ++ (sz25 n ++ post)) (hp : p = pre.length) (hL : l.length ≤ 1000000) (hlo : low ≤ n) (hhi : n ≤ high) : EvP (fun k => note_reader_size.f k l p 0 low high) (· = (n, p + ((sz25 n).length : Int), 0)) := by
  refine EvP.pos rfl ?_
  refine EvP.bind (gsize_ev l p pre post n h0 h1 hl hp hL) (fun r hr => ?_)
  rw [hr]
  exact EvP.pos rfl (EvP.neg (by omega) (EvP.neg (by omega) (EvP.ret rfl)))
theorem title_ev (l : List Int) (p : Int) (pre post : List Int) (t : ByteArray) (ht : t.size ≤ 200) (hl : l = pre ++ (sz25 (t.size : Int) ++ (bytesOf t ++ post))) (hp : p = pre.length) (hL : l.length ≤ 1000000) : EvP (fun k => note_reader_title.f k l p 0) (· = (t, p + ((sz25 (t.size : Int)).length : Int) + (t.size : Int), 0)) := by
  have hlen : l.length = pre.length + (sz25 (t.size : Int)).length + t.size + post.length := by rw [hl]; simp only [List.length_append, bytesOf_len]; omega
  refine EvP.bind (rsz_ev l p pre (bytesOf t ++ post) (t.size : Int) 0 200 (by omega) (by omega) hl hp hL (by omega) (by omega)) (fun r hr => ?_)
  rw [hr]
  refine EvP.pos rfl ?_
  show EvP (fun k => if wrap64 ((l.length : Int) - (p + ((sz25 (t.size : Int)).length : Int))) < (t.size : Int) then _ else _) _
  rw [w64 (x := (l.length : Int) - (p + ((sz25 (t.size : Int)).length : Int))) (by omega) (by omega)]
  refine EvP.neg (by omega) (EvP.pos ⟨by show 0 ≤ p + ((sz25 (t.size : Int)).length : Int); omega, by show (0 : Int) ≤ (t.size : Int); omega, by show p + ((sz25 (t.size : Int)).length : Int) + (t.size : Int) ≤ (l.length : Int); omega, by omega⟩ (EvP.ret ?_))
  have e : (l.take (p + ((sz25 (t.size : Int)).length : Int) + (t.size : Int)).toNat).drop (p + ((sz25 (t.size : Int)).length : Int)).toNat = bytesOf t := by
    have e1 : (p + ((sz25 (t.size : Int)).length : Int)).toNat = (pre ++ sz25 (t.size : Int)).length := by simp only [List.length_append]; omega
    have e2 : (p + ((sz25 (t.size : Int)).length : Int) + (t.size : Int)).toNat = (pre ++ sz25 (t.size : Int) ++ bytesOf t).length := by simp only [List.length_append, bytesOf_len]; omega
    rw [e1, e2, hl, show pre ++ (sz25 (t.size : Int) ++ (bytesOf t ++ post)) = (pre ++ sz25 (t.size : Int) ++ bytesOf t) ++ post by simp only [List.append_assoc], List.take_left, List.drop_left]
  rw [e, strOfNums_bytesOf]
theorem rlist_ev : ∀ (n : Nat) (xs : List S61), cntL xs < n → okL xs = true → ∀ (l : List Int) (d : Int) (o : List S61) (p m : Int) (pre post : List Int), l = pre ++ (beL xs ++ post) → p = pre.length → l.length ≤ 1000000 → 0 ≤ m → m + cntL xs ≤ 400 → 0 ≤ d → d + dpL xs ≤ 21 → o.length + cntL xs ≤ 1000000 →
    EvP (fun k => note_reader_list.l0 k l d o (xs.length : Int) p m 0) (· = (o ++ xs, p + ((beL xs).length : Int), m + cntL xs, 0))
  | 0, _, h, _, _, _, _, _, _, _, _, _, _, _, _, _, _, _, _ => by omega
  | n + 1, [], _, _, l, d, o, p, m, pre, post, hl, hp, hL, hm0, hm1, hd0, hd1, hoL => by
    refine EvP.step (fun k => by rw [note_reader_list.l0]) (EvP.neg (by simp) (EvP.ret ?_))
    simp [beL, cntL]
  | n + 1, x :: xs, hn, hok, l, d, o, p, m, pre, post, hl, hp, hL, hm0, hm1, hd0, hd1, hoL => by
    have e1 := cntO_kids x
    have e2 := dpO_kids x
    simp only [okL, Bool.and_eq_true] at hok
    obtain ⟨h0, h1, h2, h3⟩ := (okO_iff x).1 hok.1
    simp only [cntL] at hn hm1 hoL
    simp only [dpL] at hd1
    have hk2 := cntL_le x.f2
    have hx2 := cntL_le xs
    rw [beL, byO_kids] at hl
    have hlen := congrArg List.length hl
    simp only [List.length_append, bytesOf_len] at hlen
    refine EvP.step (fun k => by rw [note_reader_list.l0]) (EvP.pos (by simp only [List.length_cons]; omega) (EvP.pos rfl ?_))
    rw [w64 (x := m + 1) (by omega) (by omega), w64 (x := d + 1) (by omega) (by omega)]
    refine EvP.neg (by omega) (EvP.neg (by omega) ?_)
    refine EvP.bind (title_ev l p pre (sz25 x.f1 ++ (sz25 (x.f2.length : Int) ++ beL x.f2) ++ beL xs ++ post) x.f0 h0 (by rw [hl]; simp only [List.append_assoc]) hp hL) (fun t1 ht1 => ?_)
    rw [ht1]
    refine EvP.bind (rsz_ev l (p + ((sz25 (x.f0.size : Int)).length : Int) + (x.f0.size : Int)) (pre ++ sz25 (x.f0.size : Int) ++ bytesOf x.f0) ((sz25 (x.f2.length : Int) ++ beL x.f2) ++ beL xs ++ post) x.f1 1 1000 (by omega) (by omega) (by rw [hl]; simp only [List.append_assoc]) (by simp only [List.length_append, bytesOf_len]; omega) hL (by omega) (by omega)) (fun t2 ht2 => ?_)
    rw [ht2]
    have kids : EvP (fun k => note_reader_list.f k l (d + 1) (p + ((sz25 (x.f0.size : Int)).length : Int) + (x.f0.size : Int) + ((sz25 x.f1).length : Int)) (m + 1) 0) (· = (x.f2, p + ((sz25 (x.f0.size : Int)).length : Int) + (x.f0.size : Int) + ((sz25 x.f1).length : Int) + ((sz25 (x.f2.length : Int)).length : Int) + ((beL x.f2).length : Int), m + 1 + cntL x.f2, 0)) := by
      refine EvP.step (fun k => by rw [note_reader_list.f]) ?_
      refine EvP.bind (rsz_ev l _ (pre ++ sz25 (x.f0.size : Int) ++ bytesOf x.f0 ++ sz25 x.f1) (beL x.f2 ++ beL xs ++ post) (x.f2.length : Int) 0 2147483648 (by omega) (by omega) (by rw [hl]; simp only [List.append_assoc]) (by simp only [List.length_append, bytesOf_len]; omega) hL (by omega) (by omega)) (fun t3 ht3 => ?_)
      rw [ht3]
      have := rlist_ev n x.f2 (by omega) h3 l (d + 1) [] (p + ((sz25 (x.f0.size : Int)).length : Int) + (x.f0.size : Int) + ((sz25 x.f1).length : Int) + ((sz25 (x.f2.length : Int)).length : Int)) (m + 1) (pre ++ sz25 (x.f0.size : Int) ++ bytesOf x.f0 ++ sz25 x.f1 ++ sz25 (x.f2.length : Int)) (beL xs ++ post) (by rw [hl]; simp only [List.append_assoc]) (by simp only [List.length_append, bytesOf_len]; omega) hL (by omega) (by omega) (by omega) (by omega) (by simp only [List.length_nil]; omega)
      rw [List.nil_append] at this
      exact this
    refine EvP.bind kids (fun t3 ht3 => ?_)
    rw [ht3]
    refine EvP.pos (by omega) ?_
    rw [w64 (x := ((x :: xs).length : Int) - 1) (by simp only [List.length_cons]; omega) (by simp only [List.length_cons]; omega), show ((x :: xs).length : Int) - 1 = (xs.length : Int) by simp]
    have hx : (⟨x.f0, x.f1, x.f2⟩ : S61) = x := by cases x; rfl
    have rest := rlist_ev n xs (by omega) hok.2 l d (o ++ [(⟨x.f0, x.f1, x.f2⟩ : S61)]) (p + ((sz25 (x.f0.size : Int)).length : Int) + (x.f0.size : Int) + ((sz25 x.f1).length : Int) + ((sz25 (x.f2.length : Int)).length : Int) + ((beL x.f2).length : Int)) (m + 1 + cntL x.f2) (pre ++ (sz25 (x.f0.size : Int) ++ bytesOf x.f0 ++ sz25 x.f1 ++ (sz25 (x.f2.length : Int) ++ beL x.f2))) post (by rw [hl]; simp only [List.append_assoc]) (by simp only [List.length_append, bytesOf_len]; omega) hL (by omega) (by omega) (by omega) (by omega) (by simp only [List.length_append, List.length_cons, List.length_nil]; omega)
    refine EvP.mono rest (fun r hr => ?_)
    rw [hr, hx, beL, byO_kids, cntL, cntO_kids]
    simp only [List.append_assoc, List.singleton_append, List.length_append, bytesOf_len, Prod.mk.injEq, true_and, and_true]
    omega
theorem getOut_ev (xs : List S61) (hc : cntL xs ≤ 400) (hd : dpL xs ≤ 20) (ho : okL xs = true) : EvP (fun k => note_GetOutlines.f k (sz25 (xs.length : Int) ++ beL xs)) (· = (xs, 0)) := by
  have hx := cntL_le xs
  have hb := beL_len (cntL xs + 1) xs (by omega) ho
  have hs := sz25_len (xs.length : Int)
  have hL : (sz25 (xs.length : Int) ++ beL xs).length ≤ 1000000 := by simp only [List.length_append]; omega
  have h1 : EvP (fun k => note_reader_list.f k (sz25 (xs.length : Int) ++ beL xs) 1 0 0 0) (· = (xs, ((sz25 (xs.length : Int) ++ beL xs).length : Int), (cntL xs : Int), 0)) := by
    refine EvP.step (fun k => by rw [note_reader_list.f]) ?_
    refine EvP.bind (rsz_ev _ 0 [] (beL xs) (xs.length : Int) 0 2147483648 (by omega) (by omega) (by simp) (by simp) hL (by omega) (by omega)) (fun t ht => ?_)
    rw [ht]
    refine EvP.mono (rlist_ev (cntL xs + 1) xs (by omega) ho _ 1 [] (0 + ((sz25 (xs.length : Int)).length : Int)) 0 (sz25 (xs.length : Int)) [] (by simp) (by omega) hL (by omega) (by omega) (by omega) (by omega) (by simp only [List.length_nil]; omega)) (fun r hr => ?_)
    rw [hr]
    simp
  refine EvP.bind h1 (fun t ht => ?_)
  rw [ht]
  exact EvP.pos rfl (EvP.neg (Int.lt_irrefl _) (EvP.ret rfl))

theorem rsize_ev (n : Int) (h0 : 0 ≤ n) (h1 : n < 16384) : EvP (fun k => incunableref01_Size.f k n) (· = (sz25 n, 0)) := by
  refine EvP.neg (by omega) ?_
  have e1 : Int.tdiv n 128 = n / 128 := Int.tdiv_eq_ediv_of_nonneg h0
  have e2 : Int.tmod n 128 = n % 128 := Int.tmod_eq_emod_of_nonneg h0
  refine EvP.step (fun k => by rw [incunableref01_Size.j0]) (EvP.neg (by simp; omega) ?_)
  rw [e1, e2, w64 (x := n / 128) (by omega) (by omega), show n % 128 % 256 = n % 128 by omega]
  refine EvP.step (fun k => by rw [incunableref01_Size.l0]) ?_
  by_cases c : n < 128
  · refine EvP.neg (by omega) (EvP.ret ?_)
    rw [show n % 128 = n by omega]
    unfold sz25
    rw [if_pos c]
  · refine EvP.pos (by omega) ?_
    have e3 : Int.tdiv (n / 128) 128 = 0 := by rw [Int.tdiv_eq_ediv_of_nonneg (by omega)]; omega
    have e4 : Int.tmod (n / 128) 128 = n / 128 := by rw [Int.tmod_eq_emod_of_nonneg (by omega)]; omega
    refine EvP.bindv rfl (EvP.pos (by simp) ?_)
    rw [e3, e4, w64 (x := 0) (by omega) (by omega)]
    refine EvP.step (fun k => by rw [incunableref01_Size.l0]) (EvP.neg (by omega) (EvP.ret ?_))
    unfold sz25
    rw [if_neg c, w64 (x := 128 + n / 128) (by omega) (by omega), show (128 + n / 128) % 256 = 128 + n / 128 by omega]
    rfl

theorem refPut_ev : ∀ (n : Nat) (l : List S61), cntL l < n → cntL l ≤ 400 → okL l = true → EvP (fun k => incunableref25_bytesOf.f k l) (· = sz25 (l.length : Int) ++ beL l)
  | 0, _, h, _, _ => by omega
  | n + 1, l, hn, hc, ho => by
    have hlen := cntL_le l
    have hb := beL_len (cntL l + 1) l (by omega) ho
    have hs0 := sz25_len (l.length : Int)
    refine EvP.step (fun k => by rw [incunableref25_bytesOf.f]) ?_
    refine EvP.bind (rsize_ev (l.length : Int) (by omega) (by omega)) (fun r hr => ?_)
    obtain ⟨r1, r2⟩ := r
    simp only [Prod.mk.injEq] at hr
    dsimp only
    rw [hr.1]
    refine EvP.up (L := fun k i (o : List Int) => incunableref25_bytesOf.l0 k l o i) (fun i o => 0 ≤ i ∧ okL (l.drop i.toNat) = true ∧ o ++ beL (l.drop i.toNat) = sz25 (l.length : Int) ++ beL l) l.length ?_ 0 (sz25 (l.length : Int)) (by omega) ⟨by omega, by simpa using ho, by simp⟩
    intro i o hi hin ih
    obtain ⟨i0, hok, he⟩ := hi
    refine EvP.step (fun k => by rw [incunableref25_bytesOf.l0]) ?_
    refine EvP.ite (fun c1 => ?_) (fun c1 => ?_)
    · refine EvP.pos i0 ?_
      have hk := cnt_kid l i i0 c1
      rw [okL_drop l i i0 c1] at hok
      simp only [Bool.and_eq_true, decide_eq_true_eq] at hok
      obtain ⟨⟨⟨⟨g0, g1⟩, g2⟩, g3⟩, g4⟩ := hok
      rw [beL_drop l i i0 c1] at he
      have hl := congrArg List.length he
      simp only [List.length_append, bytesOf_len] at hl
      have hk2 := cntL_le (rd_T61 l i).f2
      refine EvP.bind (rsize_ev _ (by omega) (by omega)) (fun y1 h1 => ?_)
      have h1' := congrArg Prod.fst h1
      dsimp only at h1'
      rw [h1']
      refine EvP.bind (rsize_ev _ (by omega) (by omega)) (fun y2 h2 => ?_)
      have h2' := congrArg Prod.fst h2
      dsimp only at h2'
      rw [h2']
      refine EvP.bind (refPut_ev n (rd_T61 l i).f2 (by omega) (by omega) g3) (fun y3 h3 => ?_)
      rw [h3]
      refine EvP.pos (by simp only [List.length_append]; omega) ?_
      rw [w64 (x := i + 1) (by omega) (by omega)]
      refine ih _ c1 ⟨by omega, g4, ?_⟩
      rw [← he]
      simp only [List.append_assoc]
    · refine EvP.ret ?_
      rw [drop_none61 l i i0 c1, beL, List.append_nil] at he
      exact he

theorem NoteOutlines : incunablelaw25_NoteOutlines.Pure := by
  intro l hg
  have hg : GL l := hg
  refine EvP.rounds ?_
  refine EvP.bind (heavy_ev l hg) (fun b hb => ?_)
  refine EvP.ite (fun c => EvP.bind Sane25_is (fun r hr => EvP.ret hr)) (fun c => ?_)
  have hc : cntL l ≤ 6000 := hb (by simpa using c)
  have same : ∀ x y : List Int, x = y → incunableref01_SameBytes.f x y = some true := by
    rintro x _ rfl
    simp [incunableref01_SameBytes.f]
  have put1 : EvP (fun k => note_PutOutlines.f k l) (fun r => (okL l = true ∧ cntL l ≤ 400 ∧ dpL l ≤ 20) ∧ r = (sz25 (l.length : Int) ++ beL l, 0) ∨ ¬ (okL l = true ∧ cntL l ≤ 400 ∧ dpL l ≤ 20) ∧ r = ([], 95)) := by
    refine EvP.bind (valid_ev l hg) (fun v hv => ?_)
    refine EvP.ite (fun c => ?_) (fun c => EvP.ret (.inr ⟨fun h => c (hv.2 h), rfl⟩))
    obtain ⟨a, b, d⟩ := hv.1 c
    refine EvP.bind (put_ev (cntL l + 1) l (by omega) b a) (fun r hr => EvP.ret (.inl ⟨⟨a, b, d⟩, ?_⟩))
    rw [hr]
  have put2 : EvP (fun k => incunableref25_PutOutlines.f k l) (fun r => (okL l = true ∧ cntL l ≤ 400 ∧ dpL l ≤ 20) ∧ r = (sz25 (l.length : Int) ++ beL l, 0) ∨ ¬ (okL l = true ∧ cntL l ≤ 400 ∧ dpL l ≤ 20) ∧ r = ([], 95)) := by
    refine EvP.bind (refValid_ev l hg hc) (fun v hv => ?_)
    refine EvP.ite (fun c => ?_) (fun c => EvP.ret (.inr ⟨fun h => c (hv.2 h), rfl⟩))
    obtain ⟨a, b, d⟩ := hv.1 c
    refine EvP.bind (refPut_ev (cntL l + 1) l (by omega) b a) (fun r hr => EvP.ret (.inl ⟨⟨a, b, d⟩, ?_⟩))
    rw [hr]
  have valid : ∀ (A : List Int) (e : Int), EvP (fun k => incunablelaw25_NoteOutlines.j0 k l A e false) (· = true) → EvP (fun k => (note_ValidOutlines.f k l).bind fun t => (incunableref25_ValidOutlines.f k l).bind fun u => incunablelaw25_NoteOutlines.j0 k l A e (t != u)) (· = true) := by
    intro A e h
    refine EvP.bind (valid_ev l hg) (fun v hv => EvP.bind (refValid_ev l hg hc) (fun u hu => ?_))
    have : v = u := by
      have := hv.trans hu.symm
      cases v <;> cases u <;> simp_all
    subst this
    rw [show (v != v) = false by simp]
    exact h
  refine EvP.bind put1 (fun r hr => EvP.bind put2 (fun q hq => ?_))
  rcases hr with ⟨h1, rfl⟩ | ⟨h1, rfl⟩ <;> rcases hq with ⟨h2, rfl⟩ | ⟨h2, rfl⟩
  · refine EvP.pos rfl (EvP.bindv (same _ _ rfl) (EvP.pos rfl (valid _ _ ?_)))
    refine EvP.step (fun k => by rw [incunablelaw25_NoteOutlines.j0]) (EvP.neg (by simp) (EvP.pos rfl ?_))
    obtain ⟨a, b, d⟩ := h1
    refine EvP.bind (getOut_ev l b d a) (fun r hr => ?_)
    rw [hr]
    refine EvP.pos rfl ?_
    refine EvP.bind (sameOut_ev (cntL l + 1) l (by omega) (by omega)) (fun r hr => EvP.pos hr ?_)
    exact EvP.bind Sane25_is (fun r hr => EvP.ret hr)
  · exact absurd h1 h2
  · exact absurd h2 h1
  · refine EvP.pos rfl (EvP.bindv (same _ _ rfl) (EvP.pos rfl (valid _ _ ?_)))
    refine EvP.step (fun k => by rw [incunablelaw25_NoteOutlines.j0]) (EvP.neg (by simp) (EvP.neg (by decide) ?_))
    exact EvP.bind Sane25_is (fun r hr => EvP.ret hr)

end Go.Proofs.YtacdchogjpeffaaDoor.Pure
