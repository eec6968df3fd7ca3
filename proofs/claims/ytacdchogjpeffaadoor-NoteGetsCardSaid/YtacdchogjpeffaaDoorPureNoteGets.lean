/- Which outlines any bytes are, and that these have just these bytes; no conditions. -/
import Derived.Test.YtacdchogjpeffaaDoorPNoteGetsx7
import Derived.Test.YtacdchogjpeffaaDoorQBase
namespace Go.Proofs.YtacdchogjpeffaaDoor.Pure
open Go.RowKit Go.Proofs.YtacdchogjpeffaaDoor.PNoteGets Go.Proofs.YtacdchogjpeffaaDoorW.PrintWords Go.Proofs.YtacdchogjpeffaaDoorW.PrintLast Go.Proofs.YtacdchogjpeffaaDoorW.PrintMore Go.Proofs.YtacdchogjpeffaaDoorW.Pu
set_option linter.unusedVariables false
set_option linter.unusedSimpArgs false
/-- The numbers of a list are those of bytes. -/
def Byt (p : List Int) : Prop := ∀ x ∈ p, 0 ≤ x ∧ x ≤ 255
theorem val_byt {w h : Int} {p : List Int} (v : Val w h p) : Byt p := fun x hx => ⟨(v.2.2.2.2.2.2 x hx).1, by have := (v.2.2.2.2.2.2 x hx).2; omega⟩

theorem wf_byt {p : List Int} (h : ∀ y ∈ p, (Lit.int .u8 y).wf = true) : Byt p := fun x hx => by
  have h1 : (decide (IntKind.u8.min ≤ x) && decide (x ≤ IntKind.u8.max)) = true := h x hx
  obtain ⟨a, b⟩ := Bool.and_eq_true_iff.mp h1
  exact ⟨of_decide_eq_true a, of_decide_eq_true b⟩
theorem wf_i64 {x : Int} (h : (Lit.int .i64 x).wf = true) : -9223372036854775808 ≤ x ∧ x ≤ 9223372036854775807 := by
  have h1 : (decide (IntKind.i64.min ≤ x) && decide (x ≤ IntKind.i64.max)) = true := h
  obtain ⟨a, b⟩ := Bool.and_eq_true_iff.mp h1
  exact ⟨of_decide_eq_true a, of_decide_eq_true b⟩

mutual
def cntO : S61 → Nat
  | ⟨_, _, ks⟩ => 1 + cntL ks
def cntL : List S61 → Nat
  | [] => 0
  | x :: xs => cntO x + cntL xs
end
mutual
def dpO : S61 → Nat
  | ⟨_, _, ks⟩ => 1 + dpL ks
def dpL : List S61 → Nat
  | [] => 0
  | x :: xs => max (dpO x) (dpL xs)
end
mutual
def okO : S61 → Bool
  | ⟨t, p, ks⟩ => decide (t.size ≤ 200) && decide (1 ≤ p) && decide (p ≤ 1000) && okL ks
def okL : List S61 → Bool
  | [] => true
  | x :: xs => okO x && okL xs
end
mutual
def foO : S61 → List S61
  | ⟨t, p, ks⟩ => ⟨t, p, []⟩ :: foL ks
def foL : List S61 → List S61
  | [] => []
  | x :: xs => foO x ++ foL xs
end
mutual
def fdO : Int → S61 → List Int
  | d, ⟨_, _, ks⟩ => d :: fdL (d + 1) ks
def fdL : Int → List S61 → List Int
  | _, [] => []
  | d, x :: xs => fdO d x ++ fdL d xs
end
theorem cntO_kids (x : S61) : cntO x = 1 + cntL x.f2 := by cases x; simp [cntO]
theorem dpO_kids (x : S61) : dpO x = 1 + dpL x.f2 := by cases x; simp [dpO]
theorem okO_kids (x : S61) : okO x = (decide (x.f0.size ≤ 200) && decide (1 ≤ x.f1) && decide (x.f1 ≤ 1000) && okL x.f2) := by cases x; simp [okO]
theorem foO_kids (x : S61) : foO x = ⟨x.f0, x.f1, []⟩ :: foL x.f2 := by cases x; simp [foO]
theorem fdO_kids (d : Int) (x : S61) : fdO d x = d :: fdL (d + 1) x.f2 := by cases x; simp [fdO]
theorem drop_rd61 (l : List S61) (i : Int) (h0 : 0 ≤ i) (h1 : i < l.length) : l.drop i.toNat = rd_T61 l i :: l.drop (i + 1).toNat := by
  have hl : i.toNat < l.length := by omega
  rw [show (i + 1).toNat = i.toNat + 1 by omega, List.drop_eq_getElem_cons hl]
  congr 1
  simp [rd_T61, List.getD, List.getElem?_eq_getElem hl]
theorem drop_none61 (l : List S61) (i : Int) (h0 : 0 ≤ i) (h1 : ¬ i < l.length) : l.drop i.toNat = [] := List.drop_eq_nil_of_le (by omega)
theorem rd_mem61 (l : List S61) (i : Int) (h0 : 0 ≤ i) (h1 : i < l.length) : rd_T61 l i ∈ l := by
  have hl : i.toNat < l.length := by omega
  have e : rd_T61 l i = l[i.toNat] := by simp [rd_T61, List.getD, List.getElem?_eq_getElem hl]
  rw [e]
  exact List.getElem_mem hl
theorem cntL_le : ∀ (l : List S61), l.length ≤ cntL l
  | [] => by simp [cntL]
  | x :: xs => by have := cntL_le xs; have := cntO_kids x; simp [cntL]; omega
theorem dp_cnt : ∀ (n : Nat) (l : List S61), cntL l < n → dpL l ≤ cntL l
  | 0, _, h => by omega
  | n + 1, [], _ => by simp [dpL]
  | n + 1, x :: xs, h => by
    have e1 := cntO_kids x
    have e2 := dpO_kids x
    simp only [cntL, dpL] at h ⊢
    have h1 := dp_cnt n x.f2 (by omega)
    have h2 := dp_cnt n xs (by omega)
    omega
theorem cntL_mem : ∀ (l : List S61) (x : S61), x ∈ l → cntO x ≤ cntL l
  | y :: ys, x, h => by
    simp only [cntL]
    rcases List.mem_cons.1 h with rfl | h
    · omega
    · have := cntL_mem ys x h; omega
theorem foL_len : ∀ (n : Nat) (l : List S61), cntL l < n → (foL l).length = cntL l
  | 0, _, h => by omega
  | n + 1, [], _ => by simp [foL, cntL]
  | n + 1, x :: xs, h => by
    have e1 := cntO_kids x
    simp only [cntL, foL] at h ⊢
    have h1 := foL_len n x.f2 (by omega)
    have h2 := foL_len n xs (by omega)
    rw [foO_kids, List.length_append, List.length_cons]
    omega
theorem fdL_len : ∀ (n : Nat) (d : Int) (l : List S61), cntL l < n → (fdL d l).length = cntL l
  | 0, _, _, h => by omega
  | n + 1, d, [], _ => by simp [fdL, cntL]
  | n + 1, d, x :: xs, h => by
    have e1 := cntO_kids x
    simp only [cntL, fdL] at h ⊢
    have h1 := fdL_len n (d + 1) x.f2 (by omega)
    have h2 := fdL_len n d xs (by omega)
    rw [fdO_kids, List.length_append, List.length_cons]
    omega
theorem cntL_drop (l : List S61) (i : Int) (h0 : 0 ≤ i) (h1 : i < l.length) : cntL (l.drop i.toNat) = 1 + cntL (rd_T61 l i).f2 + cntL (l.drop (i + 1).toNat) := by
  rw [drop_rd61 l i h0 h1, cntL, cntO_kids]
theorem dpL_drop (l : List S61) (i : Int) (h0 : 0 ≤ i) (h1 : i < l.length) : dpL (l.drop i.toNat) = max (1 + dpL (rd_T61 l i).f2) (dpL (l.drop (i + 1).toNat)) := by
  rw [drop_rd61 l i h0 h1, dpL, dpO_kids]
theorem okL_drop (l : List S61) (i : Int) (h0 : 0 ≤ i) (h1 : i < l.length) : okL (l.drop i.toNat) = ((decide ((rd_T61 l i).f0.size ≤ 200) && decide (1 ≤ (rd_T61 l i).f1) && decide ((rd_T61 l i).f1 ≤ 1000) && okL (rd_T61 l i).f2) && okL (l.drop (i + 1).toNat)) := by
  rw [drop_rd61 l i h0 h1, okL, okO_kids]
theorem cnt_kid (l : List S61) (i : Int) (h0 : 0 ≤ i) (h1 : i < l.length) : cntL (rd_T61 l i).f2 < cntL l := by
  have := cntL_mem l _ (rd_mem61 l i h0 h1)
  have := cntO_kids (rd_T61 l i)
  omega

def sz25 (n : Int) : List Int := if n < 128 then [n] else [128 + n / 128, n % 128]
theorem sz25_len (n : Int) : (sz25 n).length ≤ 2 := by unfold sz25; split <;> simp
theorem sz25_pos (n : Int) : 1 ≤ (sz25 n).length := by unfold sz25; split <;> simp
theorem bsize_ev (n : Int) (h0 : 0 ≤ n) (h1 : n < 16384) : EvP (fun k => bits_Size.f k n) (· = (sz25 n, 0)) := by
  refine EvP.neg (by omega) ?_
  have e1 : Int.tdiv n 128 = n / 128 := Int.tdiv_eq_ediv_of_nonneg h0
  have e2 : Int.tmod n 128 = n % 128 := Int.tmod_eq_emod_of_nonneg h0
  refine EvP.step (fun k => by rw [bits_Size.j0]) (EvP.neg (by simp; omega) ?_)
  rw [e1, e2, w64 (x := n / 128) (by omega) (by omega), show n % 128 % 256 = n % 128 by omega]
  refine EvP.step (fun k => by rw [bits_Size.l0]) ?_
  by_cases c : n < 128
  · refine EvP.neg (by omega) (EvP.ret ?_)
    rw [show n % 128 = n by omega]
    unfold sz25
    rw [if_pos c]
  · refine EvP.pos (by omega) ?_
    have e3 : Int.tdiv (n / 128) 128 = 0 := by rw [Int.tdiv_eq_ediv_of_nonneg (by omega)]; omega
    have e4 : Int.tmod (n / 128) 128 = n / 128 := by rw [Int.tmod_eq_emod_of_nonneg (by omega)]; omega
    refine EvP.bindv rfl (EvP.pos (by simp) ?_)
    rw [e3, e4, w64 (x := 0) (by omega) (by omega)]
    refine EvP.step (fun k => by rw [bits_Size.l0]) (EvP.neg (by omega) (EvP.ret ?_))
    unfold sz25
    rw [if_neg c, show (n / 128 % 256 + 128) % 256 = 128 + n / 128 by omega]
    rfl
theorem size_ev (n : Int) (h0 : 0 ≤ n) (h1 : n < 16384) : EvP (fun k => note_size.f k n) (· = sz25 n) := by
  refine EvP.bind (bsize_ev n h0 h1) (fun r hr => EvP.ret ?_)
  rw [hr]
theorem gsize_ev (l : List Int) (p : Int) (pre post : List Int) (n : Int) (h0 : 0 ≤ n) (h1 : n < 16384) (hl : l = pre ++ (sz25 n ++ post)) (hp : p = pre.length) (hL : l.length ≤ 1000000) : EvP (fun k => bits_GetSize.f k l p) (· = (n, p + ((sz25 n).length : Int), 0)) := by
  have hlen : l.length = pre.length + (sz25 n).length + post.length := by rw [hl]; simp; omega
  have hs := sz25_pos n
  refine EvP.neg (by omega) ?_
  refine EvP.step (fun k => by rw [bits_GetSize.j0]) (EvP.neg (by simp; omega) ?_)
  refine EvP.step (fun k => by rw [bits_GetSize.l0]) (EvP.pos (by omega) ?_)
  rw [w64 (x := p + 0) (by omega) (by omega)]
  refine EvP.neg (by omega) (EvP.pos (by omega) (EvP.pos (by omega) ?_))
  have r0 : rd l (p + 0) = (sz25 n).headD 0 := by
    rw [hp, hl, show (pre.length : Int) + 0 = ((pre.length : Nat) : Int) by omega]
    simp only [rd, List.getD, Int.toNat_natCast]
    rw [List.getElem?_append_right (Nat.le_refl _)]
    unfold sz25
    split <;> simp
  by_cases c : n < 128
  · have e : sz25 n = [n] := by unfold sz25; rw [if_pos c]
    have r0 : rd l (p + 0) = n := by rw [r0, e]; rfl
    rw [e, r0]
    rw [w64 (x := n) (by omega) (by omega), (w64 (x := 0 * 128) (by omega) (by omega)).trans (Int.zero_mul 128), show Int.tmod n 128 = n by rw [Int.tmod_eq_emod_of_nonneg h0]; omega, w64 (x := 0 + n) (by omega) (by omega), w64 (x := p + 0 + 1) (by omega) (by omega)]
    refine EvP.pos c (EvP.neg (by omega) (EvP.neg (by omega) (EvP.ret ?_)))
    simp
  · have e : sz25 n = [128 + n / 128, n % 128] := by unfold sz25; rw [if_neg c]
    have r1 : rd l (p + 1) = n % 128 := by
      rw [hp, hl, show (pre.length : Int) + 1 = ((pre.length + 1 : Nat) : Int) by omega, e]
      simp only [rd, List.getD, Int.toNat_natCast]
      rw [List.getElem?_append_right (by omega)]
      simp
    have r2 : rd l p = 128 + n / 128 := by rw [show p = p + 0 by omega, r0, e]; rfl
    rw [e] at r0 hlen ⊢
    simp only [List.headD_cons, List.length_cons, List.length_nil] at r0 hlen ⊢
    rw [r0, w64 (x := 128 + n / 128) (by omega) (by omega)]
    refine EvP.neg (by omega) ?_
    rw [(w64 (x := 0 * 128) (by omega) (by omega)).trans (Int.zero_mul 128), show Int.tmod (128 + n / 128) 128 = n / 128 by rw [Int.tmod_eq_emod_of_nonneg (by omega)]; omega, w64 (x := 0 + n / 128) (by omega) (by omega), w64 (x := 0 + 1) (by omega) (by omega), Int.zero_add 1]
    refine EvP.step (fun k => by rw [bits_GetSize.l0]) (EvP.pos (by omega) ?_)
    rw [w64 (x := p + 1) (by omega) (by omega)]
    refine EvP.neg (by omega) (EvP.pos (by omega) (EvP.pos (by omega) ?_))
    rw [r1, w64 (x := n % 128) (by omega) (by omega)]
    refine EvP.pos (by omega) ?_
    rw [w64 (x := (0 + n / 128) * 128) (by omega) (by omega), show Int.tmod (n % 128) 128 = n % 128 by rw [Int.tmod_eq_emod_of_nonneg (by omega)]; omega, w64 (x := (0 + n / 128) * 128 + n % 128) (by omega) (by omega), w64 (x := p + 1 + 1) (by omega) (by omega), r2]
    refine EvP.neg (by omega) (EvP.pos (by omega) (EvP.pos (by omega) (EvP.pos (by omega) (EvP.neg (by omega) (EvP.ret ?_)))))
    rw [show (0 + n / 128) * 128 + n % 128 = n by omega]
    simp
    omega

mutual
def byO : S61 → List Int
  | ⟨t, p, ks⟩ => sz25 (t.size : Int) ++ bytesOf t ++ sz25 p ++ (sz25 (ks.length : Int) ++ beL ks)
def beL : List S61 → List Int
  | [] => []
  | x :: xs => byO x ++ beL xs
end
theorem byO_kids (x : S61) : byO x = sz25 (x.f0.size : Int) ++ bytesOf x.f0 ++ sz25 x.f1 ++ (sz25 (x.f2.length : Int) ++ beL x.f2) := by cases x; simp [byO]
theorem beL_drop (l : List S61) (i : Int) (h0 : 0 ≤ i) (h1 : i < l.length) : beL (l.drop i.toNat) = (sz25 ((rd_T61 l i).f0.size : Int) ++ bytesOf (rd_T61 l i).f0 ++ sz25 (rd_T61 l i).f1 ++ (sz25 ((rd_T61 l i).f2.length : Int) ++ beL (rd_T61 l i).f2)) ++ beL (l.drop (i + 1).toNat) := by
  rw [drop_rd61 l i h0 h1, beL, byO_kids]
theorem bytesOf_len (s : ByteArray) : (bytesOf s).length = s.size := by simp [bytesOf]
theorem okO_iff (x : S61) : okO x = true ↔ (x.f0.size ≤ 200 ∧ 1 ≤ x.f1 ∧ x.f1 ≤ 1000 ∧ okL x.f2 = true) := by
  rw [okO_kids]
  simp [and_assoc]
theorem beL_len : ∀ (n : Nat) (l : List S61), cntL l < n → okL l = true → (beL l).length ≤ 206 * cntL l
  | 0, _, h, _ => by omega
  | n + 1, [], _, _ => by simp [beL]
  | n + 1, x :: xs, h, ho => by
    have e1 := cntO_kids x
    simp only [okL, Bool.and_eq_true] at ho
    obtain ⟨h0, h1, h2, h3⟩ := (okO_iff x).1 ho.1
    simp only [cntL] at h ⊢
    have a := beL_len n x.f2 (by omega) h3
    have b := beL_len n xs (by omega) ho.2
    have s1 := sz25_len (x.f0.size : Int)
    have s2 := sz25_len x.f1
    have s3 := sz25_len (x.f2.length : Int)
    rw [beL, byO_kids]
    simp only [List.length_append, bytesOf_len]
    omega
theorem put_ev : ∀ (n : Nat) (l : List S61), cntL l < n → cntL l ≤ 400 → okL l = true → EvP (fun k => note_put.f k l) (· = sz25 (l.length : Int) ++ beL l)
  | 0, _, h, _, _ => by omega
  | n + 1, l, hn, hc, ho => by
    have hlen := cntL_le l
    have hb := beL_len (cntL l + 1) l (by omega) ho
    have hs0 := sz25_len (l.length : Int)
    refine EvP.step (fun k => by rw [note_put.f]) ?_
    refine EvP.bind (size_ev (l.length : Int) (by omega) (by omega)) (fun r hr => ?_)
    rw [hr]
    refine EvP.up (L := fun k i (o : List Int) => note_put.l0 k l o i) (fun i o => 0 ≤ i ∧ okL (l.drop i.toNat) = true ∧ o ++ beL (l.drop i.toNat) = sz25 (l.length : Int) ++ beL l) l.length ?_ 0 (sz25 (l.length : Int)) (by omega) ⟨by omega, by simpa using ho, by simp⟩
    intro i o hi hin ih
    obtain ⟨i0, hok, he⟩ := hi
    refine EvP.step (fun k => by rw [note_put.l0]) ?_
    refine EvP.ite (fun c1 => ?_) (fun c1 => ?_)
    · refine EvP.pos i0 ?_
      have hk := cnt_kid l i i0 c1
      rw [okL_drop l i i0 c1] at hok
      simp only [Bool.and_eq_true, decide_eq_true_eq] at hok
      obtain ⟨⟨⟨⟨g0, g1⟩, g2⟩, g3⟩, g4⟩ := hok
      rw [beL_drop l i i0 c1] at he
      have hl := congrArg List.length he
      simp only [List.length_append, bytesOf_len] at hl
      have hk2 := cntL_le (rd_T61 l i).f2
      refine EvP.bind (size_ev _ (by omega) (by omega)) (fun y1 h1 => ?_)
      rw [h1]
      refine EvP.bind (size_ev _ (by omega) (by omega)) (fun y2 h2 => ?_)
      rw [h2]
      refine EvP.bind (put_ev n (rd_T61 l i).f2 (by omega) (by omega) g3) (fun y3 h3 => ?_)
      rw [h3]
      refine EvP.pos (by omega) (EvP.pos (by simp only [List.length_append]; omega) ?_)
      rw [w64 (x := i + 1) (by omega) (by omega)]
      refine ih _ c1 ⟨by omega, g4, ?_⟩
      rw [← he]
      simp only [List.append_assoc]
    · refine EvP.ret ?_
      rw [drop_none61 l i i0 c1, beL, List.append_nil] at he
      exact he

theorem strOfNums_bytesOf (s : ByteArray) : strOfNums (bytesOf s) = s := by
  unfold strOfNums bytesOf
  cases s with
  | mk d =>
    simp only [List.map_map]
    congr 1
    apply Array.ext'
    refine (List.map_congr_left (fun b _ => ?_)).trans (List.map_id _)
    simp
theorem rsz_ev (l : List Int) (p : Int) (pre post : List Int) (n low high : Int) (h0 : 0 ≤ n) (h1 : n < 16384) (hl : l = pre ++ (sz25 n ++ post)) (hp : p = pre.length) (hL : l.length ≤ 1000000) (hlo : low ≤ n) (hhi : n ≤ high) : EvP (fun k => note_reader_size.f k l p 0 low high) (· = (n, p + ((sz25 n).length : Int), 0)) := by
  refine EvP.pos rfl ?_
  refine EvP.bind (gsize_ev l p pre post n h0 h1 hl hp hL) (fun r hr => ?_)
  rw [hr]
  exact EvP.pos rfl (EvP.neg (by omega) (EvP.neg (by omega) (EvP.ret rfl)))
theorem title_ev (l : List Int) (p : Int) (pre post : List Int) (t : ByteArray) (ht : t.size ≤ 200) (hl : l = pre ++ (sz25 (t.size : Int) ++ (bytesOf t ++ post))) (hp : p = pre.length) (hL : l.length ≤ 1000000) : EvP (fun k => note_reader_title.f k l p 0) (· = (t, p + ((sz25 (t.size : Int)).length : Int) + (t.size : Int), 0)) := by
  have hlen : l.length = pre.length + (sz25 (t.size : Int)).length + t.size + post.length := by rw [hl]; simp only [List.length_append, bytesOf_len]; omega
  refine EvP.bind (rsz_ev l p pre (bytesOf t ++ post) (t.size : Int) 0 200 (by omega) (by omega) hl hp hL (by omega) (by omega)) (fun r hr => ?_)
  rw [hr]
  refine EvP.pos rfl ?_
  show EvP (fun k => if wrap64 ((l.length : Int) - (p + ((sz25 (t.size : Int)).length : Int))) < (t.size : Int) then _ else _) _
  rw [w64 (x := (l.length : Int) - (p + ((sz25 (t.size : Int)).length : Int))) (by omega) (by omega)]
  refine EvP.neg (by omega) (EvP.pos ⟨by show 0 ≤ p + ((sz25 (t.size : Int)).length : Int); omega, by show (0 : Int) ≤ (t.size : Int); omega, by show p + ((sz25 (t.size : Int)).length : Int) + (t.size : Int) ≤ (l.length : Int); omega, by omega⟩ (EvP.ret ?_))
  have e : (l.take (p + ((sz25 (t.size : Int)).length : Int) + (t.size : Int)).toNat).drop (p + ((sz25 (t.size : Int)).length : Int)).toNat = bytesOf t := by
    have e1 : (p + ((sz25 (t.size : Int)).length : Int)).toNat = (pre ++ sz25 (t.size : Int)).length := by simp only [List.length_append]; omega
    have e2 : (p + ((sz25 (t.size : Int)).length : Int) + (t.size : Int)).toNat = (pre ++ sz25 (t.size : Int) ++ bytesOf t).length := by simp only [List.length_append, bytesOf_len]; omega
    rw [e1, e2, hl, show pre ++ (sz25 (t.size : Int) ++ (bytesOf t ++ post)) = (pre ++ sz25 (t.size : Int) ++ bytesOf t) ++ post by simp only [List.append_assoc], List.take_left, List.drop_left]
  rw [e, strOfNums_bytesOf]
theorem rlist_ev : ∀ (n : Nat) (xs : List S61), cntL xs < n → okL xs = true → ∀ (l : List Int) (d : Int) (o : List S61) (p m : Int) (pre post : List Int), l = pre ++ (beL xs ++ post) → p = pre.length → l.length ≤ 1000000 → 0 ≤ m → m + cntL xs ≤ 400 → 0 ≤ d → d + dpL xs ≤ 21 → o.length + cntL xs ≤ 1000000 →
    EvP (fun k => note_reader_list.l0 k l d o (xs.length : Int) p m 0) (· = (o ++ xs, p + ((beL xs).length : Int), m + cntL xs, 0))
  | 0, _, h, _, _, _, _, _, _, _, _, _, _, _, _, _, _, _, _ => by omega
  | n + 1, [], _, _, l, d, o, p, m, pre, post, hl, hp, hL, hm0, hm1, hd0, hd1, hoL => by
    refine EvP.step (fun k => by rw [note_reader_list.l0]) (EvP.neg (by simp) (EvP.ret ?_))
    simp [beL, cntL]
  | n + 1, x :: xs, hn, hok, l, d, o, p, m, pre, post, hl, hp, hL, hm0, hm1, hd0, hd1, hoL => by
    have e1 := cntO_kids x
    have e2 := dpO_kids x
    simp only [okL, Bool.and_eq_true] at hok
    obtain ⟨h0, h1, h2, h3⟩ := (okO_iff x).1 hok.1
    simp only [cntL] at hn hm1 hoL
    simp only [dpL] at hd1
    have hk2 := cntL_le x.f2
    have hx2 := cntL_le xs
    rw [beL, byO_kids] at hl
    have hlen := congrArg List.length hl
    simp only [List.length_append, bytesOf_len] at hlen
    refine EvP.step (fun k => by rw [note_reader_list.l0]) (EvP.pos (by simp only [List.length_cons]; omega) (EvP.pos rfl ?_))
    rw [w64 (x := m + 1) (by omega) (by omega), w64 (x := d + 1) (by omega) (by omega)]
    refine EvP.neg (by omega) (EvP.neg (by omega) ?_)
    refine EvP.bind (title_ev l p pre (sz25 x.f1 ++ (sz25 (x.f2.length : Int) ++ beL x.f2) ++ beL xs ++ post) x.f0 h0 (by rw [hl]; simp only [List.append_assoc]) hp hL) (fun t1 ht1 => ?_)
    rw [ht1]
    refine EvP.bind (rsz_ev l (p + ((sz25 (x.f0.size : Int)).length : Int) + (x.f0.size : Int)) (pre ++ sz25 (x.f0.size : Int) ++ bytesOf x.f0) ((sz25 (x.f2.length : Int) ++ beL x.f2) ++ beL xs ++ post) x.f1 1 1000 (by omega) (by omega) (by rw [hl]; simp only [List.append_assoc]) (by simp only [List.length_append, bytesOf_len]; omega) hL (by omega) (by omega)) (fun t2 ht2 => ?_)
    rw [ht2]
    have kids : EvP (fun k => note_reader_list.f k l (d + 1) (p + ((sz25 (x.f0.size : Int)).length : Int) + (x.f0.size : Int) + ((sz25 x.f1).length : Int)) (m + 1) 0) (· = (x.f2, p + ((sz25 (x.f0.size : Int)).length : Int) + (x.f0.size : Int) + ((sz25 x.f1).length : Int) + ((sz25 (x.f2.length : Int)).length : Int) + ((beL x.f2).length : Int), m + 1 + cntL x.f2, 0)) := by
      refine EvP.step (fun k => by rw [note_reader_list.f]) ?_
      refine EvP.bind (rsz_ev l _ (pre ++ sz25 (x.f0.size : Int) ++ bytesOf x.f0 ++ sz25 x.f1) (beL x.f2 ++ beL xs ++ post) (x.f2.length : Int) 0 2147483648 (by omega) (by omega) (by rw [hl]; simp only [List.append_assoc]) (by simp only [List.length_append, bytesOf_len]; omega) hL (by omega) (by omega)) (fun t3 ht3 => ?_)
      rw [ht3]
      have := rlist_ev n x.f2 (by omega) h3 l (d + 1) [] (p + ((sz25 (x.f0.size : Int)).length : Int) + (x.f0.size : Int) + ((sz25 x.f1).length : Int) + ((sz25 (x.f2.length : Int)).length : Int)) (m + 1) (pre ++ sz25 (x.f0.size : Int) ++ bytesOf x.f0 ++ sz25 x.f1 ++ sz25 (x.f2.length : Int)) (beL xs ++ post) (by rw [hl]; simp only [List.append_assoc]) (by simp only [List.length_append, bytesOf_len]; omega) hL (by omega) (by omega) (by omega) (by omega) (by simp only [List.length_nil]; omega)
      rw [List.nil_append] at this
      exact this
    refine EvP.bind kids (fun t3 ht3 => ?_)
    rw [ht3]
    refine EvP.pos (by omega) ?_
    rw [w64 (x := ((x :: xs).length : Int) - 1) (by simp only [List.length_cons]; omega) (by simp only [List.length_cons]; omega), show ((x :: xs).length : Int) - 1 = (xs.length : Int) by simp]
    have hx : (⟨x.f0, x.f1, x.f2⟩ : S61) = x := by cases x; rfl
    have rest := rlist_ev n xs (by omega) hok.2 l d (o ++ [(⟨x.f0, x.f1, x.f2⟩ : S61)]) (p + ((sz25 (x.f0.size : Int)).length : Int) + (x.f0.size : Int) + ((sz25 x.f1).length : Int) + ((sz25 (x.f2.length : Int)).length : Int) + ((beL x.f2).length : Int)) (m + 1 + cntL x.f2) (pre ++ (sz25 (x.f0.size : Int) ++ bytesOf x.f0 ++ sz25 x.f1 ++ (sz25 (x.f2.length : Int) ++ beL x.f2))) post (by rw [hl]; simp only [List.append_assoc]) (by simp only [List.length_append, bytesOf_len]; omega) hL (by omega) (by omega) (by omega) (by omega) (by simp only [List.length_append, List.length_cons, List.length_nil]; omega)
    refine EvP.mono rest (fun r hr => ?_)
    rw [hr, hx, beL, byO_kids, cntL, cntO_kids]
    simp only [List.append_assoc, List.singleton_append, List.length_append, bytesOf_len, Prod.mk.injEq, true_and, and_true]
    omega
theorem getOut_ev (xs : List S61) (hc : cntL xs ≤ 400) (hd : dpL xs ≤ 20) (ho : okL xs = true) : EvP (fun k => note_GetOutlines.f k (sz25 (xs.length : Int) ++ beL xs)) (· = (xs, 0)) := by
  have hx := cntL_le xs
  have hb := beL_len (cntL xs + 1) xs (by omega) ho
  have hs := sz25_len (xs.length : Int)
  have hL : (sz25 (xs.length : Int) ++ beL xs).length ≤ 1000000 := by simp only [List.length_append]; omega
  have h1 : EvP (fun k => note_reader_list.f k (sz25 (xs.length : Int) ++ beL xs) 1 0 0 0) (· = (xs, ((sz25 (xs.length : Int) ++ beL xs).length : Int), (cntL xs : Int), 0)) := by
    refine EvP.step (fun k => by rw [note_reader_list.f]) ?_
    refine EvP.bind (rsz_ev _ 0 [] (beL xs) (xs.length : Int) 0 2147483648 (by omega) (by omega) (by simp) (by simp) hL (by omega) (by omega)) (fun t ht => ?_)
    rw [ht]
    refine EvP.mono (rlist_ev (cntL xs + 1) xs (by omega) ho _ 1 [] (0 + ((sz25 (xs.length : Int)).length : Int)) 0 (sz25 (xs.length : Int)) [] (by simp) (by omega) hL (by omega) (by omega) (by omega) (by omega) (by simp only [List.length_nil]; omega)) (fun r hr => ?_)
    rw [hr]
    simp
  refine EvP.bind h1 (fun t ht => ?_)
  rw [ht]
  exact EvP.pos rfl (EvP.neg (Int.lt_irrefl _) (EvP.ret rfl))

def GL (l : List S61) : Prop := l.length ≤ 9223372036854775807 ∧ okL l = true ∧ cntL l ≤ 400
theorem okL_mem : ∀ (l : List S61) (x : S61), okL l = true → x ∈ l → okO x = true
  | y :: ys, x, h, hx => by
    simp only [okL, Bool.and_eq_true] at h
    rcases List.mem_cons.1 hx with rfl | hx
    · exact h.1
    · exact okL_mem ys x h.2 hx
theorem GL.kids {l : List S61} {x : S61} (h : GL l) (hx : x ∈ l) : x.f0.size ≤ 140737488351232 ∧ (-9223372036854775808 ≤ x.f1 ∧ x.f1 ≤ 9223372036854775807) ∧ GL x.f2 := by
  have h1 := okL_mem l x h.2.1 hx
  rw [okO_kids] at h1
  simp only [Bool.and_eq_true, decide_eq_true_eq] at h1
  have h2 := cntL_mem l x hx
  have h3 := cntO_kids x
  have h4 := cntL_le x.f2
  have h5 := h.2.2
  exact ⟨by omega, ⟨by omega, by omega⟩, by omega, h1.2, by omega⟩

theorem outl_ev : ∀ (n : Nat) (l : List S61), cntL l < n → GL l → ∀ (m d : Int), 0 ≤ m → m ≤ 400 → 1 ≤ d → d ≤ 21 →
    EvP (fun k => note_looks_outlines.f k m l d) (fun r => (0 ≤ r.2 ∧ r.2 ≤ 401) ∧ (r.1 = true ↔ (okL l = true ∧ m + cntL l ≤ 400 ∧ d + dpL l ≤ 21)) ∧ (r.1 = true → r.2 = m + cntL l))
  | 0, _, h, _, _, _, _, _, _, _ => by omega
  | n + 1, l, hn, hg, m, d, hm0, hm1, hd0, hd1 => by
    refine EvP.step (fun k => by rw [note_looks_outlines.f]) ?_
    refine EvP.up (L := fun k i (s : Int) => note_looks_outlines.l0 k d l (l.length : Int) i s) (fun i s => 0 ≤ i ∧ 0 ≤ s ∧ s ≤ 400 ∧ okL l = okL (l.drop i.toNat) ∧ m + cntL l = s + cntL (l.drop i.toNat) ∧ (d + dpL l ≤ 21 ↔ d + dpL (l.drop i.toNat) ≤ 21)) l.length ?_ 0 m (by omega) ⟨by omega, hm0, hm1, by simp, by simp, by simp⟩
    intro i s hi hin ih
    obtain ⟨i0, hs0, hs1, e1, e2, e3⟩ := hi
    refine EvP.step (fun k => by rw [note_looks_outlines.l0]) ?_
    refine EvP.ite (fun c1 => ?_) (fun c1 => ?_)
    · refine EvP.pos i0 (EvP.pos c1 ?_)
      have hm := rd_mem61 l i i0 c1
      obtain ⟨k1, _, k3⟩ := hg.kids hm
      have hlen := hg.1
      have f1 := okL_drop l i i0 c1
      have f2 := cntL_drop l i i0 c1
      have f3 := dpL_drop l i i0 c1
      rw [f1] at e1
      rw [f2] at e2
      rw [f3] at e3
      rw [w64 (x := s + 1) (by omega) (by omega)]
      refine EvP.ite (fun c => EvP.ret ⟨⟨by omega, by omega⟩, ⟨fun h => (by cases h), fun h => by omega⟩, fun h => (by cases h)⟩) (fun c2 => ?_)
      refine EvP.ite (fun c => EvP.ret ⟨⟨by omega, by omega⟩, ⟨fun h => (by cases h), fun h => by have := e3.1 h.2.2; omega⟩, fun h => (by cases h)⟩) (fun c3 => ?_)
      refine EvP.ite (fun c => EvP.ret ⟨⟨by omega, by omega⟩, ⟨fun h => (by cases h), fun h => by have := e1.symm.trans h.1; simp at this; omega⟩, fun h => (by cases h)⟩) (fun c4 => ?_)
      refine EvP.ite (fun c => EvP.ret ⟨⟨by omega, by omega⟩, ⟨fun h => (by cases h), fun h => by have := e1.symm.trans h.1; simp at this; omega⟩, fun h => (by cases h)⟩) (fun c5 => ?_)
      refine EvP.ite (fun c => EvP.ret ⟨⟨by omega, by omega⟩, ⟨fun h => (by cases h), fun h => by have := e1.symm.trans h.1; simp at this; omega⟩, fun h => (by cases h)⟩) (fun c6 => ?_)
      rw [w64 (x := d + 1) (by omega) (by omega)]
      refine EvP.bind (outl_ev n (rd_T61 l i).f2 (by have := cnt_kid l i i0 c1; omega) k3 (s + 1) (d + 1) (by omega) (by omega) (by omega) (by omega)) (fun r hr => ?_)
      obtain ⟨⟨r0, r1⟩, r2, r3⟩ := hr
      refine EvP.ite (fun c => ?_) (fun c => ?_)
      · rw [w64 (x := i + 1) (by omega) (by omega)]
        obtain ⟨g1, g2, g3⟩ := r2.1 c
        have g4 := r3 c
        refine ih r.2 c1 ⟨by omega, r0, by omega, ?_, by omega, ?_⟩
        · rw [e1, g1]
          have a1 : (rd_T61 l i).f0.size ≤ 200 := by omega
          have a2 : 1 ≤ (rd_T61 l i).f1 := by omega
          have a3 : (rd_T61 l i).f1 ≤ 1000 := by omega
          simp [a1, a2, a3]
        · rw [e3]
          omega
      · refine EvP.ret ⟨⟨r0, r1⟩, ⟨fun h => (by cases h), fun h => ?_⟩, fun h => (by cases h)⟩
        obtain ⟨h1, h2, h3⟩ := h
        refine absurd (r2.2 ⟨?_, ?_, ?_⟩) c
        · have := e1.symm.trans h1
          simp at this
          exact this.1.2
        · omega
        · have := e3.1 h3
          omega
    · have e : l.drop i.toNat = [] := drop_none61 l i i0 c1
      rw [e] at e1 e2 e3
      simp only [okL, cntL, dpL] at e1 e2 e3
      refine EvP.ret ⟨⟨hs0, by omega⟩, ⟨fun _ => ⟨e1, by omega, e3.2 (by omega)⟩, fun _ => rfl⟩, fun _ => by show s = _; omega⟩
theorem valid_ev (l : List S61) (hg : GL l) : EvP (fun k => note_ValidOutlines.f k l) (fun b => (b = true ↔ (okL l = true ∧ cntL l ≤ 400 ∧ dpL l ≤ 20))) := by
  refine EvP.bind (outl_ev (cntL l + 1) l (by omega) hg 0 1 (by omega) (by omega) (by omega) (by omega)) (fun r hr => EvP.ret ?_)
  rw [hr.2.1]
  constructor
  · rintro ⟨a, b, c⟩; exact ⟨a, by omega, by omega⟩
  · rintro ⟨a, b, c⟩; exact ⟨a, by omega, by omega⟩

theorem gs_same_l : ∀ (k : Nat) (l : List Int) (p x i : Int), incunableref01_GetSize.l0 k l p x i = bits_GetSize.l0 k l p x i
  | 0, _, _, _, _ => by rw [incunableref01_GetSize.l0, bits_GetSize.l0]
  | k + 1, l, p, x, i => by
    rw [incunableref01_GetSize.l0, bits_GetSize.l0]
    simp only [gs_same_l k, Int.mul_comm 128 x]
theorem gs_same (k : Nat) (l : List Int) (p : Int) : incunableref01_GetSize.f k l p = bits_GetSize.f k l p := by
  have h : ∀ b, incunableref01_GetSize.j0 k l p b = bits_GetSize.j0 k l p 0 b := by
    intro b
    cases k with
    | zero => rw [incunableref01_GetSize.j0, bits_GetSize.j0]
    | succ k => rw [incunableref01_GetSize.j0, bits_GetSize.j0, gs_same_l]
  unfold incunableref01_GetSize.f bits_GetSize.f
  rw [h, h]
/-- The bytes from one place to another. -/
def sl (l : List Int) (a b : Int) : List Int := (l.take b.toNat).drop a.toNat
theorem sl_app (l : List Int) (a b c : Int) (h0 : 0 ≤ a) (h1 : a ≤ b) (h2 : b ≤ c) (h3 : c ≤ l.length) : sl l a b ++ sl l b c = sl l a c := by
  unfold sl
  have e : l.take b.toNat = (l.take c.toNat).take b.toNat := by rw [List.take_take, Nat.min_eq_left (by omega)]
  rw [e, ← List.drop_append_of_le_length (by simp only [List.length_take]; omega), List.take_append_drop]
theorem sl_one (l : List Int) (a : Int) (h0 : 0 ≤ a) (h1 : a < l.length) : sl l a (a + 1) = [rd l a] := by
  unfold sl
  have h : a.toNat < l.length := by omega
  rw [show (a + 1).toNat = a.toNat + 1 by omega, List.drop_take, show a.toNat + 1 - a.toNat = 0 + 1 by omega, List.drop_eq_getElem_cons h, List.take_succ_cons, List.take_zero]
  simp only [rd, List.getD, List.getElem?_eq_getElem h, Option.getD_some]
theorem sl_nil (l : List Int) (a : Int) : sl l a a = [] := by
  unfold sl
  rw [List.drop_take, Nat.sub_self, List.take_zero]
theorem sl_len (l : List Int) (a b : Int) (h0 : 0 ≤ a) (h1 : a ≤ b) (h2 : b ≤ l.length) : ((sl l a b).length : Int) = b - a := by
  unfold sl
  rw [List.length_drop, List.length_take]
  omega
theorem sl_mem {l : List Int} {a b y : Int} (h : y ∈ sl l a b) : y ∈ l := List.mem_of_mem_take (List.mem_of_mem_drop h)
theorem sl_all (l : List Int) : sl l 0 l.length = l := by simp [sl]
theorem gs_step (l : List Int) (hb : Byt l) (hL : l.length ≤ 6000) (p i x : Int) (hp0 : 0 ≤ p) (hp1 : p ≤ l.length) (hi0 : 0 ≤ i) (hi1 : i < 5) (hx0 : 0 ≤ x) (hx1 : x < 1099511627776) {P : Int × Int × Int → Prop} (h6 : P (0, 0, 6)) (h3 : P (0, 0, 3))
    (hf : p + i < l.length → rd l (p + i) < 128 → 0 ≤ rd l (p + i) → x * 128 + rd l (p + i) ≤ 2147483647 → (i = 0 ∨ rd l p ≠ 128) → P (x * 128 + rd l (p + i), p + i + 1, 0))
    (hn : p + i < l.length → 128 ≤ rd l (p + i) → rd l (p + i) ≤ 255 → EvP (fun k => bits_GetSize.l0 k l p (x * 128 + (rd l (p + i) - 128)) (i + 1)) P) : EvP (fun k => bits_GetSize.l0 k l p x i) P := by
  refine EvP.step (fun k => by rw [bits_GetSize.l0]) (EvP.pos hi1 ?_)
  rw [w64 (x := p + i) (by omega) (by omega)]
  refine EvP.ite (fun c => EvP.ret h6) (fun c => ?_)
  have c' : p + i < l.length := by omega
  refine EvP.pos (by omega) (EvP.pos c' ?_)
  have hr := hb _ (rd_mem (l := l) (i := p + i) (by omega) c')
  rw [w64 (x := rd l (p + i)) (by omega) (by omega), w64 (x := x * 128) (by omega) (by omega), tmod_pos (by omega)]
  refine EvP.ite (fun c1 => ?_) (fun c1 => ?_)
  · rw [show rd l (p + i) % 128 = rd l (p + i) by omega, w64 (x := x * 128 + rd l (p + i)) (by omega) (by omega), w64 (x := p + i + 1) (by omega) (by omega)]
    refine EvP.ite (fun c2 => EvP.ret h3) (fun c2 => ?_)
    refine EvP.ite (fun c4 => ?_) (fun c4 => EvP.ret (hf c' c1 (by omega) (by omega) (.inl (by omega))))
    refine EvP.pos hp0 (EvP.pos (by omega) (EvP.ite (fun c5 => EvP.ret h3) (fun c5 => EvP.ret (hf c' c1 (by omega) (by omega) (.inr c5)))))
  · rw [show rd l (p + i) % 128 = rd l (p + i) - 128 by omega, w64 (x := x * 128 + (rd l (p + i) - 128)) (by omega) (by omega), w64 (x := i + 1) (by omega) (by omega)]
    exact hn c' (by omega) (by omega)
theorem bytesOf_strOfNums {l : List Int} (h : Byt l) : bytesOf (strOfNums l) = l := by
  unfold bytesOf strOfNums
  simp only [List.map_map]
  refine (List.map_congr_left (fun x hx => ?_)).trans (List.map_id _)
  have := h x hx
  simp only [Function.comp, id]
  rw [UInt8.toNat_ofNat_of_lt' (by show x.toNat < 256; omega)]
  omega
def GsF (l : List Int) (p : Int) (g : Int × Int × Int) : Prop := g.2.2 ≠ 0 ∨ (g.2.2 = 0 ∧ 0 ≤ g.1 ∧ g.1 ≤ 2147483647 ∧ p < g.2.1 ∧ g.2.1 ≤ l.length ∧ (g.1 < 16384 → sl l p g.2.1 = sz25 g.1))
theorem gs_ev (l : List Int) (hb : Byt l) (hL : l.length ≤ 6000) (p : Int) (hp0 : 0 ≤ p) (hp1 : p ≤ l.length) : EvP (fun k => bits_GetSize.f k l p) (GsF l p) := by
  have e6 : GsF l p (0, 0, 6) := .inl (by decide)
  have e3 : GsF l p (0, 0, 3) := .inl (by decide)
  refine EvP.neg (by omega) (EvP.step (fun k => by rw [bits_GetSize.j0]) (EvP.neg (by simp; omega) ?_))
  refine gs_step l hb hL p 0 0 hp0 hp1 (by omega) (by omega) (by omega) (by omega) e6 e3 (fun a b c d e => ?_) (fun a0 b0 c0 => ?_)
  · rw [Int.add_zero] at a b c d ⊢
    refine .inr ⟨rfl, by show 0 ≤ 0 * 128 + _; omega, d, by show p < p + 1; omega, by show p + 1 ≤ _; omega, fun _ => ?_⟩
    show sl l p (p + 1) = sz25 (0 * 128 + rd l p)
    rw [sl_one l p hp0 a, show 0 * 128 + rd l p = rd l p by omega, sz25, if_pos b]
  rw [Int.add_zero] at a0 b0 c0 ⊢
  have big : ∀ (i x : Int), 2 ≤ i → (rd l p ≠ 128 → 128 ≤ x) → (p + i < l.length → rd l (p + i) < 128 → 0 ≤ rd l (p + i) → x * 128 + rd l (p + i) ≤ 2147483647 → (i = 0 ∨ rd l p ≠ 128) → GsF l p (x * 128 + rd l (p + i), p + i + 1, 0)) := by
    intro i x hi hx a b c d e
    have hx := hx (e.resolve_left (by omega))
    exact .inr ⟨rfl, by show 0 ≤ x * 128 + _; omega, d, by show p < p + i + 1; omega, by show p + i + 1 ≤ _; omega, fun h => by dsimp only at h; omega⟩
  refine gs_step l hb hL p (0 + 1) _ hp0 hp1 (by omega) (by omega) (by omega) (by omega) e6 e3 (fun a b c d e => ?_) (fun a1 b1 c1 => ?_)
  · rw [show p + (0 + 1) = p + 1 by omega] at a b c d ⊢
    have hne : rd l p ≠ 128 := e.resolve_left (by omega)
    refine .inr ⟨rfl, by show 0 ≤ _ * 128 + _; omega, d, by show p < p + 1 + 1; omega, by show p + 1 + 1 ≤ _; omega, fun _ => ?_⟩
    show sl l p (p + 1 + 1) = sz25 _
    rw [← sl_app l p (p + 1) (p + 1 + 1) hp0 (by omega) (by omega) (by omega), sl_one l p hp0 (by omega), sl_one l (p + 1) (by omega) a, sz25, if_neg (by omega)]
    show [rd l p, rd l (p + 1)] = _
    congr 1
    · omega
    · congr 1
      omega
  refine gs_step l hb hL p (0 + 1 + 1) _ hp0 hp1 (by omega) (by omega) (by omega) (by omega) e6 e3 (big _ _ (by omega) (fun h => by omega)) (fun a2 b2 c2 => ?_)
  refine gs_step l hb hL p (0 + 1 + 1 + 1) _ hp0 hp1 (by omega) (by omega) (by omega) (by omega) e6 e3 (big _ _ (by omega) (fun h => by omega)) (fun a3 b3 c3 => ?_)
  refine gs_step l hb hL p (0 + 1 + 1 + 1 + 1) _ hp0 hp1 (by omega) (by omega) (by omega) (by omega) e6 e3 (big _ _ (by omega) (fun h => by omega)) (fun a4 b4 c4 => ?_)
  exact EvP.step (fun k => by rw [bits_GetSize.l0]) (EvP.neg (by omega) (EvP.ret e3))

/-- What a list that was read is, behind what it began with. -/
def LsF (l : List Int) (d pos many : Int) (xs : List S61) (p2 m2 : Int) : Prop := okL xs = true ∧ m2 = many + cntL xs ∧ m2 ≤ 400 ∧ d + dpL xs ≤ 21 ∧ pos ≤ p2 ∧ p2 ≤ l.length
theorem prog_err (l : List Int) (d : Int) (o : List S61) (n pos many e : Int) (he : e ≠ 0) : EvP (fun k => note_reader_list.l0 k l d o n pos many e) (fun r => r.2.2.2 = e) := by
  refine EvP.step (fun k => by rw [note_reader_list.l0]) ?_
  exact EvP.ite (fun c => EvP.neg he (EvP.ret rfl)) (fun c => EvP.ret rfl)
theorem prog_ferr (l : List Int) (d pos many e : Int) (he : e ≠ 0) : EvP (fun k => note_reader_list.f k l d pos many e) (fun r => r.2.2.2 = e) := by
  refine EvP.step (fun k => by rw [note_reader_list.f]) ?_
  refine EvP.bind (Q := (· = (0, pos, e))) (EvP.neg he (EvP.ret rfl)) (fun t ht => ?_)
  rw [ht]
  exact prog_err l d [] 0 pos many e he
theorem ref_err (l : List Int) (d : Int) (o : List S61) (n i pos many e : Int) (he : e ≠ 0) : EvP (fun k => incunableref25_books_list.l0 k l d o n i pos many e) (fun r => r.2.2.2 = e) := by
  refine EvP.step (fun k => by rw [incunableref25_books_list.l0]) ?_
  exact EvP.neg he (EvP.ret rfl)
theorem ref_ferr (l : List Int) (d pos many e : Int) (he : e ≠ 0) : EvP (fun k => incunableref25_books_list.f k l d pos many e) (fun r => r.2.2.2 = e) := by
  refine EvP.step (fun k => by rw [incunableref25_books_list.f]) ?_
  refine EvP.bind (Q := (· = (0, pos, e))) (EvP.neg he (EvP.ret rfl)) (fun t ht => ?_)
  rw [ht]
  exact ref_err l d [] 0 0 pos many e he
theorem n30 : (3 : Int) ≠ 0 := by decide
theorem n60 : (6 : Int) ≠ 0 := by decide
/-- A size, as both read it. -/
theorem sz_prog {l : List Int} {p : Int} {g : Int × Int × Int} (hg : Ev (fun k => bits_GetSize.f k l p) g) (low high : Int) : EvP (fun k => note_reader_size.f k l p 0 low high) (· = if g.2.2 = 0 then (if g.1 < low then (0, p, 3) else if g.1 > high then (0, p, 3) else (g.1, g.2.1, 0)) else (0, p, g.2.2)) := by
  refine EvP.pos rfl (EvP.bind (Q := (· = g)) ⟨g, hg, rfl⟩ (fun t ht => ?_))
  rw [ht]
  refine EvP.ite (fun c1 => EvP.ite (fun c2 => EvP.ret ?_) (fun c2 => EvP.ite (fun c3 => EvP.ret ?_) (fun c3 => EvP.ret ?_))) (fun c1 => EvP.ret ?_)
  · rw [if_pos c1, if_pos c2]
  · rw [if_pos c1, if_neg c2, if_pos c3]
  · rw [if_pos c1, if_neg c2, if_neg c3]
  · rw [if_neg c1]
theorem sz_ref {l : List Int} {p : Int} {g : Int × Int × Int} (hg : Ev (fun k => bits_GetSize.f k l p) g) (most : Int) : EvP (fun k => incunableref25_books_size.f k l p 0 most) (· = if g.2.2 = 0 then (if g.1 > most then (g.1, g.2.1, 3) else (g.1, g.2.1, 0)) else g) := by
  refine EvP.pos rfl (EvP.bind (Q := (· = g)) ⟨g, hg.congr (fun k => gs_same k l p), rfl⟩ (fun t ht => ?_))
  rw [ht]
  refine EvP.ite (fun c1 => EvP.ite (fun c2 => EvP.ret ?_) (fun c2 => EvP.ret ?_)) (fun c1 => EvP.ret ?_)
  · rw [if_pos c1, if_pos c2]
  · rw [if_pos c1, if_neg c2]
  · rw [if_neg c1]
abbrev R4 := List S61 × Int × Int × Int
def RelL (l : List Int) (d : Int) (o : List S61) (n pos many : Int) (r q : R4) : Prop := r.2.2.2 = q.2.2.2 ∧ (r.2.2.2 = 0 → r = q ∧ ∃ xs, r.1 = o ++ xs ∧ (xs.length : Int) = n ∧ LsF l d pos many xs r.2.1 r.2.2.1 ∧ sl l pos r.2.1 = beL xs)
def RelF (l : List Int) (d pos many : Int) (r q : R4) : Prop := r.2.2.2 = q.2.2.2 ∧ (r.2.2.2 = 0 → r = q ∧ LsF l d pos many r.1 r.2.1 r.2.2.1 ∧ sl l pos r.2.1 = sz25 (r.1.length : Int) ++ beL r.1)
/-- A list behind its size. -/
theorem getsF (l : List Int) (hb : Byt l) (hL : l.length ≤ 6000) (d pos many : Int) (hp0 : 0 ≤ pos) (hp1 : pos ≤ l.length) (hm0 : 0 ≤ many) (hm : many ≤ 400)
    (ih : ∀ n p, 0 ≤ n → n ≤ 2147483647 → pos < p → p ≤ l.length → EvP (fun k => note_reader_list.l0 k l d [] n p many 0) (fun r => EvP (fun k => incunableref25_books_list.l0 k l (d - 1) [] n 0 p many 0) (RelL l d [] n p many r))) :
    EvP (fun k => note_reader_list.f k l d pos many 0) (fun r => EvP (fun k => incunableref25_books_list.f k l (d - 1) pos many 0) (RelF l d pos many r)) := by
  obtain ⟨g, hg, hf⟩ := gs_ev l hb hL pos hp0 hp1
  refine EvP.step (fun k => by rw [note_reader_list.f]) (EvP.bind (sz_prog hg 0 2147483648) (fun t ht => ?_))
  rw [ht]
  rcases hf with hf | ⟨h1, h2, h3, h4, h5, h6⟩
  · rw [if_neg hf]
    refine EvP.mono (prog_err l d [] 0 pos many g.2.2 hf) (fun r hr => ?_)
    refine EvP.step (fun k => by rw [incunableref25_books_list.f]) (EvP.bind (sz_ref hg 2147483647) (fun t ht => ?_))
    rw [ht, if_neg hf]
    refine EvP.mono (ref_err l (d - 1) [] g.1 0 g.2.1 many g.2.2 hf) (fun q hq => ⟨hr.trans hq.symm, fun h => absurd (hr.symm.trans h) hf⟩)
  · rw [if_pos h1, if_neg (by omega), if_neg (by omega)]
    refine EvP.mono (ih g.1 g.2.1 h2 h3 h4 h5) (fun r hr => ?_)
    refine EvP.step (fun k => by rw [incunableref25_books_list.f]) (EvP.bind (sz_ref hg 2147483647) (fun t ht => ?_))
    rw [ht, if_pos h1, if_neg (by omega)]
    refine EvP.mono hr (fun q hq => ⟨hq.1, fun h => ?_⟩)
    obtain ⟨e1, xs, e2, e3, ⟨f1, f2, f3, f4, f5, f6⟩, f7⟩ := hq.2 h
    rw [List.nil_append] at e2
    have hc := cntL_le xs
    rw [e2]
    refine ⟨e1, ⟨f1, f2, f3, f4, by omega, f6⟩, ?_⟩
    rw [← sl_app l pos g.2.1 r.2.1 hp0 (by omega) f5 f6, f7, h6 (by omega), e3]

theorem ext_err (l : List Int) (d : Int) (o : List S61) (n pos many e : Int) (he : e ≠ 0) : EvP (fun k => note_reader_list.l0 k l d o n pos many e) (fun r => r.2.2.2 = e) := prog_err l d o n pos many e he
theorem getsL : ∀ (N : Nat) (l : List Int), Byt l → l.length ≤ 6000 → ∀ (d : Int) (o : List S61) (n i pos many : Int), (401 - many).toNat < N → 1 ≤ d → d ≤ 21 → 0 ≤ i → i ≤ n → n ≤ 2147483647 → 0 ≤ pos → pos ≤ l.length → 0 ≤ many → many ≤ 400 → (o.length : Int) ≤ many →
    EvP (fun k => note_reader_list.l0 k l d o (n - i) pos many 0) (fun r => EvP (fun k => incunableref25_books_list.l0 k l (d - 1) o n i pos many 0) (RelL l d o (n - i) pos many r))
  | 0, _, _, _, _, _, _, _, _, _, h, _, _, _, _, _, _, _, _, _, _ => by omega
  | N + 1, l, hb, hL, d, o, n, i, pos, many, hN, hd0, hd1, hi0, hi1, hn, hp0, hp1, hm0, hm1, ho => by
    refine EvP.step (fun k => by rw [note_reader_list.l0]) ?_
    refine EvP.ite (fun c1 => ?_) (fun c1 => ?_)
    · refine EvP.pos rfl ?_
      rw [w64 (x := many + 1) (by omega) (by omega), w64 (x := d + 1) (by omega) (by omega), w64 (x := n - i - 1) (by omega) (by omega)]
      refine EvP.ite (fun c2 => EvP.ret ?_) (fun c2 => ?_)
      · refine EvP.step (fun k => by rw [incunableref25_books_list.l0]) (EvP.pos rfl (EvP.pos (by omega) ?_))
        rw [w64 (x := many + 1) (by omega) (by omega)]
        exact EvP.pos c2 (EvP.ret ⟨rfl, fun h => absurd (show (4 : Int) = 0 from h) (by decide)⟩)
      refine EvP.ite (fun c3 => EvP.ret ?_) (fun c3 => ?_)
      · refine EvP.step (fun k => by rw [incunableref25_books_list.l0]) (EvP.pos rfl (EvP.pos (by omega) ?_))
        rw [w64 (x := many + 1) (by omega) (by omega)]
        exact EvP.neg c2 (EvP.pos (by omega) (EvP.ret ⟨rfl, fun h => absurd (show (4 : Int) = 0 from h) (by decide)⟩))
      -- what the reference does, behind its tests
      have ref : ∀ {P : R4 → Prop}, EvP (fun k => (incunableref25_books_size.f k l pos 0 200).bind fun t1 => if t1.2.2 = 0 then (if t1.1 > wrap64 ((l.length : Int) - t1.2.1) then some (o, t1.2.1, many + 1, 6) else (if 0 ≤ t1.2.1 ∧ 0 ≤ t1.1 ∧ t1.2.1 + t1.1 ≤ (l.length : Int) ∧ (l.length : Int) ≤ 9223372036854775807 then ((incunableref25_books_size.f k l (t1.2.1 + t1.1) 0 1000).bind fun t2 => (incunableref25_books_list.f k l d t2.2.1 (many + 1) (if t2.2.2 = 0 then (if t2.1 < 1 then 3 else 0) else t2.2.2)).bind fun t3 => if (o.length + 1) * 48 ≤ 140737488355328 then incunableref25_books_list.l0 k l (d - 1) (o ++ [⟨strOfNums ((l.take (t1.2.1 + t1.1).toNat).drop t1.2.1.toNat), t2.1, t3.1⟩]) n (i + 1) t3.2.1 t3.2.2.1 t3.2.2.2 else none) else none)) else some (o, t1.2.1, many + 1, t1.2.2)) P → EvP (fun k => incunableref25_books_list.l0 k l (d - 1) o n i pos many 0) P := by
        intro P h
        refine EvP.step (fun k => by rw [incunableref25_books_list.l0]) (EvP.pos rfl (EvP.pos (by omega) ?_))
        rw [w64 (x := many + 1) (by omega) (by omega), w64 (x := i + 1) (by omega) (by omega), w64 (x := d - 1 + 1) (by omega) (by omega), show d - 1 + 1 = d by omega]
        exact EvP.neg c2 (EvP.neg (by omega) h)
      -- what the program does, once something was wrong
      have bad : ∀ (s : ByteArray) (p : Int) (e : Int), e ≠ 0 → ∀ {P : R4 → Prop}, (∀ r : R4, r.2.2.2 = e → P r) → EvP (fun k => (note_reader_size.f k l p e 1 1000).bind fun t2 => (note_reader_list.f k l (d + 1) t2.2.1 (many + 1) t2.2.2).bind fun t3 => if (o.length + 1) * 48 ≤ 140737488355328 then note_reader_list.l0 k l d (o ++ [⟨s, t2.1, t3.1⟩]) (n - i - 1) t3.2.1 t3.2.2.1 t3.2.2.2 else none) P := by
        intro s p e he P hP
        refine EvP.bind (Q := (· = (0, p, e))) (EvP.neg he (EvP.ret rfl)) (fun t ht => ?_)
        rw [ht]
        refine EvP.bind (prog_ferr l (d + 1) p (many + 1) e he) (fun t3 ht3 => ?_)
        rw [ht3]
        refine EvP.pos (by omega) (EvP.mono (prog_err l d _ _ _ _ e he) (fun r hr => hP r hr))
      obtain ⟨g, hg, hf⟩ := gs_ev l hb hL pos hp0 hp1
      have bt : EvP (fun k => note_reader_title.f k l pos 0) (· = if g.2.2 = 0 then (if g.1 ≤ 200 then (if (l.length : Int) - g.2.1 < g.1 then ((⟨#[]⟩ : ByteArray), g.2.1, 6) else (strOfNums (sl l g.2.1 (g.2.1 + g.1)), g.2.1 + g.1, 0)) else ((⟨#[]⟩ : ByteArray), pos, 3)) else ((⟨#[]⟩ : ByteArray), pos, g.2.2)) := by
        refine EvP.bind (sz_prog hg 0 200) (fun t ht => ?_)
        rcases hf with hf | ⟨h1, h2, h3, h4, h5, h6⟩
        · rw [if_neg hf] at ht
          rw [ht]
          exact EvP.neg hf (EvP.ret (by rw [if_neg hf]))
        · rw [if_pos h1, if_neg (by omega)] at ht
          rw [if_pos h1]
          by_cases c : g.1 ≤ 200
          · rw [if_neg (by omega)] at ht
            rw [ht, if_pos c]
            refine EvP.pos rfl ?_
            show EvP (fun k => if wrap64 ((l.length : Int) - g.2.1) < g.1 then _ else _) _
            rw [w64 (x := (l.length : Int) - g.2.1) (by omega) (by omega)]
            refine EvP.ite (fun c4 => EvP.ret ?_) (fun c4 => EvP.pos ⟨by show 0 ≤ g.2.1; omega, h2, by show g.2.1 + g.1 ≤ _; omega, by omega⟩ (EvP.ret ?_))
            · rw [if_pos c4]
            · rw [if_neg c4]
              rfl
          · rw [if_pos (by omega)] at ht
            rw [ht, if_neg c]
            exact EvP.neg n30 (EvP.ret rfl)
      refine EvP.bind bt (fun t ht => ?_)
      rw [ht]
      clear ht bt
      rcases hf with hf | ⟨h1, h2, h3, h4, h5, h6⟩
      · rw [if_neg hf]
        refine bad _ _ _ hf (fun r hr => ref ?_)
        refine EvP.bind (sz_ref hg 200) (fun t ht => ?_)
        rw [ht, if_neg hf]
        exact EvP.neg hf (EvP.ret ⟨hr, fun h => absurd (hr.symm.trans h) hf⟩)
      rw [if_pos h1]
      by_cases c4 : g.1 ≤ 200
      case neg =>
        rw [if_neg c4]
        refine bad _ _ _ n30 (fun r hr => ref ?_)
        refine EvP.bind (sz_ref hg 200) (fun t ht => ?_)
        rw [ht, if_pos h1, if_pos (by omega)]
        exact EvP.neg n30 (EvP.ret ⟨hr, fun h => absurd (hr.symm.trans h) n30⟩)
      rw [if_pos c4]
      by_cases c5 : (l.length : Int) - g.2.1 < g.1
      · rw [if_pos c5]
        refine bad _ _ _ n60 (fun r hr => ref ?_)
        refine EvP.bind (sz_ref hg 200) (fun t ht => ?_)
        rw [ht, if_pos h1, if_neg (by omega)]
        refine EvP.pos rfl ?_
        show EvP (fun k => if g.1 > wrap64 ((l.length : Int) - g.2.1) then _ else _) _
        rw [w64 (x := (l.length : Int) - g.2.1) (by omega) (by omega)]
        exact EvP.pos c5 (EvP.ret ⟨hr, fun h => absurd (hr.symm.trans h) n60⟩)
      rw [if_neg c5]
      obtain ⟨g2, hg2, hf2⟩ := gs_ev l hb hL (g.2.1 + g.1) (by omega) (by omega)
      have ref2 : ∀ {P : R4 → Prop}, EvP (fun k => (incunableref25_books_size.f k l (g.2.1 + g.1) 0 1000).bind fun t2 => (incunableref25_books_list.f k l d t2.2.1 (many + 1) (if t2.2.2 = 0 then (if t2.1 < 1 then 3 else 0) else t2.2.2)).bind fun t3 => if (o.length + 1) * 48 ≤ 140737488355328 then incunableref25_books_list.l0 k l (d - 1) (o ++ [⟨strOfNums (sl l g.2.1 (g.2.1 + g.1)), t2.1, t3.1⟩]) n (i + 1) t3.2.1 t3.2.2.1 t3.2.2.2 else none) P → EvP (fun k => incunableref25_books_list.l0 k l (d - 1) o n i pos many 0) P := by
        intro P h
        refine ref ?_
        refine EvP.bind (sz_ref hg 200) (fun t ht => ?_)
        rw [ht, if_pos h1, if_neg (by omega)]
        refine EvP.pos rfl ?_
        show EvP (fun k => if g.1 > wrap64 ((l.length : Int) - g.2.1) then _ else _) _
        rw [w64 (x := (l.length : Int) - g.2.1) (by omega) (by omega)]
        exact EvP.neg c5 (EvP.pos ⟨by show 0 ≤ g.2.1; omega, h2, by show g.2.1 + g.1 ≤ _; omega, by omega⟩ h)
      have refB : ∀ (e v p2 : Int), e ≠ 0 → ∀ (r : R4), r.2.2.2 = e → EvP (fun k => (incunableref25_books_list.f k l d p2 (many + 1) e).bind fun t3 => if (o.length + 1) * 48 ≤ 140737488355328 then incunableref25_books_list.l0 k l (d - 1) (o ++ [⟨strOfNums (sl l g.2.1 (g.2.1 + g.1)), v, t3.1⟩]) n (i + 1) t3.2.1 t3.2.2.1 t3.2.2.2 else none) (RelL l d o (n - i) pos many r) := by
        intro e v p2 he r hr
        refine EvP.bind (ref_ferr l d p2 (many + 1) e he) (fun t3 ht3 => ?_)
        rw [ht3]
        exact EvP.pos (by omega) (EvP.mono (ref_err l (d - 1) _ _ _ _ _ e he) (fun q hq => ⟨hr.trans hq.symm, fun h => absurd (hr.symm.trans h) he⟩))
      refine EvP.bind (sz_prog hg2 1 1000) (fun t ht => ?_)
      rw [ht]
      clear ht
      have bad2 : ∀ (s : ByteArray) (p v : Int) (e : Int), e ≠ 0 → ∀ {P : R4 → Prop}, (∀ r : R4, r.2.2.2 = e → P r) → EvP (fun k => (note_reader_list.f k l (d + 1) p (many + 1) e).bind fun t3 => if (o.length + 1) * 48 ≤ 140737488355328 then note_reader_list.l0 k l d (o ++ [⟨s, v, t3.1⟩]) (n - i - 1) t3.2.1 t3.2.2.1 t3.2.2.2 else none) P := by
        intro s p v e he P hP
        refine EvP.bind (prog_ferr l (d + 1) p (many + 1) e he) (fun t3 ht3 => ?_)
        rw [ht3]
        exact EvP.pos (by omega) (EvP.mono (prog_err l d _ _ _ _ e he) (fun r hr => hP r hr))
      rcases hf2 with hf2 | ⟨k1, k2, k3, k4, k5, k6⟩
      · rw [if_neg hf2]
        refine bad2 _ _ _ _ hf2 (fun r hr => ref2 ?_)
        refine EvP.bind (sz_ref hg2 1000) (fun t ht => ?_)
        rw [ht, if_neg hf2, if_neg hf2]
        exact refB _ _ _ hf2 r hr
      rw [if_pos k1]
      by_cases c6 : g2.1 < 1
      · rw [if_pos c6]
        refine bad2 _ _ _ _ n30 (fun r hr => ref2 ?_)
        refine EvP.bind (sz_ref hg2 1000) (fun t ht => ?_)
        rw [ht, if_pos k1, if_neg (by omega), if_pos rfl, if_pos c6]
        exact refB _ _ _ n30 r hr
      rw [if_neg c6]
      by_cases c7 : g2.1 > 1000
      · rw [if_pos c7]
        refine bad2 _ _ _ _ n30 (fun r hr => ref2 ?_)
        refine EvP.bind (sz_ref hg2 1000) (fun t ht => ?_)
        rw [ht, if_pos k1, if_pos c7, if_neg n30]
        exact refB _ _ _ n30 r hr
      rw [if_neg c7]
      have kids := getsF l hb hL (d + 1) g2.2.1 (many + 1) (by omega) k5 (by omega) (by omega) (fun n' p' a1 a2 a3 a4 => by
        have := getsL N l hb hL (d + 1) [] n' 0 p' (many + 1) (by omega) (by omega) (by omega) (by omega) a1 a2 (by omega) a4 (by omega) (by omega) (by simp only [List.length_nil]; omega)
        rw [Int.sub_zero] at this
        exact this)
      rw [show d + 1 - 1 = d by omega] at kids
      refine EvP.bind kids (fun r3 hr3 => EvP.pos (by omega) ?_)
      by_cases c8 : r3.2.2.2 = 0
      case neg =>
        refine EvP.mono (prog_err l d _ _ _ _ _ c8) (fun r hr => ref2 ?_)
        refine EvP.bind (sz_ref hg2 1000) (fun t ht => ?_)
        rw [ht, if_pos k1, if_neg c7, if_pos rfl, if_neg c6]
        refine EvP.bind hr3 (fun q3 hq3 => ?_)
        rw [← hq3.1]
        exact EvP.pos (by omega) (EvP.mono (ref_err l (d - 1) _ _ _ _ _ _ c8) (fun q hq => ⟨hr.trans hq.symm, fun h => absurd (hr.symm.trans h) c8⟩))
      obtain ⟨q3, hq3, hx3⟩ := hr3
      obtain ⟨e0, ⟨f1, f2, f3, f4, f5, f6⟩, f7⟩ := hx3.2 c8
      rw [c8]
      have rest := getsL N l hb hL d (o ++ [⟨strOfNums (sl l g.2.1 (g.2.1 + g.1)), g2.1, r3.1⟩]) n (i + 1) r3.2.1 r3.2.2.1 (by omega) hd0 hd1 (by omega) (by omega) hn (by omega) f6 (by omega) f3 (by simp only [List.length_append, List.length_singleton]; omega)
      rw [show n - (i + 1) = n - i - 1 by omega] at rest
      refine EvP.mono rest (fun r hr => ref2 ?_)
      refine EvP.bind (sz_ref hg2 1000) (fun t ht => ?_)
      rw [ht, if_pos k1, if_neg c7, if_pos rfl, if_neg c6]
      refine EvP.bind (Q := (· = r3)) ⟨q3, hq3, e0.symm⟩ (fun q3' hq3' => ?_)
      rw [hq3', c8]
      refine EvP.pos (by omega) (EvP.mono hr (fun q hq => ⟨hq.1, fun h => ?_⟩))
      obtain ⟨e1, xs, e2, e3, ⟨j1, j2, j3, j4, j5, j6⟩, j7⟩ := hq.2 h
      have bT : bytesOf (strOfNums (sl l g.2.1 (g.2.1 + g.1))) = sl l g.2.1 (g.2.1 + g.1) := bytesOf_strOfNums (fun y hy => hb y (sl_mem hy))
      have sT : ((strOfNums (sl l g.2.1 (g.2.1 + g.1))).size : Int) = g.1 := by
        have := bytesOf_len (strOfNums (sl l g.2.1 (g.2.1 + g.1)))
        rw [bT] at this
        have := sl_len l g.2.1 (g.2.1 + g.1) (by omega) (by omega) (by omega)
        omega
      refine ⟨e1, ⟨strOfNums (sl l g.2.1 (g.2.1 + g.1)), g2.1, r3.1⟩ :: xs, by rw [e2]; simp only [List.append_assoc, List.singleton_append], by simp only [List.length_cons]; omega, ⟨?_, ?_, j3, ?_, by omega, j6⟩, ?_⟩
      · rw [okL, okO_kids]
        simp only [Bool.and_eq_true, decide_eq_true_eq]
        exact ⟨⟨⟨⟨by omega, by omega⟩, by omega⟩, f1⟩, j1⟩
      · rw [cntL, cntO_kids]
        dsimp only
        omega
      · rw [dpL, dpO_kids]
        dsimp only
        omega
      · rw [beL, byO_kids, ← j7]
        show _ = sz25 ((strOfNums (sl l g.2.1 (g.2.1 + g.1))).size : Int) ++ bytesOf (strOfNums (sl l g.2.1 (g.2.1 + g.1))) ++ sz25 g2.1 ++ (sz25 (r3.1.length : Int) ++ beL r3.1) ++ sl l r3.2.1 r.2.1
        rw [← f7, sT, bT, ← h6 (by omega), ← k6 (by omega), sl_app l pos _ _ hp0 (by omega) (by omega) (by omega), sl_app l pos _ _ hp0 (by omega) (by omega) (by omega), sl_app l pos _ _ hp0 (by omega) f5 f6, sl_app l pos _ _ hp0 (by omega) j5 j6]
    · refine EvP.ret ?_
      refine EvP.step (fun k => by rw [incunableref25_books_list.l0]) (EvP.pos rfl (EvP.neg (by omega) (EvP.ret ⟨rfl, fun _ => ⟨rfl, [], by simp, by simp only [List.length_nil]; omega, ⟨by simp [okL], by simp [cntL], hm1, by simp [dpL]; omega, by show pos ≤ pos; omega, hp1⟩, ?_⟩⟩)))
      show sl l pos pos = _
      rw [sl_nil, beL]

theorem gets_ev (l : List Int) (hb : Byt l) (hL : l.length ≤ 6000) : EvP (fun k => note_GetOutlines.f k l) (fun r => EvP (fun k => incunableref25_GetOutlines.f k l) (fun q => r = q ∧ (r.2 = 0 → okL r.1 = true ∧ cntL r.1 ≤ 400 ∧ dpL r.1 ≤ 20 ∧ l = sz25 (r.1.length : Int) ++ beL r.1) ∧ (r.2 ≠ 0 → r.1 = []))) := by
  have h := getsF l hb hL 1 0 0 (by omega) (by omega) (by omega) (by omega) (fun n' p' a1 a2 a3 a4 => by
    have := getsL 402 l hb hL 1 [] n' 0 p' 0 (by omega) (by omega) (by omega) (by omega) a1 a2 (by omega) a4 (by omega) (by omega) (by simp only [List.length_nil]; omega)
    rw [Int.sub_zero] at this
    exact this)
  rw [Int.sub_self] at h
  refine EvP.bind h (fun t ht => ?_)
  have ref : ∀ {P : List S61 × Int → Prop}, (∀ q, RelF l 1 0 0 t q → EvP (fun k => if q.2.2.2 = 0 then (if q.2.1 ≠ (l.length : Int) then some (([] : List S61), 3) else some (q.1, 0)) else some (([] : List S61), q.2.2.2)) P) → EvP (fun k => incunableref25_GetOutlines.f k l) P := fun h => EvP.bind ht h
  refine EvP.ite (fun c1 => ?_) (fun c1 => ?_)
  · refine EvP.ite (fun c2 => EvP.ret (ref (fun q hq => ?_))) (fun c2 => EvP.ret (ref (fun q hq => ?_)))
    · obtain ⟨e1, e2, e3⟩ := hq.2 c1
      rw [← e1]
      exact EvP.pos c1 (EvP.pos (by omega) (EvP.ret ⟨rfl, fun h => absurd h n30, fun _ => rfl⟩))
    · obtain ⟨e1, ⟨f1, f2, f3, f4, f5, f6⟩, e3⟩ := hq.2 c1
      rw [← e1]
      have e4 : t.2.1 = (l.length : Int) := by omega
      refine EvP.pos c1 (EvP.neg (by omega) (EvP.ret ⟨rfl, fun _ => ⟨f1, by show cntL t.1 ≤ 400; omega, by show dpL t.1 ≤ 20; omega, ?_⟩, fun h => absurd rfl h⟩))
      rw [e4, sl_all] at e3
      exact e3
  · refine EvP.ret (ref (fun q hq => ?_))
    have hn : q.2.2.2 ≠ 0 := fun h => c1 (hq.1.trans h)
    rw [hq.1]
    exact EvP.neg hn (EvP.ret ⟨rfl, fun h => absurd h hn, fun _ => rfl⟩)

theorem Sane25_is : EvP (fun k => incunablelaw25_Sane.f k) (· = true) :=
  ⟨true, Ev.of (fun k => incunablelaw25_Sane.mono k) (k := 40) (by decide +kernel), rfl⟩

theorem sameOut_ev : ∀ (n : Nat) (l : List S61), cntL l < n → cntL l ≤ 1000000 → EvP (fun k => incunableref25_SameOutlines.f k l l) (· = true)
  | 0, _, h, _ => by omega
  | n + 1, l, hn, hc => by
    refine EvP.step (fun k => by rw [incunableref25_SameOutlines.f]) (EvP.pos rfl ?_)
    refine EvP.up (L := fun k i (s : Unit) => incunableref25_SameOutlines.l0 k l l i) (fun i _ => 0 ≤ i) l.length ?_ 0 () (by omega) (by omega)
    intro i s i0 hin ih
    have hlen := cntL_le l
    refine EvP.step (fun k => by rw [incunableref25_SameOutlines.l0]) ?_
    refine EvP.ite (fun c1 => ?_) (fun c1 => EvP.ret rfl)
    have hk := cnt_kid l i i0 c1
    refine EvP.pos i0 (EvP.pos c1 (EvP.pos rfl (EvP.pos rfl ?_)))
    refine EvP.bind (sameOut_ev n (rd_T61 l i).f2 (by omega) (by omega)) (fun r hr => ?_)
    refine EvP.pos hr ?_
    rw [w64 (x := i + 1) (by omega) (by omega)]
    exact ih () c1 (by omega)
theorem cntL_foL : ∀ (n : Nat) (l : List S61), cntL l < n → cntL (foL l) = cntL l
  | 0, _, h => by omega
  | n + 1, [], _ => by simp [foL]
  | n + 1, x :: xs, h => by
    have e1 := cntO_kids x
    simp only [cntL] at h
    have h1 := cntL_foL n x.f2 (by omega)
    have h2 := cntL_foL n xs (by omega)
    have app : ∀ (a b : List S61), cntL (a ++ b) = cntL a + cntL b := by
      intro a b
      induction a with
      | nil => simp [cntL]
      | cons y ys ih => simp [cntL, ih]; omega
    rw [foL, foO_kids, app, cntL, h1, h2, cntL, e1]
    simp [cntO, cntL]

theorem NoteGets : incunablelaw25_NoteGets.Pure := by
  intro l hg
  have hb := wf_byt hg.2.2
  refine EvP.rounds ?_
  refine EvP.ite (fun c => EvP.bind Sane25_is (fun r hr => EvP.ret hr)) (fun c => ?_)
  have hL : l.length ≤ 6000 := by omega
  refine EvP.bind (gets_ev l hb hL) (fun r hr => EvP.bind hr (fun q hq => ?_))
  obtain ⟨e1, e2, e3⟩ := hq
  rw [← e1]
  refine EvP.pos rfl ?_
  by_cases c1 : r.2 = 0
  · obtain ⟨f1, f2, f3, f4⟩ := e2 c1
    have hx := cntL_le r.1
    have hgl : GL r.1 := ⟨by omega, f1, f2⟩
    refine EvP.bind (sameOut_ev (cntL r.1 + 1) r.1 (by omega) (by omega)) (fun s hs => ?_)
    rw [hs]
    refine EvP.step (fun k => by rw [incunablelaw25_NoteGets.j0]) (EvP.neg (by decide) (EvP.pos c1 ?_))
    have put : EvP (fun k => note_PutOutlines.f k r.1) (· = (l, 0)) := by
      refine EvP.bind (valid_ev r.1 hgl) (fun v hv => EvP.pos (hv.2 ⟨f1, f2, f3⟩) ?_)
      refine EvP.bind (put_ev (cntL r.1 + 1) r.1 (by omega) f2 f1) (fun z hz => EvP.ret ?_)
      rw [hz, ← f4]
    refine EvP.bind put (fun z hz => ?_)
    rw [hz]
    refine EvP.pos rfl (EvP.bindv (show incunableref01_SameBytes.f l l = some true by simp [incunableref01_SameBytes.f]) (EvP.pos rfl ?_))
    exact EvP.bind Sane25_is (fun r hr => EvP.ret hr)
  · rw [e3 c1]
    refine EvP.bind (sameOut_ev 1 [] (by simp [cntL]) (by simp [cntL])) (fun s hs => ?_)
    rw [hs]
    refine EvP.step (fun k => by rw [incunablelaw25_NoteGets.j0]) (EvP.neg (by decide) (EvP.neg c1 ?_))
    exact EvP.bind Sane25_is (fun r hr => EvP.ret hr)

end Go.Proofs.YtacdchogjpeffaaDoor.Pure
