/- Parse: which bitmap any text is, and that its text is this text -/
import Derived.Test.YtgcjhpcegmblgaaDoorPBitmapParsesx5
import Derived.Test.YtgcjhpcegmblgaaDoorQBase
namespace Go.Proofs.YtgcjhpcegmblgaaDoor.Pure
open Go.RowKit Go.Proofs.YtgcjhpcegmblgaaDoor.PBitmapParses Go.Proofs.YtgcjhpcegmblgaaDoorW.PrintWords Go.Proofs.YtgcjhpcegmblgaaDoorW.PrintLast Go.Proofs.YtgcjhpcegmblgaaDoorW.PrintMore Go.Proofs.YtgcjhpcegmblgaaDoorW.Pu
set_option linter.unusedVariables false
set_option linter.unusedSimpArgs false
/-- The numbers of a list are those of bytes. -/
def Byt (p : List Int) : Prop := ∀ x ∈ p, 0 ≤ x ∧ x ≤ 255
theorem val_byt {w h : Int} {p : List Int} (v : Val w h p) : Byt p := fun x hx => ⟨(v.2.2.2.2.2.2 x hx).1, by have := (v.2.2.2.2.2.2 x hx).2; omega⟩

theorem wf_byt {p : List Int} (h : ∀ y ∈ p, (Lit.int .u8 y).wf = true) : Byt p := fun x hx => by
  have h1 : (decide (IntKind.u8.min ≤ x) && decide (x ≤ IntKind.u8.max)) = true := h x hx
  obtain ⟨a, b⟩ := Bool.and_eq_true_iff.mp h1
  exact ⟨of_decide_eq_true a, of_decide_eq_true b⟩
theorem wf_i64 {x : Int} (h : (Lit.int .i64 x).wf = true) : -9223372036854775808 ≤ x ∧ x ≤ 9223372036854775807 := by
  have h1 : (decide (IntKind.i64.min ≤ x) && decide (x ≤ IntKind.i64.max)) = true := h
  obtain ⟨a, b⟩ := Bool.and_eq_true_iff.mp h1
  exact ⟨of_decide_eq_true a, of_decide_eq_true b⟩

theorem indexByte_row : ∀ (r t : List UInt8), 10 ∉ r → Go.Lib.indexByte (r ++ 10 :: t) 10 = (r.length : Int)
  | [], t, _ => by simp [Go.Lib.indexByte]
  | c :: r, t, h => by
    have hc : (c == 10) = false := by
      rw [beq_eq_false_iff_ne]; rintro rfl; exact h List.mem_cons_self
    have ih := indexByte_row r t (fun x => h (List.mem_cons_of_mem _ x))
    simp only [List.cons_append, Go.Lib.indexByte, hc, ih]
    rw [if_neg (by simp), if_neg (by rw [beq_iff_eq]; omega)]
    simp
theorem indexByte_none : ∀ (r : List UInt8), 10 ∉ r → Go.Lib.indexByte r 10 = -1
  | [], _ => rfl
  | c :: r, h => by
    have hc : (c == 10) = false := by
      rw [beq_eq_false_iff_ne]; rintro rfl; exact h List.mem_cons_self
    have ih := indexByte_none r (fun x => h (List.mem_cons_of_mem _ x))
    simp [Go.Lib.indexByte, hc, ih]
theorem splitK_rows : ∀ (rows : List (List UInt8)) (r : List UInt8), 10 ∉ r → (∀ q ∈ rows, 10 ∉ q) → Go.Lib.splitK [10] 0 rows.length (r ++ rows.flatMap (10 :: ·)) = r :: rows
  | [], r, _, _ => by simp [Go.Lib.splitK]
  | q :: rows, r, h, hq => by
    have ih := splitK_rows rows q (hq q List.mem_cons_self) (fun x hx => hq x (List.mem_cons_of_mem _ hx))
    have e : r ++ (q :: rows).flatMap (10 :: ·) = r ++ 10 :: (q ++ rows.flatMap (10 :: ·)) := by simp
    rw [e, List.length_cons, Go.Lib.splitK, Go.Lib.index_one, indexByte_row _ _ h, if_neg (by rw [beq_iff_eq]; omega)]
    have e2 : ((r.length : Int)).toNat = r.length := by omega
    rw [e2, Nat.add_zero, List.take_left, List.drop_append]
    have e3 : r.drop (r.length + ([10] : List UInt8).length) = ([] : List UInt8) := List.drop_of_length_le (by simp)
    have e4 : r.length + ([10] : List UInt8).length - r.length = 1 := by simp
    rw [e4, e3, List.nil_append, List.drop_succ_cons, List.drop_zero, ih]
theorem count_rows : ∀ (rows : List (List UInt8)) (r : List UInt8), 10 ∉ r → (∀ q ∈ rows, 10 ∉ q) → (r ++ rows.flatMap (10 :: ·)).count 10 = rows.length
  | [], r, h, _ => by simp [List.count_eq_zero.2 h]
  | q :: rows, r, h, hq => by
    have ih := count_rows rows q (hq q List.mem_cons_self) (fun x hx => hq x (List.mem_cons_of_mem _ hx))
    have e : r ++ (q :: rows).flatMap (10 :: ·) = r ++ 10 :: (q ++ rows.flatMap (10 :: ·)) := by simp
    rw [e, List.count_append, List.count_cons_self, ih, List.count_eq_zero.2 h, List.length_cons]
    omega
theorem rows_of : ∀ s : List UInt8, ∃ r rows, 10 ∉ r ∧ (∀ q ∈ rows, 10 ∉ q) ∧ s = r ++ List.flatMap (10 :: ·) rows
  | [] => ⟨[], [], by simp, by simp, rfl⟩
  | c :: s => by
    obtain ⟨r, rows, h, hq, rfl⟩ := rows_of s
    by_cases e : c = 10
    · subst e
      refine ⟨[], r :: rows, by simp, ?_, by simp⟩
      intro q x
      rcases List.mem_cons.1 x with x | x
      · rw [x]; exact h
      · exact hq q x
    · refine ⟨c :: r, rows, ?_, hq, by simp⟩
      intro x
      rcases List.mem_cons.1 x with x | x
      · exact e x.symm
      · exact h x
theorem split_rows (s : ByteArray) {r : List UInt8} {rows : List (List UInt8)} (h : 10 ∉ r) (hq : ∀ q ∈ rows, 10 ∉ q) (e : s.data.toList = r ++ rows.flatMap (10 :: ·)) :
    (Go.Lib.splitB ⟨#[10]⟩ 0 (Go.Lib.countB s ⟨#[10]⟩) s).map (·.data.toList) = r :: rows := by
  rw [Go.Lib.splitB_data]
  have hc : Go.Lib.countB s ⟨#[10]⟩ = rows.length := by
    show Go.Lib.count s.data.toList [10] = _
    rw [Go.Lib.count_one, e, count_rows _ _ h hq]
  rw [hc, e]
  exact splitK_rows _ _ h hq
theorem join_rows (r : List UInt8) (rows : List (List UInt8)) : (r ++ rows.flatMap (10 :: ·)) ++ [10] = (r :: rows).flatMap (· ++ [10]) := by
  induction rows generalizing r with
  | nil => simp
  | cons q rows ih =>
    have := ih q
    simp only [List.flatMap_cons] at this ⊢
    rw [← this]
    simp
theorem dropW_nil (p : UInt8 → Bool) : ∀ l : List UInt8, l.dropWhile p = [] ↔ ∀ x ∈ l, p x = true
  | [] => by simp
  | c :: l => by
    rw [List.dropWhile_cons]
    by_cases h : p c = true
    · rw [if_pos h, dropW_nil p l]; simp [h]
    · rw [if_neg h]; simp [h]
theorem takeW_mem (p : UInt8 → Bool) : ∀ (l : List UInt8) (x : UInt8), x ∈ l.takeWhile p → p x = true
  | [], x, h => by simp at h
  | c :: l, x, h => by
    rw [List.takeWhile_cons] at h
    by_cases hc : p c = true
    · rw [if_pos hc] at h
      rcases List.mem_cons.1 h with e | e
      · rw [e]; exact hc
      · exact takeW_mem p l x e
    · rw [if_neg hc] at h; simp at h
theorem trim_nil (l : List UInt8) : Go.Lib.trimS l [46, 35] = [] ↔ ∀ c ∈ l, c = 46 ∨ c = 35 := by
  have hp : ∀ c : UInt8, ([46, 35] : List UInt8).contains c = true ↔ c = 46 ∨ c = 35 := fun c => by simp
  unfold Go.Lib.trimS Go.Lib.trimLeftS Go.Lib.trimRightS
  rw [dropW_nil]
  constructor
  · intro h c hc
    have e := List.takeWhile_append_dropWhile (p := (([46, 35] : List UInt8).contains ·)) (l := l.reverse)
    have hc' : c ∈ l.reverse := List.mem_reverse.2 hc
    rw [← e] at hc'
    rcases List.mem_append.1 hc' with x | x
    · exact (hp c).1 (takeW_mem _ _ _ x)
    · exact (hp c).1 (h c (List.mem_reverse.2 x))
  · intro h c hc
    have hc' := List.mem_reverse.1 hc
    exact (hp c).2 (h c (List.mem_reverse.1 ((List.dropWhile_sublist _).mem hc')))
theorem bt_list (b : ByteArray) (i : Nat) (h : i < b.data.toList.length) : bt b (i : Int) = (b.data.toList[i].toNat : Int) := by
  have h' : i < b.size := by rw [Go.Lib.size_eq]; exact h
  unfold bt
  rw [dif_pos (show ((i : Int)).toNat < b.size from h')]
  rfl
def px (c : UInt8) : Int := if c = 35 then 1 else 0
def okRow (w : Nat) (r : List UInt8) : Prop := r.length = w ∧ ∀ c ∈ r, c = 46 ∨ c = 35
instance (w : Nat) (r : List UInt8) : Decidable (okRow w r) := by unfold okRow; exact inferInstance
def err3 : Int × Int × List Int × Int := (0, 0, [], 3)
def parseR (R : List (List UInt8)) : Int × Int × List Int × Int :=
  if ∀ r ∈ R, okRow (R.headD []).length r then (if Sid ((R.headD []).length : Int) (R.length : Int) then (((R.headD []).length : Int), (R.length : Int), R.flatMap (·.map px), 0) else (0, 0, [], 4)) else err3

def refRun : List UInt8 → Int → Int → Int → List Int → Int × Int × List Int × Int
  | [], row, W, H, pix => if row > 0 then err3 else if Sid W H then (W, H, pix, 0) else (0, 0, [], 4)
  | c :: t, row, W, H, pix => if c = 46 then refRun t (row + 1) W H (pix ++ [0]) else if c = 35 then refRun t (row + 1) W H (pix ++ [1]) else if c = 10 then (if H > 0 then (if row = W then refRun t 0 row (H + 1) pix else err3) else refRun t 0 row (H + 1) pix) else err3
theorem refRun_good (t : List UInt8) (W H : Int) : ∀ (r : List UInt8) (row : Int) (pix : List Int), (∀ c ∈ r, c = 46 ∨ c = 35) → refRun (r ++ t) row W H pix = refRun t (row + r.length) W H (pix ++ r.map px)
  | [], row, pix, _ => by simp
  | c :: r, row, pix, h => by
    have ih := fun row pix => refRun_good t W H r row pix (fun x hx => h x (List.mem_cons_of_mem _ hx))
    rw [List.cons_append, refRun]
    rcases h c List.mem_cons_self with e | e
    · rw [if_pos e, ih, e]
      simp only [List.map_cons, List.length_cons, List.append_assoc, List.singleton_append]
      congr 1
      omega
    · rw [e, if_neg (by decide), if_pos rfl, ih]
      simp only [List.map_cons, List.length_cons, List.append_assoc, List.singleton_append]
      congr 1
      omega
theorem refRun_bad (t : List UInt8) (W H : Int) : ∀ (r : List UInt8) (row : Int) (pix : List Int), 10 ∉ r → ¬ (∀ c ∈ r, c = 46 ∨ c = 35) → refRun (r ++ t) row W H pix = err3
  | [], row, pix, _, h => absurd (by simp) h
  | c :: r, row, pix, h10, h => by
    have h10' : 10 ∉ r := fun x => h10 (List.mem_cons_of_mem _ x)
    have hc : c ≠ 10 := fun x => h10 (by rw [x]; exact List.mem_cons_self)
    rw [List.cons_append, refRun]
    have rest : (c = 46 ∨ c = 35) → ¬ (∀ c ∈ r, c = 46 ∨ c = 35) := by
      intro e x
      refine h (fun y hy => ?_)
      rcases List.mem_cons.1 hy with q | q
      · rw [q]; exact e
      · exact x y q
    by_cases e : c = 46
    · rw [if_pos e]; exact refRun_bad t W H r _ _ h10' (rest (.inl e))
    · rw [if_neg e]
      by_cases e2 : c = 35
      · rw [if_pos e2]; exact refRun_bad t W H r _ _ h10' (rest (.inr e2))
      · rw [if_neg e2, if_neg hc]
theorem refRun_rows : ∀ (rows : List (List UInt8)) (w : Nat) (H : Int) (pix : List Int), H > 0 → (∀ r ∈ rows, 10 ∉ r) →
    refRun (rows.flatMap (· ++ [10])) 0 (w : Int) H pix = if ∀ r ∈ rows, okRow w r then (if Sid (w : Int) (H + rows.length) then ((w : Int), H + rows.length, pix ++ rows.flatMap (·.map px), 0) else (0, 0, [], 4)) else err3
  | [], w, H, pix, hH, _ => by
    simp [refRun]
  | r :: rows, w, H, pix, hH, h => by
    have ih := refRun_rows rows w (H + 1) (pix ++ r.map px) (by omega) (fun q hq => h q (List.mem_cons_of_mem _ hq))
    have h10 := h r List.mem_cons_self
    rw [List.flatMap_cons, List.append_assoc]
    by_cases hv : ∀ c ∈ r, c = 46 ∨ c = 35
    · rw [refRun_good _ _ _ r _ _ hv, List.singleton_append, refRun, if_neg (by decide), if_neg (by decide), if_pos rfl, if_pos hH]
      by_cases hw : r.length = w
      · rw [if_pos (by omega), show (0 : Int) + (r.length : Int) = (w : Int) by omega, ih]
        have e : (∀ q ∈ r :: rows, okRow w q) ↔ ∀ q ∈ rows, okRow w q := by
          constructor
          · exact fun x q hq => x q (List.mem_cons_of_mem _ hq)
          · intro x q hq
            rcases List.mem_cons.1 hq with y | y
            · rw [y]; exact ⟨hw, hv⟩
            · exact x q y
        have e2 : H + 1 + (rows.length : Int) = H + ((r :: rows).length : Int) := by simp; omega
        rw [e2]
        by_cases q : ∀ q ∈ rows, okRow w q
        · rw [if_pos q, if_pos (e.2 q)]
          simp
        · rw [if_neg q, if_neg (fun x => q (e.1 x))]
      · rw [if_neg (by omega), if_neg]
        intro x
        exact hw (x r List.mem_cons_self).1
    · rw [refRun_bad _ _ _ r _ _ h10 hv, if_neg]
      intro x
      exact hv (x r List.mem_cons_self).2
theorem refRun_first (r : List UInt8) (rows : List (List UInt8)) (h : ∀ q ∈ r :: rows, 10 ∉ q) : refRun ((r :: rows).flatMap (· ++ [10])) 0 0 0 [] = parseR (r :: rows) := by
  have h10 := h r List.mem_cons_self
  have e2 : (1 : Int) + (rows.length : Int) = ((r :: rows).length : Int) := by simp; omega
  unfold parseR
  show _ = if ∀ q ∈ r :: rows, okRow r.length q then _ else _
  rw [List.flatMap_cons, List.append_assoc]
  by_cases hv : ∀ c ∈ r, c = 46 ∨ c = 35
  · rw [refRun_good _ _ _ r _ _ hv, List.singleton_append, refRun, if_neg (by decide), if_neg (by decide), if_pos rfl, if_neg (by decide), show (0 : Int) + (r.length : Int) = (r.length : Int) by omega, show (0 : Int) + 1 = 1 by rfl,
      refRun_rows rows r.length 1 _ (by decide) (fun q hq => h q (List.mem_cons_of_mem _ hq)), e2]
    have e : (∀ q ∈ r :: rows, okRow r.length q) ↔ ∀ q ∈ rows, okRow r.length q := by
      constructor
      · exact fun x q hq => x q (List.mem_cons_of_mem _ hq)
      · intro x q hq
        rcases List.mem_cons.1 hq with y | y
        · rw [y]; exact ⟨rfl, hv⟩
        · exact x q y
    by_cases q : ∀ q ∈ rows, okRow r.length q
    · rw [if_pos q, if_pos (e.2 q)]
      simp
    · rw [if_neg q, if_neg (fun x => q (e.1 x))]
  · rw [refRun_bad _ _ _ r _ _ h10 hv, if_neg]
    intro x
    exact hv (x r List.mem_cons_self).2
theorem refRun_open : ∀ (t : List UInt8) (row W H : Int) (pix : List Int), 0 ≤ row → (t = [] → row > 0) → (∀ s, t ≠ s ++ [10]) → refRun t row W H pix = err3
  | [], row, W, H, pix, _, h, _ => by rw [refRun, if_pos (h rfl)]
  | c :: t, row, W, H, pix, h0, _, h => by
    have ht : ∀ s, t ≠ s ++ [10] := fun s e => h (c :: s) (by rw [e]; rfl)
    rw [refRun]
    by_cases e : c = 46
    · rw [if_pos e]; exact refRun_open t _ _ _ _ (by omega) (fun _ => by omega) ht
    · rw [if_neg e]
      by_cases e2 : c = 35
      · rw [if_pos e2]; exact refRun_open t _ _ _ _ (by omega) (fun _ => by omega) ht
      · rw [if_neg e2]
        by_cases e3 : c = 10
        · have hne : t ≠ [] := fun x => h [] (by rw [x, e3]; rfl)
          rw [if_pos e3]
          by_cases e4 : H > 0
          · rw [if_pos e4]
            by_cases e5 : row = W
            · rw [if_pos e5]; exact refRun_open t _ _ _ _ (by omega) (fun x => absurd x hne) ht
            · rw [if_neg e5]
          · rw [if_neg e4]; exact refRun_open t _ _ _ _ (by omega) (fun x => absurd x hne) ht
        · rw [if_neg e3]
def parseT (t : List UInt8) : Int × Int × List Int × Int := refRun t 0 0 0 []
theorem parseT_rows (r : List UInt8) (rows : List (List UInt8)) (h : ∀ q ∈ r :: rows, 10 ∉ q) : parseT ((r :: rows).flatMap (· ++ [10])) = parseR (r :: rows) := refRun_first r rows h

def chr (v : Int) : UInt8 := if v = 1 then 35 else 46
def rowsOf (w h : Int) (p : List Int) : List (List UInt8) := (List.range h.toNat).map fun (y : Nat) => (List.range w.toNat).map fun (x : Nat) => chr (pix w h p (x : Int) (y : Int))
def fmtL (w h : Int) (p : List Int) : List UInt8 := (rowsOf w h p).flatMap (· ++ [10])
theorem px_chr {v : Int} (h0 : 0 ≤ v) (h1 : v ≤ 1) : px (chr v) = v := by
  rcases (show v = 0 ∨ v = 1 by omega) with e | e <;> rw [e] <;> decide
theorem chr_ok (v : Int) : chr v = 46 ∨ chr v = 35 := by
  unfold chr; split
  · exact .inr rfl
  · exact .inl rfl
theorem chr_px {c : UInt8} (h : c = 46 ∨ c = 35) : chr (px c) = c := by
  rcases h with e | e <;> rw [e] <;> decide
theorem chr_ne (v : Int) : (10 : UInt8) ≠ chr v := by
  rcases chr_ok v with e | e <;> rw [e] <;> decide
theorem flat_tab (W : Nat) (g : Int → Int → Int) : ∀ H : Nat, (List.range H).flatMap (fun (y : Nat) => (List.range W).map fun (x : Nat) => g (x : Int) (y : Int)) = (List.range (W * H)).map fun (i : Nat) => g ((i : Int) % (W : Int)) ((i : Int) / (W : Int))
  | 0 => by simp
  | H + 1 => by
    rw [List.range_succ, List.flatMap_append, flat_tab W g H, Nat.mul_succ, List.range_add, List.map_append]
    congr 1
    simp only [List.flatMap_cons, List.flatMap_nil, List.append_nil, List.map_map]
    refine List.map_congr_left (fun x hx => ?_)
    have hx' := List.mem_range.1 hx
    have e : ((W * H + x : Nat) : Int) = (H : Int) * (W : Int) + (x : Int) := by
      rw [Nat.mul_comm]; omega
    show _ = g (((W * H + x : Nat) : Int) % (W : Int)) (((W * H + x : Nat) : Int) / (W : Int))
    rw [e, flat_mod (by omega) (by omega), flat_div (by omega) (by omega)]
theorem tab_flat {w h : Int} (hw : 0 ≤ w) (hh : 0 ≤ h) (g : Int → Int → Int) : tab w h g = (List.range h.toNat).flatMap (fun (y : Nat) => (List.range w.toNat).map fun (x : Nat) => g (x : Int) (y : Int)) := by
  rw [flat_tab]
  unfold tab
  have e : (w * h).toNat = w.toNat * h.toNat := by
    rw [Int.toNat_mul hw hh]
  rw [e]
  have e2 : ((w.toNat : Nat) : Int) = w := by omega
  rw [e2]
theorem rowsOf_len (w h : Int) (p : List Int) : (rowsOf w h p).length = h.toNat := by simp [rowsOf]
theorem rowsOf_ok {w h : Int} {p : List Int} {r : List UInt8} (hr : r ∈ rowsOf w h p) : okRow w.toNat r ∧ 10 ∉ r := by
  obtain ⟨y, _, rfl⟩ := List.mem_map.1 hr
  refine ⟨⟨by simp, fun c hc => ?_⟩, fun hc => ?_⟩
  · obtain ⟨x, _, rfl⟩ := List.mem_map.1 hc
    exact chr_ok _
  · obtain ⟨x, _, e⟩ := List.mem_map.1 hc
    exact chr_ne _ e.symm
theorem parse_fmt {w h : Int} {p : List Int} (v : Val w h p) : parseT (fmtL w h p) = if h = 0 then (0, 0, [], 0) else (w, h, p, 0) := by
  have hw := v.1; have hh := v.2.1
  by_cases z : h = 0
  · subst z
    rw [if_pos rfl]
    show parseT ([] : List UInt8) = _
    decide
  · rw [if_neg z]
    have hl := rowsOf_len w h p
    have hne : rowsOf w h p ≠ [] := by intro x; rw [x] at hl; simp at hl; omega
    obtain ⟨r, rows, e⟩ := List.exists_cons_of_ne_nil hne
    have h1 : ∀ q ∈ r :: rows, okRow w.toNat q := fun q hq => (rowsOf_ok (by rw [e]; exact hq)).1
    unfold fmtL
    rw [e, parseT_rows r rows (fun q hq => (rowsOf_ok (by rw [e]; exact hq)).2)]
    have hr : r.length = w.toNat := (h1 r List.mem_cons_self).1
    unfold parseR
    rw [if_pos (by show ∀ q ∈ r :: rows, okRow r.length q; rw [hr]; exact h1)]
    show (if Sid (r.length : Int) ((r :: rows).length : Int) then ((r.length : Int), ((r :: rows).length : Int), _, (0 : Int)) else _) = _
    rw [← e, hl, hr, show ((w.toNat : Nat) : Int) = w by omega, show ((h.toNat : Nat) : Int) = h by omega, if_pos v.sid]
    have ep : (rowsOf w h p).flatMap (·.map px) = p := by
      refine Eq.trans ?_ v.tab.symm
      rw [tab_flat hw hh]
      unfold rowsOf
      rw [List.flatMap_map]
      refine congrArg (fun f => List.flatMap f _) (funext fun y => ?_)
      rw [List.map_map]
      refine List.map_congr_left (fun x _ => ?_)
      have := v.pix01 (x : Int) (y : Int)
      exact px_chr this.1 this.2
    rw [ep]
theorem list_range {α : Type} (l : List α) (d : α) : l = (List.range l.length).map (fun i => l.getD i d) := by
  refine List.ext_getElem (by simp) (fun i h1 h2 => ?_)
  simp [h1]
theorem fmt_parse {t : List UInt8} {w h : Int} {p : List Int} (ht : (∃ s, t = s ++ [10]) ∨ t = []) (e : parseT t = (w, h, p, 0)) : Val w h p ∧ fmtL w h p = t := by
  by_cases z : t = []
  · subst z
    have e0 : parseT [] = (0, 0, [], 0) := by decide
    rw [e0] at e
    simp only [Prod.mk.injEq] at e
    obtain ⟨rfl, rfl, rfl, _⟩ := e
    exact ⟨by unfold Val; simp, rfl⟩
  · rcases ht with ⟨s, rfl⟩ | ht
    · obtain ⟨r, rows, h10, hq, es⟩ := rows_of s
      have hall : ∀ q ∈ r :: rows, 10 ∉ q := by
        intro q x
        rcases List.mem_cons.1 x with y | y
        · rw [y]; exact h10
        · exact hq q y
      have hj : s ++ [10] = (r :: rows).flatMap (· ++ [10]) := by rw [es]; exact join_rows r rows
      rw [hj] at e ⊢
      rw [parseT_rows r rows hall] at e
      generalize hR : r :: rows = R at *
      have hd : (R.headD []).length = r.length := by rw [← hR]; rfl
      unfold parseR at e
      rw [hd] at e
      by_cases q : ∀ x ∈ R, okRow r.length x
      · rw [if_pos q] at e
        by_cases sd : Sid (r.length : Int) (R.length : Int)
        · rw [if_pos sd] at e
          simp only [Prod.mk.injEq, and_true] at e
          obtain ⟨rfl, rfl, rfl⟩ := e
          have eR : R = (List.range R.length).map (fun y => (List.range r.length).map (fun x => (R.getD y []).getD x 46)) := by
            refine List.ext_getElem (by simp) (fun i h1 h2 => ?_)
            have hi := (q _ (List.getElem_mem h1)).1
            simp only [List.getElem_map, List.getElem_range]
            have e2 : R.getD i [] = R[i] := by simp [h1]
            rw [e2, ← hi]
            exact list_range _ _
          let g : Int → Int → Int := fun x y => px ((R.getD y.toNat []).getD x.toNat 46)
          have ep : R.flatMap (·.map px) = tab (r.length : Int) (R.length : Int) g := by
            rw [tab_flat (by omega) (by omega)]
            conv => lhs; rw [eR]
            rw [List.flatMap_map]
            simp only [Int.toNat_natCast]
            refine congrArg (fun f => List.flatMap f _) (funext fun y => ?_)
            rw [List.map_map]
            rfl
          have hg : ∀ x y, 0 ≤ g x y ∧ g x y ≤ 1 := fun x y => by show 0 ≤ px _ ∧ px _ ≤ 1; unfold px; split <;> decide
          rw [ep]
          refine ⟨val_tab sd (fun x y _ _ _ _ => hg x y), ?_⟩
          unfold fmtL
          refine congrArg (List.flatMap (· ++ [10])) ?_
          refine Eq.trans ?_ eR.symm
          unfold rowsOf
          simp only [Int.toNat_natCast]
          refine List.map_congr_left (fun y hy => List.map_congr_left (fun x hx => ?_))
          have hy' := List.mem_range.1 hy; have hx' := List.mem_range.1 hx
          rw [pix_tab, if_pos ⟨by omega, by omega, by omega, by omega⟩]
          show chr (px ((R.getD y []).getD x 46)) = _
          have hry : R.getD y [] = R[y] := by simp [hy']
          have ho := q _ (List.getElem_mem hy')
          rw [hry]
          have hx2 : x < (R[y]).length := by rw [ho.1]; exact hx'
          have hrx : (R[y]).getD x 46 = (R[y])[x] := by simp [hx2]
          rw [hrx]
          exact chr_px (ho.2 _ (List.getElem_mem hx2))
        · rw [if_neg sd] at e
          simp at e
      · rw [if_neg q] at e
        simp [err3] at e
    · exact absurd ht z

instance (w h : Int) (p : List Int) : Decidable (Val w h p) := by unfold Val; exact inferInstance
theorem sid_mul {w h : Int} (hw : 0 ≤ w) (hh : 0 ≤ h) (hw' : w ≤ 200) (hh' : h ≤ 200) : 0 ≤ w * h ∧ w * h ≤ 40000 := by
  have h1 : 0 ≤ w * h := Int.mul_nonneg hw hh
  have h2 : w * h ≤ 200 * h := Int.mul_le_mul_of_nonneg_right hw' hh
  omega

theorem fits_is (w h : Int) : bitmap_fits.f w h = some (decide (Sid w h)) := by
  unfold bitmap_fits.f
  by_cases h1 : 0 ≤ w ∧ 0 ≤ h ∧ w ≤ 200 ∧ h ≤ 200
  · obtain ⟨a, b, c, d⟩ := h1
    have := sid_mul a b c d
    rw [if_pos (by omega), if_pos (by omega), if_pos c, if_pos d, w64 (by omega) (by omega)]
    simp [Sid, a, b, c, d]
  · have h2 : ¬ Sid w h := fun s => h1 ⟨s.1, s.2.1, s.2.2.1, s.2.2.2.1⟩
    simp only [h2, decide_false]
    split
    · split
      · split
        · split
          · omega
          · rfl
        · rfl
      · rfl
    · rfl

theorem Valid_l0 (p : List Int) (hl : (p.length : Int) ≤ 9223372036854775807) : EvP (fun k => bitmap_Valid.l0 k p (p.length : Int) 0) (· = decide (∀ x ∈ p, x ≤ 1)) := by
  refine EvP.up (L := fun k i (_ : Unit) => bitmap_Valid.l0 k p (p.length : Int) i) (fun i _ => 0 ≤ i ∧ ∀ j, 0 ≤ j → j < i → rd p j ≤ 1) p.length ?_ 0 () (by omega) ⟨by omega, fun j _ _ => by omega⟩
  intro i _ ⟨h0, hb⟩ hi ih
  refine EvP.step (fun k => by rw [bitmap_Valid.l0]) ?_
  refine EvP.ite (fun h1 => ?_) (fun h1 => ?_)
  · refine EvP.pos h0 (EvP.pos h1 (EvP.ite (fun h2 => EvP.ret ?_) (fun h2 => ?_)))
    · symm
      rw [decide_eq_false_iff_not]
      intro hall
      have := hall _ (rd_mem h0 h1)
      omega
    · rw [w64 (by omega) (by omega)]
      refine ih () h1 ⟨by omega, fun j hj hj' => ?_⟩
      rcases Int.lt_or_le j i with hji | hji
      · exact hb j hj hji
      · have : j = i := by omega
        subst this
        omega
  · refine EvP.ret ?_
    symm
    rw [decide_eq_true_iff]
    intro x hx
    obtain ⟨n, hn, rfl⟩ := List.getElem_of_mem hx
    have := hb (n : Int) (by omega) (by omega)
    rwa [rd_get p n hn] at this
theorem Valid_is (w h : Int) (p : List Int) (hp : ∀ x ∈ p, 0 ≤ x) (hl : (p.length : Int) ≤ 9223372036854775807) : EvP (fun k => bitmap_Valid.f k w h p) (· = decide (Val w h p)) := by
  unfold bitmap_Valid.f
  refine EvP.bindv (fits_is w h) ?_
  refine EvP.ite (fun h1 => ?_) (fun h1 => ?_)
  · rw [decide_eq_true_iff] at h1
    have hm := sid_mul h1.1 h1.2.1 h1.2.2.1 h1.2.2.2.1
    rw [w64 (by omega) (by omega)]
    refine EvP.step (fun k => by rw [bitmap_Valid.j0]) ?_
    refine EvP.ite (fun h2 => EvP.ret ?_) (fun h2 => ?_)
    · symm
      rw [decide_eq_false_iff_not]
      intro v
      simp [v.2.2.2.2.2.1] at h2
    · refine (Valid_l0 p hl).mono ?_
      rintro r rfl
      have e : (p.length : Int) = w * h := by simpa using h2
      apply decide_eq_decide.mpr
      constructor
      · intro hall
        exact ⟨h1.1, h1.2.1, h1.2.2.1, h1.2.2.2.1, h1.2.2.2.2, e, fun x hx => ⟨hp x hx, hall x hx⟩⟩
      · intro v x hx
        exact (v.2.2.2.2.2.2 x hx).2
  · refine EvP.step (fun k => by rw [bitmap_Valid.j0]) ?_
    refine EvP.pos rfl (EvP.ret ?_)
    symm
    rw [decide_eq_false_iff_not]
    intro v
    exact h1 (decide_eq_true v.sid)

theorem at_is {w h : Int} {p : List Int} (v : Val w h p) (x y : Int) : bitmap_at.f w h p x y = some (pix w h p x y) := by
  unfold bitmap_at.f
  by_cases hc : 0 ≤ x ∧ x < w ∧ 0 ≤ y ∧ y < h
  · have hf := flat_lt hc.1 hc.2.1 hc.2.2.1 hc.2.2.2
    have hm := v.2.2.2.2.1
    have hl := v.2.2.2.2.2.1
    rw [if_neg (by omega), if_neg (by omega), if_neg (by omega), if_neg (by omega)]
    have e : wrap64 (y * w) = y * w := w64 (by omega) (by omega)
    rw [e, w64 (by omega) (by omega), if_pos hf.2.1, if_pos (by omega), pix_in hc.1 hc.2.1 hc.2.2.1 hc.2.2.2]
  · rw [pix_out hc]
    by_cases a : x < 0
    · rw [if_pos a]
    rw [if_neg a]
    by_cases b : y < 0
    · rw [if_pos b]
    rw [if_neg b]
    by_cases c : x ≥ w
    · rw [if_pos c]
    rw [if_neg c, if_pos (by omega)]

def rowP (w h : Int) (p : List Int) (y : Nat) : List UInt8 := (List.range w.toNat).map fun (x : Nat) => chr (pix w h p (x : Int) (y : Int))
def doneP (w h : Int) (p : List Int) (y x : Int) : List UInt8 := (List.range y.toNat).flatMap (fun (v : Nat) => rowP w h p v ++ [10]) ++ (List.range x.toNat).map fun (u : Nat) => chr (pix w h p (u : Int) y)
theorem doneP_zero (w h : Int) (p : List Int) : doneP w h p 0 0 = [] := by simp [doneP]
theorem doneP_step (w h : Int) (p : List Int) {y x : Int} (hy : 0 ≤ y) (hx : 0 ≤ x) : doneP w h p y (x + 1) = doneP w h p y x ++ [chr (pix w h p x y)] := by
  unfold doneP
  have e : (x + 1).toNat = x.toNat + 1 := by omega
  rw [e, List.range_succ, List.map_append, ← List.append_assoc]
  have e2 : ((x.toNat : Nat) : Int) = x := by omega
  simp only [List.map_cons, List.map_nil, e2]
theorem doneP_row (w h : Int) (p : List Int) {y : Int} (hy : 0 ≤ y) : doneP w h p (y + 1) 0 = doneP w h p y w ++ [10] := by
  unfold doneP
  have e : (y + 1).toNat = y.toNat + 1 := by omega
  rw [e, List.range_succ, List.flatMap_append]
  have e2 : ((y.toNat : Nat) : Int) = y := by omega
  simp only [List.flatMap_cons, List.flatMap_nil, List.append_nil, Int.toNat_zero, List.range_zero, List.map_nil, rowP, e2, List.append_assoc]
theorem doneP_end (w h : Int) (p : List Int) : doneP w h p h 0 = fmtL w h p := by
  unfold doneP fmtL rowsOf
  rw [List.flatMap_map]
  simp [rowP]
theorem flatMap_len (f : Nat → List UInt8) (c : Nat) (hf : ∀ v, (f v).length ≤ c) : ∀ n, ((List.range n).flatMap f).length ≤ n * c
  | 0 => by simp
  | n + 1 => by
    have ih := flatMap_len f c hf n
    have := hf n
    rw [List.range_succ, List.flatMap_append, List.length_append, Nat.succ_mul]
    simp only [List.flatMap_cons, List.flatMap_nil, List.append_nil]
    omega
theorem doneP_len {w h : Int} {p : List Int} (v : Val w h p) {y x : Int} (hy : y ≤ h) (hx : x ≤ w) : (doneP w h p y x).length ≤ 40500 := by
  have h1 := v.2.2.1; have h2 := v.2.2.2.1
  have key := flatMap_len (fun (v : Nat) => rowP w h p v ++ [10]) 201 (fun v => by simp [rowP]; omega) y.toNat
  unfold doneP
  rw [List.length_append, List.length_map, List.length_range]
  have : y.toNat * 201 ≤ 200 * 201 := Nat.mul_le_mul_right _ (by omega)
  omega
theorem bt_chr {t : Int} (h0 : 0 ≤ t) (h1 : t ≤ 1) : UInt8.ofNat (bt (⟨#[46, 35]⟩ : ByteArray) t).toNat = chr t ∧ bt (⟨#[46, 35]⟩ : ByteArray) t = ((chr t).toNat : Int) := by
  rcases (show t = 0 ∨ t = 1 by omega) with e | e <;> subst e <;> exact ⟨by decide, by decide⟩
theorem rasterE {σ α : Type} {L0 : Nat → Int → σ → Option α} {L1 : Nat → Int → Int → σ → Option α} {P : α → Prop} (Inv : Int → Int → σ → Prop) (W H : Int) (hW : 0 ≤ W) (hH : 0 ≤ H)
    (h0 : ∀ y s, 0 ≤ y → y < H → Inv y 0 s → EvP (fun k => L1 k y 0 s) P → EvP (fun k => L0 k y s) P)
    (h0' : ∀ s, Inv H 0 s → EvP (fun k => L0 k H s) P)
    (h1 : ∀ y x s, 0 ≤ y → y < H → 0 ≤ x → x < W → Inv y x s → ∃ s', Inv y (x + 1) s' ∧ (EvP (fun k => L1 k y (x + 1) s') P → EvP (fun k => L1 k y x s) P))
    (h1' : ∀ y s, 0 ≤ y → y < H → Inv y W s → ∃ s', Inv (y + 1) 0 s' ∧ (EvP (fun k => L0 k (y + 1) s') P → EvP (fun k => L1 k y W s) P)) :
    ∀ s, Inv 0 0 s → EvP (fun k => L0 k 0 s) P := by
  have row : ∀ (d : Nat) (y x : Int) (s : σ), 0 ≤ y → y < H → 0 ≤ x → x ≤ W → (W - x).toNat = d → Inv y x s → (∀ s', Inv (y + 1) 0 s' → EvP (fun k => L0 k (y + 1) s') P) → EvP (fun k => L1 k y x s) P := by
    intro d
    induction d with
    | zero =>
      intro y x s a b c e hd hi hk
      have : x = W := by omega
      subst this
      obtain ⟨s', hi', hr⟩ := h1' y s a b hi
      exact hr (hk s' hi')
    | succ d ih =>
      intro y x s a b c e hd hi hk
      obtain ⟨s', hi', hr⟩ := h1 y x s a b c (by omega) hi
      exact hr (ih y (x + 1) s' a b (by omega) (by omega) (by omega) hi' hk)
  have col : ∀ (d : Nat) (y : Int) (s : σ), 0 ≤ y → y ≤ H → (H - y).toNat = d → Inv y 0 s → EvP (fun k => L0 k y s) P := by
    intro d
    induction d with
    | zero =>
      intro y s a b hd hi
      have : y = H := by omega
      subst this
      exact h0' s hi
    | succ d ih =>
      intro y s a b hd hi
      exact h0 y s a (by omega) hi (row _ y 0 s a (by omega) (by omega) hW rfl hi (fun s' hi' => ih (y + 1) s' (by omega) (by omega) (by omega) hi'))
  intro s hi
  exact col _ 0 s (by omega) hH rfl hi
theorem Format_is {w h : Int} {p : List Int} (v : Val w h p) (hl : (p.length : Int) ≤ 9223372036854775807) : EvP (fun k => bitmap_Format.f k w h p) (· = (⟨(fmtL w h p).toArray⟩, 0)) := by
  have hw := v.1; have hh := v.2.1; have w2 := v.2.2.1; have h2 := v.2.2.2.1
  unfold bitmap_Format.f
  refine EvP.bind (Valid_is w h p (fun x hx => (v.2.2.2.2.2.2 x hx).1) hl) ?_
  rintro _ rfl
  refine EvP.pos (by simpa using v) ?_
  refine rasterE (L0 := fun k y s => bitmap_Format.l0 k s y w h p) (L1 := fun k y x s => bitmap_Format.l1 k s y x w h p) (fun y x s => s = doneP w h p y x) w h hw hh ?_ ?_ ?_ ?_ [] (doneP_zero w h p).symm
  · intro y s h0 h1 _ k
    exact EvP.step (fun n => by rw [bitmap_Format.l0]) (EvP.pos h1 k)
  · rintro s rfl
    refine EvP.step (fun n => by rw [bitmap_Format.l0]) (EvP.neg (by omega) (EvP.ret ?_))
    rw [doneP_end]
  · rintro y x s a b c d rfl
    refine ⟨_, (doneP_step w h p a c).symm, fun k => ?_⟩
    refine EvP.step (fun n => by rw [bitmap_Format.l1]) (EvP.pos d ?_)
    refine EvP.bindv (at_is v x y) ?_
    have hp := v.pix01 x y
    have hlen := doneP_len v (y := y) (x := x) (by omega) (by omega)
    refine EvP.pos hp.1 (EvP.pos (by omega) (EvP.pos (by omega) ?_))
    rw [w64 (by omega) (by omega), (bt_chr hp.1 hp.2).1]
    exact k
  · rintro y s a b rfl
    have hlen := doneP_len v (y := y) (x := w) (by omega) (by omega)
    refine ⟨_, (doneP_row w h p a).symm, fun k => ?_⟩
    refine EvP.step (fun n => by rw [bitmap_Format.l1]) (EvP.neg (by omega) (EvP.pos (by omega) ?_))
    rw [w64 (by omega) (by omega)]
    exact k
theorem Format_bad {w h : Int} {p : List Int} (v : ¬ Val w h p) (hp : ∀ x ∈ p, 0 ≤ x) (hl : (p.length : Int) ≤ 9223372036854775807) : EvP (fun k => bitmap_Format.f k w h p) (· = (⟨#[]⟩, 30)) := by
  unfold bitmap_Format.f
  refine EvP.bind (Valid_is w h p hp hl) ?_
  rintro _ rfl
  exact EvP.neg (by simpa using v) (EvP.ret rfl)

theorem Sides_is (w h : Int) : incunableref05_Sides.f w h = some (decide (Sid w h)) := by
  unfold incunableref05_Sides.f
  by_cases h1 : 0 ≤ w ∧ 0 ≤ h ∧ w ≤ 200 ∧ h ≤ 200
  · obtain ⟨a, b, c, d⟩ := h1
    have := sid_mul a b c d
    rw [if_pos (by omega), if_pos (by omega), if_pos c, if_pos d, w64 (by omega) (by omega)]
    simp [Sid, a, b, c, d]
  · have h2 : ¬ Sid w h := fun s => h1 ⟨s.1, s.2.1, s.2.2.1, s.2.2.2.1⟩
    simp only [h2, decide_false]
    split
    · split
      · split
        · split
          · omega
          · rfl
        · rfl
      · rfl
    · rfl

theorem refParse_run (b : ByteArray) (hb : b.data.toList.length ≤ 20000) : ∀ (d i : Nat) (row W H : Int) (pix : List Int), i + d = b.data.toList.length → 0 ≤ row → row ≤ i → 0 ≤ H → H ≤ i → pix.length ≤ i →
    EvP (fun k => incunableref05_Parse.l0 k b row (i : Int) W H pix) (· = refRun (b.data.toList.drop i) row W H pix) := by
  have hs : (b.size : Int) = (b.data.toList.length : Int) := by rw [Go.Lib.size_eq]
  intro d
  induction d with
  | zero =>
    intro i row W H pix hi a1 a2 a3 a4 a5
    rw [List.drop_of_length_le (by omega), refRun]
    refine EvP.step (fun k => by rw [incunableref05_Parse.l0]) ?_
    refine EvP.neg (by rw [hs]; omega) ?_
    by_cases h : row > 0
    · exact EvP.pos h (EvP.ret (by rw [if_pos h]; rfl))
    · refine EvP.neg h ?_
      refine EvP.bindv (Sides_is _ _) ?_
      by_cases s : Sid W H
      · exact EvP.pos (by simpa using s) (EvP.ret (by rw [if_neg h, if_pos s]))
      · exact EvP.neg (by simpa using s) (EvP.ret (by rw [if_neg h, if_neg s]))
  | succ d ih =>
    intro i row W H pix hi a1 a2 a3 a4 a5
    have hil : i < b.data.toList.length := by omega
    rw [List.drop_eq_getElem_cons hil, refRun]
    refine EvP.step (fun k => by rw [incunableref05_Parse.l0]) ?_
    refine EvP.pos (by rw [hs]; omega) (EvP.pos (by omega) ?_)
    rw [bt_list b i hil]
    generalize b.data.toList[i] = c
    have e1 : wrap64 ((i : Int) + 1) = ((i + 1 : Nat) : Int) := by rw [w64 (by omega) (by omega)]; omega
    have e2 : wrap64 (row + 1) = row + 1 := w64 (by omega) (by omega)
    have e3 : wrap64 (H + 1) = H + 1 := w64 (by omega) (by omega)
    have cc : ∀ n : Nat, n < 256 → ((c.toNat : Int) = (n : Int) ↔ c = UInt8.ofNat n) := by
      intro n hn
      constructor
      · intro h
        have : c.toNat = n := by omega
        rw [← this]; simp
      · intro h
        rw [h, UInt8.toNat_ofNat']; omega
    have c46 := cc 46 (by decide); have c35 := cc 35 (by decide); have c10 := cc 10 (by decide)
    rw [e1, e2, e3]
    by_cases x : c = 46
    · rw [if_pos x]
      exact EvP.pos (c46.2 x) (EvP.pos (by omega) (ih (i + 1) _ _ _ _ (by omega) (by omega) (by omega) (by omega) (by omega) (by simp; omega)))
    · rw [if_neg x]
      refine EvP.neg (fun y => x (c46.1 y)) ?_
      by_cases x2 : c = 35
      · rw [if_pos x2]
        exact EvP.pos (c35.2 x2) (EvP.pos (by omega) (ih (i + 1) _ _ _ _ (by omega) (by omega) (by omega) (by omega) (by omega) (by simp; omega)))
      · rw [if_neg x2]
        refine EvP.neg (fun y => x2 (c35.1 y)) ?_
        by_cases x3 : c = 10
        · rw [if_pos x3]
          refine EvP.pos (c10.2 x3) ?_
          by_cases x4 : H > 0
          · rw [if_pos x4]
            refine EvP.pos x4 ?_
            by_cases x5 : row = W
            · rw [if_pos x5]
              exact EvP.pos x5 (ih (i + 1) _ _ _ _ (by omega) (by omega) (by omega) (by omega) (by omega) (by omega))
            · rw [if_neg x5]; exact EvP.neg x5 (EvP.ret rfl)
          · rw [if_neg x4]
            exact EvP.neg x4 (ih (i + 1) _ _ _ _ (by omega) (by omega) (by omega) (by omega) (by omega) (by omega))
        · rw [if_neg x3]
          exact EvP.neg (fun y => x3 (c10.1 y)) (EvP.ret rfl)
theorem refParse_is (b : ByteArray) (hb : b.data.toList.length ≤ 20000) : EvP (fun k => incunableref05_Parse.f k b) (· = parseT b.data.toList) := by
  have := refParse_run b hb b.data.toList.length 0 0 0 0 [] (by omega) (by omega) (by omega) (by omega) (by omega) (by simp)
  simpa [incunableref05_Parse.f, parseT] using this

theorem Parse_l1 {P : Int × Int × List Int × Int → Prop} (x6 x25 : List ByteArray) (x26 x27 : Int) (b : ByteArray) (x7 : List Int) (hb : b.data.toList.length ≤ 20000) (hx : x7.length + b.data.toList.length < 140737488355328)
    (hv : ∀ c ∈ b.data.toList, c = 46 ∨ c = 35)
    (hk : EvP (fun k => bitmap_Parse.l0 k x6 (x7 ++ b.data.toList.map px) x25 x26 (wrap64 (x27 + 1))) P) :
    ∀ (d i : Nat), i + d = b.data.toList.length → EvP (fun k => bitmap_Parse.l1 k x6 (x7 ++ (b.data.toList.take i).map px) b x25 x26 x27 (b.size : Int) (i : Int)) P := by
  have hs : (b.size : Int) = (b.data.toList.length : Int) := by rw [Go.Lib.size_eq]
  intro d
  induction d with
  | zero =>
    intro i hi
    refine EvP.step (fun k => by rw [bitmap_Parse.l1]) ?_
    refine EvP.neg (by rw [hs]; omega) ?_
    rw [List.take_of_length_le (by omega)]
    exact hk
  | succ d ih =>
    intro i hi
    have hil : i < b.data.toList.length := by omega
    refine EvP.step (fun k => by rw [bitmap_Parse.l1]) ?_
    refine EvP.pos (by rw [hs]; omega) (EvP.pos (by omega) (EvP.pos (by rw [hs]; omega) ?_))
    have e1 : wrap64 ((i : Int) + 1) = ((i + 1 : Nat) : Int) := by rw [w64 (by omega) (by omega)]; omega
    have e2 : (b.data.toList.take (i + 1)).map px = (b.data.toList.take i).map px ++ [px b.data.toList[i]] := by
      rw [List.take_succ_eq_append_getElem hil, List.map_append, List.map_cons, List.map_nil]
    have hn := ih (i + 1) (by omega)
    rw [e2, ← List.append_assoc] at hn
    have hl : (x7 ++ (b.data.toList.take i).map px).length < 140737488355328 := by
      rw [List.length_append, List.length_map, List.length_take]; omega
    rw [bt_list b i hil, e1]
    rcases hv _ (List.getElem_mem hil) with e | e
    · rw [e] at hn ⊢
      refine EvP.neg (by decide) (EvP.pos hl ?_)
      exact hn
    · rw [e] at hn ⊢
      refine EvP.pos (by decide) (EvP.pos hl ?_)
      exact hn
theorem rdOf_row {R : List ByteArray} {i : Nat} (h : i < R.length) : rdOf ByteArray.empty R (i : Int) = R[i] := by
  simp [rdOf, List.getD, h]
theorem Trim_is (b : ByteArray) (hb : b.data.toList.length ≤ 20000) : strings_Trim.f b ⟨#[46, 35]⟩ = some ⟨(Go.Lib.trimS b.data.toList [46, 35]).toArray⟩ := by
  unfold strings_Trim.f
  rw [if_pos (by rw [Go.Lib.size_eq]; omega), if_pos (by decide), if_pos (by decide)]
theorem Parse_l0 (R : List ByteArray) (hR : R ≠ []) (hb : ∀ b ∈ R, b.data.toList.length ≤ 20000) (hn : R.length ≤ 20001) (ht : (R.map (·.data.toList)).flatten.length ≤ 20000) :
    ∀ (d i : Nat), i + d = R.length → (∀ r ∈ (R.map (·.data.toList)).take i, okRow ((R.map (·.data.toList)).headD []).length r) →
    EvP (fun k => bitmap_Parse.l0 k R (((R.map (·.data.toList)).take i).flatMap (·.map px)) R (R.length : Int) (i : Int)) (· = parseR (R.map (·.data.toList))) := by
  obtain ⟨r0, R', rfl⟩ := List.exists_cons_of_ne_nil hR
  have h0 : rdOf ByteArray.empty (r0 :: R') 0 = r0 := rfl
  have hw : (((r0 :: R').map (·.data.toList)).headD []).length = r0.size := by rw [Go.Lib.size_eq]; rfl
  generalize hG : (r0 :: R').map (·.data.toList) = G at *
  have hGl : G.length = (r0 :: R').length := by rw [← hG, List.length_map]
  intro d
  induction d with
  | zero =>
    intro i hi hok
    rw [List.take_of_length_le (by omega)] at hok ⊢
    refine EvP.step (fun k => by rw [bitmap_Parse.l0]) ?_
    refine EvP.neg (by omega) (EvP.pos (by simp) ?_)
    rw [h0]
    refine EvP.bindv (fits_is _ _) ?_
    unfold parseR
    rw [if_pos hok, hw, hGl]
    by_cases s : Sid (r0.size : Int) ((r0 :: R').length : Int)
    · rw [if_pos s]; exact EvP.pos (by simpa using s) (EvP.ret rfl)
    · rw [if_neg s]; exact EvP.neg (by simpa using s) (EvP.ret rfl)
  | succ d ih =>
    intro i hi hok
    have hil : i < (r0 :: R').length := by omega
    have hiG : i < G.length := by omega
    have eG : G[i] = ((r0 :: R')[i]).data.toList := by simp only [← hG, List.getElem_map]
    have hbi : ((r0 :: R')[i]).data.toList.length ≤ 20000 := hb _ (List.getElem_mem hil)
    refine EvP.step (fun k => by rw [bitmap_Parse.l0]) ?_
    refine EvP.pos (by omega) (EvP.pos (by omega) (EvP.pos (by omega) (EvP.pos (by simp) ?_)))
    rw [h0, rdOf_row hil]
    have bad : ¬ okRow r0.size G[i] → parseR G = err3 := by
      intro hno
      unfold parseR
      rw [if_neg]
      intro hall
      rw [hw] at hall
      exact hno (hall _ (List.getElem_mem hiG))
    by_cases hsz : (r0 :: R')[i].size = r0.size
    · refine EvP.pos (by omega) ?_
      refine EvP.bindv (Trim_is _ hbi) ?_
      refine EvP.step (fun k => by rw [bitmap_Parse.j1]) ?_
      by_cases hv : ∀ c ∈ ((r0 :: R')[i]).data.toList, c = 46 ∨ c = 35
      · have e : (({ data := (Go.Lib.trimS ((r0 :: R')[i]).data.toList [46, 35]).toArray } : ByteArray).toList != ([] : List UInt8)) = false := by
          rw [(trim_nil _).2 hv, Go.Lib.toList_data]; rfl
        refine EvP.neg (by rw [e]; decide) ?_
        have hlen : (G.take i).flatMap (·.map px) = (G.take i).flatten.map px := by rw [List.map_flatten, List.flatMap_def]
        have hle : ((G.take i).flatten).length ≤ G.flatten.length := by
          have h2 := congrArg (fun l => (List.flatten l).length) (List.take_append_drop i G)
          simp only [List.flatten_append, List.length_append] at h2
          omega
        have key := Parse_l1 (P := (· = parseR G)) (r0 :: R') (r0 :: R') ((r0 :: R').length : Int) (i : Int) ((r0 :: R')[i]) ((G.take i).flatMap (·.map px)) hbi (by rw [hlen, List.length_map]; omega) hv ?_ ((r0 :: R')[i]).data.toList.length 0 (by omega)
        · simpa using key
        · have e1 : wrap64 ((i : Int) + 1) = ((i + 1 : Nat) : Int) := by rw [w64 (by omega) (by omega)]; omega
          rw [e1]
          have hn' := ih (i + 1) (by omega) (by
            intro r hr
            rw [List.take_succ_eq_append_getElem hiG] at hr
            rcases List.mem_append.1 hr with x | x
            · exact hok r x
            · rw [List.mem_singleton.1 x, hw, eG]; exact ⟨by rw [← Go.Lib.size_eq]; exact hsz, hv⟩)
          rw [List.take_succ_eq_append_getElem hiG, List.flatMap_append, eG] at hn'
          simpa using hn'
      · have e : (({ data := (Go.Lib.trimS ((r0 :: R')[i]).data.toList [46, 35]).toArray } : ByteArray).toList != ([] : List UInt8)) = true := by
          rw [bne_iff_ne]
          intro x
          refine hv ((trim_nil _).1 ?_)
          rw [Go.Lib.toList_data] at x
          simpa using x
        refine EvP.pos e (EvP.ret ?_)
        rw [bad (by rw [eG]; exact fun o => hv o.2)]; rfl
    · refine EvP.neg (by omega) ?_
      refine EvP.step (fun k => by rw [bitmap_Parse.j1]) ?_
      refine EvP.pos rfl (EvP.ret ?_)
      rw [bad (by rw [eG]; exact fun o => hsz (by rw [Go.Lib.size_eq]; exact o.1))]; rfl

theorem CutSuffix_no (b : ByteArray) (hb : b.data.toList.length ≤ 20000) (h : ∀ s, b.data.toList ≠ s ++ [10]) : strings_CutSuffix.f b ⟨#[10]⟩ = some (b, false) := by
  have hz : b.size = b.data.toList.length := Go.Lib.size_eq b
  have hs : stringslite_HasSuffix.f b ⟨#[10]⟩ = some false := by
    unfold stringslite_HasSuffix.f
    have h1 : ((⟨#[10]⟩ : ByteArray).size : Int) = 1 := rfl
    rw [h1]
    by_cases g : (b.size : Int) ≥ 1
    · have e : wrap64 ((b.size : Int) - 1) = (b.size : Int) - 1 := w64 (by omega) (by omega)
      rw [if_pos g, e, if_pos (by omega), if_pos (by omega)]
      refine congrArg some ?_
      rw [beq_eq_false_iff_ne]
      intro x
      rw [Go.Lib.toList_data, Go.Lib.toList_data, Go.Lib.extract_to_end] at x
      refine h (b.data.toList.take ((b.size : Int) - 1).toNat) ?_
      have := List.take_append_drop ((b.size : Int) - 1).toNat b.data.toList
      rw [x] at this
      exact this.symm
    · rw [if_neg g]
  unfold strings_CutSuffix.f stringslite_CutSuffix.f
  rw [hs]
  simp
theorem CutSuffix_yes (b : ByteArray) (hb : b.data.toList.length ≤ 20000) (s : List UInt8) (h : b.data.toList = s ++ [10]) : ∃ c, strings_CutSuffix.f b ⟨#[10]⟩ = some (c, true) ∧ c.data.toList = s := by
  have hz : b.size = b.data.toList.length := Go.Lib.size_eq b
  have hl : b.data.toList.length = s.length + 1 := by rw [h]; simp
  have h1 : ((⟨#[10]⟩ : ByteArray).size : Int) = 1 := rfl
  have e : wrap64 ((b.size : Int) - 1) = (s.length : Int) := by rw [w64 (by omega) (by omega)]; omega
  have hs : stringslite_HasSuffix.f b ⟨#[10]⟩ = some true := by
    unfold stringslite_HasSuffix.f
    rw [h1, if_pos (by omega), e, if_pos (by omega), if_pos (by omega)]
    refine congrArg some ?_
    rw [beq_iff_eq, Go.Lib.toList_data, Go.Lib.toList_data, Go.Lib.extract_to_end, h]
    simp
  refine ⟨b.extract 0 s.length, ?_, ?_⟩
  · unfold strings_CutSuffix.f stringslite_CutSuffix.f
    rw [hs, h1]
    simp only [Option.bind_some, if_true]
    rw [e, if_pos (by omega), if_pos (by omega)]
    simp
  · rw [Go.Lib.extract_from_zero, h]
    simp
theorem flat_le (R : List (List UInt8)) : R.flatten.length ≤ (R.flatMap (· ++ [10])).length ∧ R.length ≤ (R.flatMap (· ++ [10])).length := by
  induction R with
  | nil => simp
  | cons r R ih => simp only [List.flatten_cons, List.length_append, List.flatMap_cons, List.length_cons, List.length_nil] at *; omega
theorem mem_flat_le {R : List (List UInt8)} {r : List UInt8} (h : r ∈ R) : r.length ≤ R.flatten.length := by
  induction R with
  | nil => simp at h
  | cons q R ih =>
    rw [List.flatten_cons, List.length_append]
    rcases List.mem_cons.1 h with e | e
    · rw [e]; omega
    · have := ih e; omega
theorem Parse_is (b : ByteArray) (hb : b.data.toList.length ≤ 20000) : EvP (fun k => bitmap_Parse.f k b) (· = parseT b.data.toList) := by
  unfold bitmap_Parse.f
  refine EvP.ite (fun e => ?_) (fun e => ?_)
  · rw [Go.Lib.toList_data] at e
    rw [e]
    refine EvP.ret ?_
    decide
  · rw [Go.Lib.toList_data] at e
    by_cases h : ∃ s, b.data.toList = s ++ [10]
    · obtain ⟨s, h⟩ := h
      obtain ⟨c, hc, ec⟩ := CutSuffix_yes b hb s h
      obtain ⟨r, rows, h10, hq, es⟩ := rows_of s
      have hl : b.data.toList.length = s.length + 1 := by rw [h]; simp
      have hjoin : b.data.toList = (r :: rows).flatMap (· ++ [10]) := by rw [h, es]; exact join_rows r rows
      have hall : ∀ q ∈ r :: rows, 10 ∉ q := by
        intro q x
        rcases List.mem_cons.1 x with y | y
        · rw [y]; exact h10
        · exact hq q y
      have hfl := flat_le (r :: rows)
      rw [← hjoin] at hfl
      refine EvP.bindv hc (EvP.pos rfl ?_)
      have hcz : c.size = s.length := by rw [Go.Lib.size_eq, ec]
      refine EvP.bindv (a := Go.Lib.splitB ⟨#[10]⟩ 0 (Go.Lib.countB c ⟨#[10]⟩) c) ?_ ?_
      · unfold strings_Split.f
        rw [if_pos (by show c.size < _; omega), if_pos (by decide)]
      have hsp := split_rows c h10 hq (by rw [ec, es])
      generalize Go.Lib.splitB ⟨#[10]⟩ 0 (Go.Lib.countB c ⟨#[10]⟩) c = R at hsp ⊢
      have hRl : R.length = (r :: rows).length := by rw [← hsp, List.length_map]
      have hne : R ≠ [] := by intro x; rw [x] at hRl; simp at hRl
      have key := Parse_l0 R hne (by
          intro q hq'
          have : q.data.toList ∈ r :: rows := by rw [← hsp]; exact List.mem_map_of_mem hq'
          have := mem_flat_le this
          omega) (by omega) (by rw [hsp]; omega) R.length 0 (by omega) (by simp)
      rw [hsp] at key
      rw [hjoin, parseT_rows r rows hall]
      simpa using key
    · have h' : ∀ s, b.data.toList ≠ s ++ [10] := fun s x => h ⟨s, x⟩
      refine EvP.bindv (CutSuffix_no b hb h') (EvP.neg (by simp) (EvP.ret ?_))
      unfold parseT
      rw [refRun_open _ 0 0 0 [] (by decide) (fun x => absurd x e) h']
      rfl

theorem q4 (q : Int) (h0 : -9223372036854775808 ≤ q) (h1 : q ≤ 9223372036854775807) : Int.tmod (wrap64 (Int.tmod q 4 + 4)) 4 = q % 4 := by
  rcases Int.lt_or_le q 0 with h | h
  · have e : Int.tmod q 4 = -((-q) % 4) := by
      rw [show q = -(-q) by omega, Int.neg_tmod, tmod_pos (by omega)]
      omega
    rw [e, w64 (by omega) (by omega), tmod_pos (by omega)]
    omega
  · rw [tmod_pos h, w64 (by omega) (by omega), tmod_pos (by omega)]
    omega
/-- One quarter. -/
def t1 (b : Int × Int × List Int) : Int × Int × List Int := (b.2.1, b.1, tab b.2.1 b.1 (fun x y => pix b.1 b.2.1 b.2.2 y (b.2.1 - 1 - x)))
def turnR : Nat → Int × Int × List Int → Int × Int × List Int
  | 0, b => b
  | n + 1, b => turnR n (t1 b)
theorem sid_swap {w h : Int} (s : Sid w h) : Sid h w := ⟨s.2.1, s.1, s.2.2.2.1, s.2.2.1, by rw [Int.mul_comm]; exact s.2.2.2.2⟩
theorem val_t1 {w h : Int} {p : List Int} (v : Val w h p) : Val (t1 (w, h, p)).1 (t1 (w, h, p)).2.1 (t1 (w, h, p)).2.2 :=
  val_tab (g := fun x y => pix w h p y (h - 1 - x)) (sid_swap v.sid) (fun _ _ _ _ _ _ => v.pix01 _ _)
/-- What Turn returns. -/
def turnQ (w h : Int) (p : List Int) (q : Int) : Int × Int × List Int := turnR (q % 4).toNat (w, h, p)

theorem clone_is (w h : Int) (p : List Int) (hl : p.length < 140737488355328) : bitmap_clone.f w h p = some (w, h, p) := by
  unfold bitmap_clone.f bytes_Clone.f
  simp only [Option.bind_some, List.length_nil, Nat.zero_add, List.nil_append]
  rw [if_pos hl]
  rfl

theorem Turn_l1 {P : Int × Int × List Int × Int → Prop} {w h : Int} {p : List Int} (v : Val w h p) (n i : Int)
    (hk : EvP (fun k => bitmap_Turn.l0 k n (wrap64 (i + 1)) h w (tab h w (fun x y => pix w h p y (h - 1 - x)))) P) :
    EvP (fun k => bitmap_Turn.l1 k n i ((List.replicate p.length (0 : Int)).length : Int) 0 w h p h w (List.replicate p.length 0)) P := by
  have hl : ((List.replicate p.length (0 : Int)).length : Int) = h * w := by rw [List.length_replicate, v.2.2.2.2.2.1, Int.mul_comm]
  have hm := v.2.2.2.2.1
  have hm2 : h * w = w * h := Int.mul_comm h w
  refine EvP.fillT (L := fun k j s => bitmap_Turn.l1 k n i ((List.replicate p.length (0 : Int)).length : Int) j w h p h w s) v.2.1 v.1 (List.replicate p.length 0) hl (fun x y => pix w h p y (h - 1 - x)) ?_ ?_
  · intro j s h0 h1 hs hw a b c d e f _ _ hk
    obtain ⟨_, _, h200, h200', _⟩ := v.sid
    refine EvP.step (fun k => by rw [bitmap_Turn.l1]) ?_
    refine EvP.pos h1 (EvP.neg (by omega) ?_)
    rw [e, f, w64 (x := j / h) (by omega) (by omega), w64 (x := h - 1) (by omega) (by omega), w64 (by omega) (by omega)]
    refine EvP.bindv (at_is v _ _) ?_
    refine EvP.pos h0 (EvP.pos (by omega) ?_)
    rw [w64 (by omega) (by omega)]
    exact hk
  · refine EvP.step (fun k => by rw [bitmap_Turn.l1]) ?_
    exact EvP.neg (by omega) hk
theorem Turn_l0 (n : Int) (hn : n ≤ 4) : ∀ (d : Nat) (i w h : Int) (p : List Int), Val w h p → 0 ≤ i → i ≤ n → (n - i).toNat = d →
    EvP (fun k => bitmap_Turn.l0 k n i w h p) (· = ((turnR d (w, h, p)).1, (turnR d (w, h, p)).2.1, (turnR d (w, h, p)).2.2, 0)) := by
  intro d
  induction d with
  | zero =>
    intro i w h p v h0 h1 hd
    refine EvP.step (fun k => by rw [bitmap_Turn.l0]) ?_
    exact EvP.neg (by omega) (EvP.ret rfl)
  | succ d ih =>
    intro i w h p v h0 h1 hd
    have hlen : (p.length : Int) ≤ 8192 := by rw [v.2.2.2.2.2.1]; exact v.2.2.2.2.1
    refine EvP.step (fun k => by rw [bitmap_Turn.l0]) ?_
    refine EvP.pos (by omega) (EvP.pos (by omega) (EvP.pos (by omega) ?_))
    refine EvP.bindv rfl ?_
    rw [Int.toNat_natCast]
    refine Turn_l1 v n i ?_
    rw [w64 (by omega) (by omega)]
    exact ih (i + 1) h w _ (val_t1 v) (by omega) (by omega) (by omega)
theorem Turn_is {w h : Int} {p : List Int} (v : Val w h p) (q : Int) (h0 : -9223372036854775808 ≤ q) (h1 : q ≤ 9223372036854775807) :
    EvP (fun k => bitmap_Turn.f k w h p q) (· = ((turnQ w h p q).1, (turnQ w h p q).2.1, (turnQ w h p q).2.2, 0)) := by
  have hlen : (p.length : Int) ≤ 8192 := by rw [v.2.2.2.2.2.1]; exact v.2.2.2.2.1
  unfold bitmap_Turn.f
  refine EvP.bind (Valid_is w h p (fun x hx => (v.2.2.2.2.2.2 x hx).1) (by omega)) ?_
  rintro _ rfl
  refine EvP.pos (decide_eq_true v) ?_
  refine EvP.bindv (clone_is w h p (by omega)) ?_
  rw [q4 q h0 h1]
  exact Turn_l0 (q % 4) (by omega) _ 0 w h p v (by omega) (by omega) (by omega)
theorem Turn_bad {w h : Int} {p : List Int} (v : ¬ Val w h p) (hp : ∀ x ∈ p, 0 ≤ x) (hl : (p.length : Int) ≤ 9223372036854775807) (q : Int) : EvP (fun k => bitmap_Turn.f k w h p q) (· = (0, 0, [], 30)) := by
  unfold bitmap_Turn.f
  refine EvP.bind (Valid_is w h p hp hl) ?_
  rintro _ rfl
  exact EvP.neg (by simpa using v) (EvP.ret rfl)

theorem refSame_is (w h : Int) (p : List Int) (w' h' : Int) (p' : List Int) (hp : Byt p) (hp' : Byt p') : incunableref05_Same.f w h p w' h' p' = some (decide (w = w' ∧ h = h' ∧ p = p')) := by
  unfold incunableref05_Same.f
  rw [strOfNums_eq hp hp']
  by_cases a : w = w'
  · by_cases b : h = h'
    · simp [a, b]
    · simp [a, b]
  · simp [a]

theorem Sane_is : EvP (fun k => incunablelaw05_Sane.f k) (· = true) := by
  unfold incunablelaw05_Sane.f
  refine EvP.bind (Turn_is (w := 2) (h := 1) (p := [1, 0]) (by unfold Val; decide) 1 (by omega) (by omega)) ?_
  rintro _ rfl
  refine EvP.pos rfl ?_
  refine EvP.bindv (refSame_is _ _ _ _ _ _ ?_ ?_) (EvP.ret ?_)
  · unfold Byt
    decide
  · unfold Byt
    decide
  · decide

theorem refRun_byt : ∀ (t : List UInt8) (row W H : Int) (pix : List Int), Byt pix → Byt (refRun t row W H pix).2.2.1
  | [], row, W, H, pix, h => by
    unfold refRun
    split
    · exact fun x hx => by simp [err3] at hx
    · split
      · exact h
      · exact fun x hx => by simp at hx
  | c :: t, row, W, H, pix, h => by
    have nb : Byt err3.2.2.1 := fun x hx => by simp [err3] at hx
    have app : ∀ v : Int, 0 ≤ v → v ≤ 1 → Byt (pix ++ [v]) := by
      intro v h0 h1 x hx
      rcases List.mem_append.1 hx with y | y
      · exact h x y
      · rw [List.mem_singleton.1 y]; exact ⟨h0, by omega⟩
    unfold refRun
    repeat' split
    all_goals first | exact refRun_byt t _ _ _ _ (app _ (by decide) (by decide)) | exact refRun_byt t _ _ _ _ h | exact nb
theorem BitmapParses : incunablelaw05_BitmapParses.Pure := by
  intro b _
  refine EvP.rounds ?_
  unfold incunablelaw05_BitmapParses.f
  refine EvP.ite (fun a => ?_) (fun a => ?_)
  · refine EvP.bind Sane_is ?_
    rintro _ rfl
    exact EvP.ret rfl
  have hb : b.data.toList.length ≤ 20000 := by rw [← Go.Lib.size_eq]; omega
  refine EvP.bind (Parse_is b hb) ?_
  rintro _ rfl
  refine EvP.bind (refParse_is b hb) ?_
  rintro _ rfl
  have hby : Byt (parseT b.data.toList).2.2.1 := refRun_byt _ _ _ _ _ (fun x hx => by simp at hx)
  refine EvP.pos rfl ?_
  refine EvP.bindv (refSame_is _ _ _ _ _ _ hby hby) ?_
  refine EvP.step (fun k => by rw [incunablelaw05_BitmapParses.j0]) ?_
  refine EvP.neg (by simp) ?_
  generalize hr : parseT b.data.toList = r at hby ⊢
  obtain ⟨w, h, p, e⟩ := r
  refine EvP.ite (fun z => ?_) (fun z => ?_)
  · have z' : e = 0 := z
    subst z'
    have ht : (∃ s, b.data.toList = s ++ [10]) ∨ b.data.toList = [] := by
      by_cases q : ∃ s, b.data.toList = s ++ [10]
      · exact .inl q
      · refine .inr ?_
        refine Classical.byContradiction (fun n => ?_)
        have := refRun_open b.data.toList 0 0 0 [] (by decide) (fun x => absurd x n) (fun s x => q ⟨s, x⟩)
        have h2 : parseT b.data.toList = err3 := this
        rw [hr] at h2
        simp [err3] at h2
    obtain ⟨v, hf⟩ := fmt_parse ht hr
    have hl := v.2.2.2.2.2.1
    have hl2 := v.2.2.2.2.1
    have hF := Format_is v (show (p.length : Int) ≤ 9223372036854775807 by omega)
    refine EvP.bind hF ?_
    rintro _ rfl
    refine EvP.pos rfl (EvP.pos ?_ ?_)
    · rw [Go.Lib.toList_data, Go.Lib.toList_data, ← hf]
    · refine EvP.bind Sane_is ?_
      rintro _ rfl
      exact EvP.ret rfl
  · refine EvP.bind Sane_is ?_
    rintro _ rfl
    exact EvP.ret rfl

end Go.Proofs.YtgcjhpcegmblgaaDoor.Pure
