/- What Draw draws, in any order the same. No conditions beyond the statement's own. -/
import Derived.Test.YtaflekobfbgedaaPShapeDrawsx11
import Derived.Test.YtaflekobfbgedaaQBase
namespace Go.Proofs.Ytaflekobfbgedaa.Pure
open Go.RowKit Go.Proofs.Ytaflekobfbgedaa.PShapeDraws Go.Proofs.YtaflekobfbgedaaW.PrintWords Go.Proofs.YtaflekobfbgedaaW.PrintLast Go.Proofs.YtaflekobfbgedaaW.PrintMore Go.Proofs.YtaflekobfbgedaaW.Pu
set_option linter.unusedVariables false
set_option linter.unusedSimpArgs false
/-- The numbers of a list are those of bytes. -/
def Byt (p : List Int) : Prop := ∀ x ∈ p, 0 ≤ x ∧ x ≤ 255
theorem val_byt {w h : Int} {p : List Int} (v : Val w h p) : Byt p := fun x hx => ⟨(v.2.2.2.2.2.2 x hx).1, by have := (v.2.2.2.2.2.2 x hx).2; omega⟩

theorem wf_byt {p : List Int} (h : ∀ y ∈ p, (Lit.int .u8 y).wf = true) : Byt p := fun x hx => by
  have h1 : (decide (IntKind.u8.min ≤ x) && decide (x ≤ IntKind.u8.max)) = true := h x hx
  obtain ⟨a, b⟩ := Bool.and_eq_true_iff.mp h1
  exact ⟨of_decide_eq_true a, of_decide_eq_true b⟩
theorem wf_i64 {x : Int} (h : (Lit.int .i64 x).wf = true) : -9223372036854775808 ≤ x ∧ x ≤ 9223372036854775807 := by
  have h1 : (decide (IntKind.i64.min ≤ x) && decide (x ≤ IntKind.i64.max)) = true := h
  obtain ⟨a, b⟩ := Bool.and_eq_true_iff.mp h1
  exact ⟨of_decide_eq_true a, of_decide_eq_true b⟩

def mixv (op a b : Int) : Int := if op = 0 then b else if op = 1 then (if a < b then b else a) else if op = 2 then (if b < a then b else a) else if op = 3 then (a + b) % 2 else (a + b + 1) % 2
theorem five {op : Int} (h0 : 0 ≤ op) (h1 : op ≤ 4) : op = 0 ∨ op = 1 ∨ op = 2 ∨ op = 3 ∨ op = 4 := by omega
theorem bit {a : Int} (h0 : 0 ≤ a) (h1 : a ≤ 1) : a = 0 ∨ a = 1 := by omega
theorem mix_01 {op a b : Int} (h0 : 0 ≤ op) (h1 : op ≤ 4) (a0 : 0 ≤ a) (a1 : a ≤ 1) (b0 : 0 ≤ b) (b1 : b ≤ 1) : 0 ≤ mixv op a b ∧ mixv op a b ≤ 1 := by
  rcases five h0 h1 with rfl | rfl | rfl | rfl | rfl <;> rcases bit a0 a1 with rfl | rfl <;> rcases bit b0 b1 with rfl | rfl <;> decide +kernel
theorem mix3 {a b : Int} (a0 : 0 ≤ a) (a1 : a ≤ 1) (b0 : 0 ≤ b) (b1 : b ≤ 1) : mixv 3 (mixv 3 a b) b = a := by
  rcases bit a0 a1 with rfl | rfl <;> rcases bit b0 b1 with rfl | rfl <;> decide +kernel
theorem mix3_ne {a b : Int} (a0 : 0 ≤ a) (a1 : a ≤ 1) (b0 : 0 ≤ b) (b1 : b ≤ 1) : mixv 3 a b = if a = b then 0 else 1 := by
  rcases bit a0 a1 with rfl | rfl <;> rcases bit b0 b1 with rfl | rfl <;> decide +kernel
theorem mix1_zero {b : Int} (b0 : 0 ≤ b) (b1 : b ≤ 1) : mixv 1 0 b = b := by
  rcases bit b0 b1 with rfl | rfl <;> decide +kernel
theorem mix0 (a b : Int) : mixv 0 a b = b := rfl

instance (w h : Int) (p : List Int) : Decidable (Val w h p) := by unfold Val; exact inferInstance
theorem sid_mul {w h : Int} (hw : 0 ≤ w) (hh : 0 ≤ h) (hw' : w ≤ 200) (hh' : h ≤ 200) : 0 ≤ w * h ∧ w * h ≤ 40000 := by
  have h1 : 0 ≤ w * h := Int.mul_nonneg hw hh
  have h2 : w * h ≤ 200 * h := Int.mul_le_mul_of_nonneg_right hw' hh
  omega

/-- What is drawn. -/
def drawG (g : Int → Int → Int) (w' h' : Int) (s : List Int) (x y op : Int) : Int → Int → Int := fun u t => if 0 ≤ u - x ∧ u - x < w' ∧ 0 ≤ t - y ∧ t - y < h' then mixv op (g u t) (pix w' h' s (u - x) (t - y)) else g u t
def Shf (x y : Int) : Prop := -100000 ≤ x ∧ x ≤ 100000 ∧ -100000 ≤ y ∧ y ≤ 100000
instance (x y : Int) : Decidable (Shf x y) := by unfold Shf; exact inferInstance
def drawR (w h : Int) (p : List Int) (w' h' : Int) (s : List Int) (x y op : Int) : Int × Int × List Int × Int :=
  if ¬ (Val w h p ∧ Val w' h' s) then (0, 0, [], 30) else if op < 0 ∨ op > 4 ∨ ¬ Shf x y then (0, 0, [], 2) else (w, h, tab w h (drawG (pix w h p) w' h' s x y op), 0)
theorem drawG_01 {g : Int → Int → Int} {w' h' : Int} {s : List Int} {x y op : Int} (v : Val w' h' s) (h0 : 0 ≤ op) (h1 : op ≤ 4) {u t : Int} (hg : 0 ≤ g u t ∧ g u t ≤ 1) : 0 ≤ drawG g w' h' s x y op u t ∧ drawG g w' h' s x y op u t ≤ 1 := by
  unfold drawG
  split
  · have b := v.pix01 (u - x) (t - y)
    exact mix_01 h0 h1 hg.1 hg.2 b.1 b.2
  · exact hg

theorem refSame_is (w h : Int) (p : List Int) (w' h' : Int) (p' : List Int) (hp : Byt p) (hp' : Byt p') : incunableref05_Same.f w h p w' h' p' = some (decide (w = w' ∧ h = h' ∧ p = p')) := by
  unfold incunableref05_Same.f
  rw [strOfNums_eq hp hp']
  by_cases a : w = w'
  · by_cases b : h = h'
    · simp [a, b]
    · simp [a, b]
  · simp [a]

def VP (b : S48) : Prop := Val b.f0.f0 b.f0.f1 b.f0.f2
instance (b : S48) : Decidable (VP b) := by unfold VP; exact inferInstance
def NP (b : S48) : Prop := Shf b.f1 b.f2
instance (b : S48) : Decidable (NP b) := by unfold NP; exact inferInstance
def CP (b : S48) : Prop := (∀ z ∈ b.f0.f2, 0 ≤ z) ∧ (b.f0.f2.length : Int) ≤ 9223372036854775807
/-- A placed shape's pixel. -/
def plc (b : S48) (u t : Int) : Int := pix b.f0.f0 b.f0.f1 b.f0.f2 (u - b.f1) (t - b.f2)
/-- What is black in one of them. -/
def orL (l : List S48) (u t : Int) : Int := if (l.any fun b => decide (plc b u t = 1)) = true then 1 else 0
theorem orL_01 (l : List S48) (u t : Int) : 0 ≤ orL l u t ∧ orL l u t ≤ 1 := by
  unfold orL
  split <;> omega
theorem orL_snoc {l : List S48} {b : S48} (v : VP b) (u t : Int) : orL (l ++ [b]) u t = drawG (orL l) b.f0.f0 b.f0.f1 b.f0.f2 b.f1 b.f2 1 u t := by
  have h01 := v.pix01 (u - b.f1) (t - b.f2)
  have e : orL (l ++ [b]) u t = if plc b u t = 1 then 1 else orL l u t := by
    unfold orL
    rw [List.any_append]
    by_cases q : plc b u t = 1
    · rw [if_pos q]
      simp [q]
    · rw [if_neg q]
      simp [q]
  rw [e]
  have ho := orL_01 l u t
  by_cases c : 0 ≤ u - b.f1 ∧ u - b.f1 < b.f0.f0 ∧ 0 ≤ t - b.f2 ∧ t - b.f2 < b.f0.f1
  · rw [show drawG (orL l) b.f0.f0 b.f0.f1 b.f0.f2 b.f1 b.f2 1 u t = mixv 1 (orL l u t) (plc b u t) from if_pos c]
    have h01 : 0 ≤ plc b u t ∧ plc b u t ≤ 1 := h01
    generalize plc b u t = x at *
    generalize orL l u t = y at *
    have hx : x = 0 ∨ x = 1 := by omega
    have hy : y = 0 ∨ y = 1 := by omega
    rcases hx with rfl | rfl <;> rcases hy with rfl | rfl <;> decide +kernel
  · rw [show drawG (orL l) b.f0.f0 b.f0.f1 b.f0.f2 b.f1 b.f2 1 u t = orL l u t from if_neg c]
    have : plc b u t = 0 := pix_out c
    rw [if_neg (by omega)]
theorem rd48_mem {l : List S48} {i : Int} (h0 : 0 ≤ i) (h1 : i < (l.length : Int)) : rd_T48 l i ∈ l := by
  have : i.toNat < l.length := by omega
  simp only [rd_T48, List.getD, List.getElem?_eq_getElem this]
  exact List.getElem_mem _
theorem take48 {l : List S48} {i : Int} (h0 : 0 ≤ i) (h1 : i < (l.length : Int)) : l.take (i + 1).toNat = l.take i.toNat ++ [rd_T48 l i] := by
  have h : i.toNat < l.length := by omega
  rw [show (i + 1).toNat = i.toNat + 1 by omega, List.take_add_one]
  simp [rd_T48, List.getD, h]
/-- What Draw returns. -/
def drQ (w h : Int) (l : List S48) : Int × Int × List Int × Int := if ¬ Sid w h ∨ ∃ b ∈ l, ¬ VP b then (0, 0, [], 30) else if ∃ b ∈ l, ¬ NP b then (0, 0, [], 2) else (w, h, tab w h (orL l), 0)
theorem drQ_byt (w h : Int) (l : List S48) : Byt (drQ w h l).2.2.1 := by
  unfold drQ
  split
  · intro x hx; cases hx
  · rename_i q
    split
    · intro x hx; cases hx
    · exact val_byt (val_tab (Classical.not_not.mp (fun z => q (.inl z))) (fun u t _ _ _ _ => orL_01 l u t))
theorem draw_step {w h : Int} {l : List S48} {b : S48} (s : Sid w h) (v : VP b) : tab w h (drawG (pix w h (tab w h (orL l))) b.f0.f0 b.f0.f1 b.f0.f2 b.f1 b.f2 1) = tab w h (orL (l ++ [b])) := by
  refine tab_congr s.1 s.2.1 (fun u t a c d e => ?_)
  rw [orL_snoc v]
  have e2 : pix w h (tab w h (orL l)) u t = orL l u t := by rw [pix_tab, if_pos ⟨a, c, d, e⟩]
  unfold drawG
  rw [e2]

theorem fits_is (w h : Int) : bitmap_fits.f w h = some (decide (Sid w h)) := by
  unfold bitmap_fits.f
  by_cases h1 : 0 ≤ w ∧ 0 ≤ h ∧ w ≤ 200 ∧ h ≤ 200
  · obtain ⟨a, b, c, d⟩ := h1
    have := sid_mul a b c d
    rw [if_pos (by omega), if_pos (by omega), if_pos c, if_pos d, w64 (by omega) (by omega)]
    simp [Sid, a, b, c, d]
  · have h2 : ¬ Sid w h := fun s => h1 ⟨s.1, s.2.1, s.2.2.1, s.2.2.2.1⟩
    simp only [h2, decide_false]
    split
    · split
      · split
        · split
          · omega
          · rfl
        · rfl
      · rfl
    · rfl

theorem blank_is (w h : Int) : bitmap_blank.f w h = some (if Sid w h then (w, h, tab w h (fun _ _ => 0), 0) else (0, 0, [], 4)) := by
  unfold bitmap_blank.f
  rw [fits_is, Option.bind_some]
  by_cases s : Sid w h
  · have hm := sid_mul s.1 s.2.1 s.2.2.1 s.2.2.2.1
    rw [if_pos (decide_eq_true s), if_pos s, w64 (by omega) (by omega), if_pos (by omega), if_pos (by omega), replicate_tab s.1 s.2.1]
  · rw [if_neg (by simpa using s), if_neg s]

/-- What New returns. -/
def newR (w h c : Int) : Int × Int × List Int × Int := if w < 0 ∨ h < 0 ∨ (c ≠ 0 ∧ c ≠ 1) then (0, 0, [], 2) else if Sid w h then (w, h, tab w h (fun _ _ => c), 0) else (0, 0, [], 4)
theorem New_j0 (w h c : Int) (b : Bool) (hb : b = true ↔ (w < 0 ∨ h < 0 ∨ (c ≠ 0 ∧ c ≠ 1))) : EvP (fun k => bitmap_New.j0 k w h c b) (· = newR w h c) := by
  refine EvP.step (fun k => by rw [bitmap_New.j0]) ?_
  refine EvP.ite (fun h1 => EvP.ret ?_) (fun h1 => ?_)
  · unfold newR
    rw [if_pos (hb.mp h1)]
  · have hn : ¬ (w < 0 ∨ h < 0 ∨ (c ≠ 0 ∧ c ≠ 1)) := fun q => h1 (hb.mpr q)
    unfold newR
    rw [if_neg hn]
    refine EvP.bindv (blank_is w h) ?_
    by_cases s : Sid w h
    · simp only [if_pos s]
      have hm := sid_mul s.1 s.2.1 s.2.2.1 s.2.2.2.1
      have hlen : ((tab w h fun _ _ => (0 : Int)).length : Int) = w * h := by rw [tab_length]; omega
      refine EvP.fill (L := fun k i l => bitmap_New.l0 k c 0 ((tab w h fun _ _ => 0).length : Int) i w h l) (tab w h fun _ _ => 0) (fun _ => c) ?_ ?_
      · intro i l h0 h2 hl hr hk
        refine EvP.step (fun k => by rw [bitmap_New.l0]) ?_
        refine EvP.pos h2 (EvP.pos h0 (EvP.pos (by omega) ?_))
        rw [w64 (by omega) (by omega), show c % 256 = c by omega]
        exact hk
      · refine EvP.step (fun k => by rw [bitmap_New.l0]) ?_
        refine EvP.neg (by omega) (EvP.ret ?_)
        rw [lmap_tab (w := w) (h := h) (g := fun _ _ => c) s.1 s.2.1 (by omega) (fun _ _ _ _ _ _ => rfl)]
    · simp only [if_neg s]
      refine EvP.step (fun k => by rw [bitmap_New.l0]) ?_
      exact EvP.neg (by simp) (EvP.ret rfl)
theorem New_is (w h c : Int) : EvP (fun k => bitmap_New.f k w h c) (· = newR w h c) := by
  unfold bitmap_New.f
  refine EvP.ite (fun h1 => New_j0 w h c true (by simp [h1])) (fun h1 => ?_)
  refine EvP.ite (fun h2 => New_j0 w h c true (by simp [h2])) (fun h2 => ?_)
  refine EvP.ite (fun h3 => New_j0 w h c _ (by simp; omega)) (fun h3 => New_j0 w h c _ (by simp; omega))

theorem new0 {w h : Int} (hw : 0 ≤ w) (hh : 0 ≤ h) : newR w h 0 = if Sid w h then (w, h, tab w h (fun _ _ => 0), 0) else (0, 0, [], 4) := by
  unfold newR
  rw [if_neg (by omega)]

theorem combine_is {op a b : Int} (h0 : 0 ≤ op) (h1 : op ≤ 4) (a0 : 0 ≤ a) (a1 : a ≤ 1) (b0 : 0 ≤ b) (b1 : b ≤ 1) : bitmap_combine.f a b op = some (mixv op a b) := by
  rcases five h0 h1 with rfl | rfl | rfl | rfl | rfl <;> rcases bit a0 a1 with rfl | rfl <;> rcases bit b0 b1 with rfl | rfl <;> decide +kernel

theorem Valid_l0 (p : List Int) (hl : (p.length : Int) ≤ 9223372036854775807) : EvP (fun k => bitmap_Valid.l0 k p (p.length : Int) 0) (· = decide (∀ x ∈ p, x ≤ 1)) := by
  refine EvP.up (L := fun k i (_ : Unit) => bitmap_Valid.l0 k p (p.length : Int) i) (fun i _ => 0 ≤ i ∧ ∀ j, 0 ≤ j → j < i → rd p j ≤ 1) p.length ?_ 0 () (by omega) ⟨by omega, fun j _ _ => by omega⟩
  intro i _ ⟨h0, hb⟩ hi ih
  refine EvP.step (fun k => by rw [bitmap_Valid.l0]) ?_
  refine EvP.ite (fun h1 => ?_) (fun h1 => ?_)
  · refine EvP.pos h0 (EvP.pos h1 (EvP.ite (fun h2 => EvP.ret ?_) (fun h2 => ?_)))
    · symm
      rw [decide_eq_false_iff_not]
      intro hall
      have := hall _ (rd_mem h0 h1)
      omega
    · rw [w64 (by omega) (by omega)]
      refine ih () h1 ⟨by omega, fun j hj hj' => ?_⟩
      rcases Int.lt_or_le j i with hji | hji
      · exact hb j hj hji
      · have : j = i := by omega
        subst this
        omega
  · refine EvP.ret ?_
    symm
    rw [decide_eq_true_iff]
    intro x hx
    obtain ⟨n, hn, rfl⟩ := List.getElem_of_mem hx
    have := hb (n : Int) (by omega) (by omega)
    rwa [rd_get p n hn] at this
theorem Valid_is (w h : Int) (p : List Int) (hp : ∀ x ∈ p, 0 ≤ x) (hl : (p.length : Int) ≤ 9223372036854775807) : EvP (fun k => bitmap_Valid.f k w h p) (· = decide (Val w h p)) := by
  unfold bitmap_Valid.f
  refine EvP.bindv (fits_is w h) ?_
  refine EvP.ite (fun h1 => ?_) (fun h1 => ?_)
  · rw [decide_eq_true_iff] at h1
    have hm := sid_mul h1.1 h1.2.1 h1.2.2.1 h1.2.2.2.1
    rw [w64 (by omega) (by omega)]
    refine EvP.step (fun k => by rw [bitmap_Valid.j0]) ?_
    refine EvP.ite (fun h2 => EvP.ret ?_) (fun h2 => ?_)
    · symm
      rw [decide_eq_false_iff_not]
      intro v
      simp [v.2.2.2.2.2.1] at h2
    · refine (Valid_l0 p hl).mono ?_
      rintro r rfl
      have e : (p.length : Int) = w * h := by simpa using h2
      apply decide_eq_decide.mpr
      constructor
      · intro hall
        exact ⟨h1.1, h1.2.1, h1.2.2.1, h1.2.2.2.1, h1.2.2.2.2, e, fun x hx => ⟨hp x hx, hall x hx⟩⟩
      · intro v x hx
        exact (v.2.2.2.2.2.2 x hx).2
  · refine EvP.step (fun k => by rw [bitmap_Valid.j0]) ?_
    refine EvP.pos rfl (EvP.ret ?_)
    symm
    rw [decide_eq_false_iff_not]
    intro v
    exact h1 (decide_eq_true v.sid)

theorem at_is {w h : Int} {p : List Int} (v : Val w h p) (x y : Int) : bitmap_at.f w h p x y = some (pix w h p x y) := by
  unfold bitmap_at.f
  by_cases hc : 0 ≤ x ∧ x < w ∧ 0 ≤ y ∧ y < h
  · have hf := flat_lt hc.1 hc.2.1 hc.2.2.1 hc.2.2.2
    have hm := v.2.2.2.2.1
    have hl := v.2.2.2.2.2.1
    rw [if_neg (by omega), if_neg (by omega), if_neg (by omega), if_neg (by omega)]
    have e : wrap64 (y * w) = y * w := w64 (by omega) (by omega)
    rw [e, w64 (by omega) (by omega), if_pos hf.2.1, if_pos (by omega), pix_in hc.1 hc.2.1 hc.2.2.1 hc.2.2.2]
  · rw [pix_out hc]
    by_cases a : x < 0
    · rw [if_pos a]
    rw [if_neg a]
    by_cases b : y < 0
    · rw [if_pos b]
    rw [if_neg b]
    by_cases c : x ≥ w
    · rw [if_pos c]
    rw [if_neg c, if_pos (by omega)]

theorem clone_is (w h : Int) (p : List Int) (hl : p.length < 140737488355328) : bitmap_clone.f w h p = some (w, h, p) := by
  unfold bitmap_clone.f bytes_Clone.f
  simp only [Option.bind_some, List.length_nil, Nat.zero_add, List.nil_append]
  rw [if_pos hl]
  rfl

theorem isShift_is (x y : Int) : bitmap_isShift.f x y = some (decide (Shf x y)) := by
  unfold bitmap_isShift.f mn mx
  by_cases a : Shf x y
  · obtain ⟨b, c, d, e⟩ := a
    rw [if_pos (by split <;> omega)]
    refine congrArg some ?_
    rw [decide_eq_true (show Shf x y from ⟨b, c, d, e⟩), decide_eq_true (by split <;> omega)]
  · rw [decide_eq_false a]
    by_cases q : (if y < x then y else x) ≥ -100000
    · rw [if_pos q]
      refine congrArg some (decide_eq_false (fun r => a ?_))
      refine ⟨?_, ?_, ?_, ?_⟩ <;> (split at q <;> split at r <;> omega)
    · rw [if_neg q]

theorem Draw_l0 {w h : Int} {p : List Int} {w' h' : Int} {s : List Int} {x y op : Int} (v : Val w h p) (v' : Val w' h' s) (h0 : 0 ≤ op) (h1 : op ≤ 4) (hs : Shf x y) :
    EvP (fun k => bitmap_Draw.l0 k x y op h' 0 w h p w' h' s w h p) (· = (w, h, tab w h (drawG (pix w h p) w' h' s x y op), 0)) := by
  obtain ⟨hw, hh, w200, h200, hm⟩ := v.sid
  obtain ⟨hw', hh', w200', h200', _⟩ := v'.sid
  obtain ⟨sx0, sx1, sy0, sy1⟩ := hs
  have h00 : 0 ≤ w * h := Int.mul_nonneg hw hh
  have ep : EvP (fun k => bitmap_Draw.l0 k x y op h' 0 w h p w' h' s w h (tab w h (pix w h p))) (· = (w, h, tab w h (drawG (pix w h p) w' h' s x y op), 0)) := by
    refine EvP.rasterP (L0 := fun k j (l : List Int) => bitmap_Draw.l0 k x y op h' j w h p w' h' s w h l) (L1 := fun k j i (l : List Int) => bitmap_Draw.l1 k x y op j h' j w' i w h p w' h' s w h l) (W := w') (H := h')
      (fun i j => x + i) (fun i j => y + j) (fun u t => u - x) (fun u t => t - y) (pix w h p) (fun u t => mixv op (pix w h p u t) (pix w' h' s (u - x) (t - y))) hw' hh' hw hh ?_ ?_ ?_ ?_ ?_ ?_ ?_
    · intro i j a b c d
      exact ⟨by show x + i - x = i; omega, by show y + j - y = j; omega⟩
    · intro u t a b c d e f g' h'
      exact ⟨by show x + (u - x) = u; omega, by show y + (t - y) = t; omega⟩
    · intro j l a b hk
      refine EvP.step (fun k => by rw [bitmap_Draw.l0]) ?_
      exact EvP.pos b hk
    · refine EvP.step (fun k => by rw [bitmap_Draw.l0]) ?_
      exact EvP.neg (by omega) (EvP.ret rfl)
    · intro i j g' a b c d p0 p1 q0 q1 e hk
      have p0 : 0 ≤ x + i := p0
      have p1 : x + i < w := p1
      have q0 : 0 ≤ y + j := q0
      have q1 : y + j < h := q1
      have e1 := v.pix01 (x + i) (y + j)
      have hf := flat_lt p0 p1 q0 q1
      refine EvP.step (fun k => by rw [bitmap_Draw.l1]) ?_
      refine EvP.pos b ?_
      rw [w64 (x := x + i) (by omega) (by omega), w64 (x := y + j) (by omega) (by omega)]
      refine EvP.pos p0 (EvP.pos q0 (EvP.pos p1 ?_))
      refine EvP.step (fun k => by rw [bitmap_Draw.j3]) ?_
      refine EvP.pos (decide_eq_true q1) ?_
      rw [w64 (x := (y + j) * w) (by omega) (by omega), w64 (x := (y + j) * w + (x + i)) (by omega) (by omega)]
      refine EvP.pos hf.2.1 (EvP.pos (by rw [tab_length]; omega) ?_)
      refine EvP.bindv (at_is v' i j) ?_
      have e2 : g' (x + i) (y + j) = pix w h p (x + i) (y + j) := e
      rw [rd_tab_at _ _ _ _ _ p0 p1 q0 q1, e2]
      have e3 := v'.pix01 i j
      refine EvP.bindv (combine_is h0 h1 e1.1 e1.2 e3.1 e3.2) ?_
      rw [set_tab hw hh p0 p1 q0 q1, w64 (x := i + 1) (by omega) (by omega)]
      have e5 : x + i - x = i := by omega
      have e6 : y + j - y = j := by omega
      simp only [e5, e6] at hk
      exact hk
    · intro i j g' a b c d q hk
      have q : ¬ (0 ≤ x + i ∧ x + i < w ∧ 0 ≤ y + j ∧ y + j < h) := q
      have skip : EvP (fun k => bitmap_Draw.j3 k x y op j i (x + i) (y + j) h' j w' i false w h p w' h' s w h (tab w h g')) (· = (w, h, tab w h (drawG (pix w h p) w' h' s x y op), 0)) := by
        refine EvP.step (fun k => by rw [bitmap_Draw.j3]) ?_
        refine EvP.neg (by simp) ?_
        rw [w64 (x := i + 1) (by omega) (by omega)]
        exact hk
      refine EvP.step (fun k => by rw [bitmap_Draw.l1]) ?_
      refine EvP.pos b ?_
      rw [w64 (x := x + i) (by omega) (by omega), w64 (x := y + j) (by omega) (by omega)]
      refine EvP.ite (fun q1 => EvP.ite (fun q2 => EvP.ite (fun q3 => ?_) (fun q3 => skip)) (fun q2 => skip)) (fun q1 => skip)
      rw [decide_eq_false (show ¬ y + j < h by omega)]
      exact skip
    · intro j l a b hk
      refine EvP.step (fun k => by rw [bitmap_Draw.l1]) ?_
      refine EvP.neg (by omega) ?_
      rw [w64 (x := j + 1) (by omega) (by omega)]
      exact hk
  rw [← v.tab] at ep
  exact ep
theorem Draw_is (w h : Int) (p : List Int) (w' h' : Int) (s : List Int) (x y op : Int) (hp : ∀ x ∈ p, 0 ≤ x) (hl : (p.length : Int) ≤ 9223372036854775807) (hp' : ∀ x ∈ s, 0 ≤ x) (hl' : (s.length : Int) ≤ 9223372036854775807) :
    EvP (fun k => bitmap_Draw.f k w h p w' h' s x y op) (· = drawR w h p w' h' s x y op) := by
  unfold bitmap_Draw.f
  refine EvP.bind (Valid_is w h p hp hl) ?_
  rintro _ rfl
  refine EvP.ite (fun h1 => ?_) (fun h1 => ?_)
  · refine EvP.bind (Valid_is w' h' s hp' hl') ?_
    rintro _ rfl
    have v : Val w h p := by simpa using h1
    refine EvP.step (fun k => by rw [bitmap_Draw.j0]) ?_
    refine EvP.ite (fun h2 => EvP.ret ?_) (fun h2 => ?_)
    · unfold drawR
      rw [if_pos (fun q => by simp [q.2] at h2)]
    · have v' : Val w' h' s := by simpa using h2
      have hlen : (p.length : Int) ≤ 8192 := by rw [v.2.2.2.2.2.1]; exact v.2.2.2.2.1
      unfold drawR
      rw [if_neg (c := ¬ (Val w h p ∧ Val w' h' s)) (fun q => q ⟨v, v'⟩)]
      refine EvP.ite (fun a => EvP.ret (by rw [if_pos (.inl a)])) (fun a => ?_)
      refine EvP.ite (fun b => EvP.ret (by rw [if_pos (.inr (.inl b))])) (fun b => ?_)
      refine EvP.bindv (isShift_is x y) ?_
      refine EvP.ite (fun c => ?_) (fun c => EvP.ret (by rw [if_pos (.inr (.inr (by simpa using c)))]))
      have hs : Shf x y := by simpa using c
      rw [if_neg (fun q => q.elim a (fun q => q.elim b (fun q => q hs)))]
      refine EvP.bindv (clone_is w h p (by omega)) ?_
      exact Draw_l0 v v' (by omega) (by omega) hs
  · have v : ¬ Val w h p := by simpa using h1
    refine EvP.step (fun k => by rw [bitmap_Draw.j0]) ?_
    refine EvP.pos rfl (EvP.ret ?_)
    unfold drawR
    rw [if_pos (fun q => v q.1)]

theorem near_is (x : Int) : shape_near.f x = some (decide (-100000 ≤ x ∧ x ≤ 100000)) := by
  unfold shape_near.f
  by_cases a : x ≥ -100000
  · rw [if_pos a]
    exact congrArg some (decide_eq_decide.mpr ⟨fun q => ⟨a, q⟩, fun q => q.2⟩)
  · rw [if_neg a]
    exact congrArg some (decide_eq_false (fun q => a q.1)).symm
theorem PIndex_is (l : List S48) (hl : (l.length : Int) ≤ 9223372036854775807) (hc : ∀ b ∈ l, CP b) : EvP (fun k => slices_IndexFunc_85.f k l) (fun r => 0 ≤ r ↔ ∃ b ∈ l, ¬ VP b) := by
  unfold slices_IndexFunc_85.f
  refine EvP.up (L := fun k i (_ : Unit) => slices_IndexFunc_85.l0 k l (l.length : Int) i) (fun i _ => 0 ≤ i ∧ ∀ b ∈ l.take i.toNat, VP b) l.length ?_ 0 () (by omega) ⟨by omega, fun b hb => by simp at hb⟩
  intro i s ⟨i0, hs⟩ hi ih
  refine EvP.step (fun k => by rw [slices_IndexFunc_85.l0]) ?_
  refine EvP.ite (fun i1 => ?_) (fun i1 => ?_)
  · have ci := hc _ (rd48_mem i0 i1)
    have e : EvP (fun k => shape_rightPlaced_1.f k (rd_T48 l i).f0.f0 (rd_T48 l i).f0.f1 (rd_T48 l i).f0.f2 (rd_T48 l i).f1 (rd_T48 l i).f2) (· = !decide (VP (rd_T48 l i))) := by
      unfold shape_rightPlaced_1.f
      refine EvP.bind (Valid_is _ _ _ ci.1 ci.2) ?_
      rintro _ rfl
      exact EvP.ret rfl
    refine EvP.pos i0 (EvP.pos i1 (EvP.bind e ?_))
    rintro _ rfl
    refine EvP.ite (fun c => EvP.ret ?_) (fun c => ?_)
    · have c : ¬ VP (rd_T48 l i) := by simpa using c
      exact ⟨fun _ => ⟨_, rd48_mem i0 i1, c⟩, fun _ => i0⟩
    · have c : VP (rd_T48 l i) := by simpa using c
      rw [w64 (by omega) (by omega)]
      refine ih () i1 ⟨by omega, fun b hb => ?_⟩
      rw [take48 i0 i1] at hb
      rcases List.mem_append.mp hb with hb | hb
      · exact hs b hb
      · rw [List.mem_singleton.mp hb]; exact c
  · refine EvP.ret ⟨fun h => by omega, fun ⟨b, a, c⟩ => absurd (hs b ?_) c⟩
    rw [show i.toNat = l.length by omega, List.take_length]
    exact a
theorem right_is (l : List S48) (hl : (l.length : Int) ≤ 9223372036854775807) (hc : ∀ b ∈ l, CP b) : EvP (fun k => shape_rightPlaced.f k l) (· = !decide (∃ b ∈ l, ¬ VP b)) := by
  unfold shape_rightPlaced.f
  have : EvP (fun k => slices_ContainsFunc_85.f k l) (· = decide (∃ b ∈ l, ¬ VP b)) := by
    unfold slices_ContainsFunc_85.f
    refine EvP.bind (PIndex_is l hl hc) (fun r hr => EvP.ret ?_)
    exact decide_eq_decide.mpr hr
  refine EvP.bind this ?_
  rintro _ rfl
  exact EvP.ret rfl
theorem Draw15_l0 {w h : Int} {l : List S48} (s : Sid w h) (hv : ∀ b ∈ l, VP b) (hl : (l.length : Int) ≤ 9223372036854775806) : EvP (fun k => shape_Draw.l0 k l (l.length : Int) 0 w h (tab w h (fun _ _ => 0))) (· = drQ w h l) := by
  have nb : ¬ (¬ Sid w h ∨ ∃ b ∈ l, ¬ VP b) := fun q => q.elim (fun q => q s) (fun ⟨b, hb, q⟩ => q (hv b hb))
  refine EvP.up (L := fun k i (p : List Int) => shape_Draw.l0 k l (l.length : Int) i w h p) (fun i p => 0 ≤ i ∧ p = tab w h (orL (l.take i.toNat)) ∧ ∀ b ∈ l.take i.toNat, NP b) l.length ?_ 0 _ (by omega) ⟨by omega, rfl, fun b hb => by simp at hb⟩
  intro i p ⟨i0, hp, hn⟩ hi ih
  refine EvP.step (fun k => by rw [shape_Draw.l0]) ?_
  refine EvP.ite (fun i1 => ?_) (fun i1 => EvP.ret ?_)
  · have hm := rd48_mem i0 i1
    have hb := hv _ hm
    have far : ¬ NP (rd_T48 l i) → (0, 0, [], 2) = drQ w h l := fun q => by
      unfold drQ
      rw [if_neg nb, if_pos ⟨_, hm, q⟩]
    refine EvP.pos i0 (EvP.pos i1 (EvP.bindv (near_is _) ?_))
    refine EvP.ite (fun c => ?_) (fun c => EvP.ret (far (fun q => c (decide_eq_true ⟨q.1, q.2.1⟩))))
    have c := of_decide_eq_true c
    refine EvP.bindv (near_is _) ?_
    refine EvP.ite (fun d => ?_) (fun d => EvP.ret (far (fun q => d (decide_eq_true ⟨q.2.2.1, q.2.2.2⟩))))
    have d := of_decide_eq_true d
    have hs : NP (rd_T48 l i) := ⟨c.1, c.2, d.1, d.2⟩
    have vp : Val w h p := by rw [hp]; exact val_tab s (fun u t _ _ _ _ => orL_01 _ u t)
    have lp : (p.length : Int) ≤ 8192 := by rw [vp.2.2.2.2.2.1]; exact vp.2.2.2.2.1
    have lb : ((rd_T48 l i).f0.f2.length : Int) ≤ 8192 := by rw [hb.2.2.2.2.2.1]; exact hb.2.2.2.2.1
    refine EvP.bind (Draw_is w h p _ _ _ _ _ 1 (fun z hz => (val_byt vp z hz).1) (by omega) (fun z hz => (val_byt hb z hz).1) (by omega)) ?_
    rintro _ rfl
    have e : drawR w h p (rd_T48 l i).f0.f0 (rd_T48 l i).f0.f1 (rd_T48 l i).f0.f2 (rd_T48 l i).f1 (rd_T48 l i).f2 1 = (w, h, tab w h (orL (l.take (i + 1).toNat)), 0) := by
      unfold drawR
      rw [if_neg (fun q => q ⟨vp, hb⟩), if_neg (fun q => q.elim (by omega) (fun q => q.elim (by omega) (fun q => q hs))), take48 i0 i1, ← draw_step s hb, hp]
    rw [e, w64 (x := i + 1) (by omega) (by omega)]
    refine ih _ i1 ⟨by omega, rfl, fun b hb => ?_⟩
    rw [take48 i0 i1] at hb
    rcases List.mem_append.mp hb with hb | hb
    · exact hn b hb
    · rw [List.mem_singleton.mp hb]; exact hs
  · have e : l.take i.toNat = l := by rw [show i.toNat = l.length by omega, List.take_length]
    rw [e] at hp hn
    unfold drQ
    rw [if_neg nb, if_neg (fun ⟨b, hb, q⟩ => q (hn b hb)), hp]
theorem Draw15_is (w h : Int) (l : List S48) (hc : ∀ b ∈ l, CP b) (hl : (l.length : Int) ≤ 9223372036854775806) : EvP (fun k => shape_Draw.f k w h l) (· = drQ w h l) := by
  have bad : ¬ Sid w h ∨ (∃ b ∈ l, ¬ VP b) → ∀ x y p, EvP (fun k => shape_Draw.j0 k l true x y p) (· = drQ w h l) := fun q x y p => by
    refine EvP.step (fun k => by rw [shape_Draw.j0]) (EvP.pos rfl (EvP.ret ?_))
    unfold drQ
    rw [if_pos q]
  unfold shape_Draw.f
  refine EvP.bind (New_is w h 0) ?_
  rintro _ rfl
  refine EvP.ite (fun e => ?_) (fun e => bad (.inl (fun s => e ?_)) _ _ _)
  · have s : Sid w h := by
      refine Classical.not_not.mp (fun q => ?_)
      unfold newR at e
      rw [if_neg q] at e
      split at e <;> exact absurd e (by decide)
    have en := new0 s.1 s.2.1
    rw [if_pos s] at en
    rw [en]
    refine EvP.bind (right_is l (by omega) hc) ?_
    rintro _ rfl
    by_cases q : ∃ b ∈ l, ¬ VP b
    · rw [decide_eq_true q]
      exact bad (.inr q) _ _ _
    · rw [decide_eq_false q]
      refine EvP.step (fun k => by rw [shape_Draw.j0]) ?_
      refine EvP.neg (by simp) ?_
      exact Draw15_l0 s (fun b hb => Classical.not_not.mp (fun z => q ⟨b, hb, z⟩)) hl
  · rw [new0 s.1 s.2.1, if_pos s]

theorem Sides_is (w h : Int) : incunableref05_Sides.f w h = some (decide (Sid w h)) := by
  unfold incunableref05_Sides.f
  by_cases h1 : 0 ≤ w ∧ 0 ≤ h ∧ w ≤ 200 ∧ h ≤ 200
  · obtain ⟨a, b, c, d⟩ := h1
    have := sid_mul a b c d
    rw [if_pos (by omega), if_pos (by omega), if_pos c, if_pos d, w64 (by omega) (by omega)]
    simp [Sid, a, b, c, d]
  · have h2 : ¬ Sid w h := fun s => h1 ⟨s.1, s.2.1, s.2.2.1, s.2.2.2.1⟩
    simp only [h2, decide_false]
    split
    · split
      · split
        · split
          · omega
          · rfl
        · rfl
      · rfl
    · rfl

theorem make2_l0 (w h c : Int) (a b : Int) (hw : 0 ≤ w) (hh : 0 ≤ h) (hw' : w ≤ 200) (hh' : h ≤ 200) : EvP (fun k => incunableref05_make2.l0 k w h c 0 a b []) (· = (a, b, List.replicate (w * h).toNat (c % 256))) := by
  have hm := sid_mul hw hh hw' hh'
  refine EvP.up (L := fun k i (s : List Int) => incunableref05_make2.l0 k w h c i a b s) (fun i s => 0 ≤ i ∧ s = List.replicate i.toNat (c % 256)) (w * h) ?_ 0 [] (by omega) ⟨by omega, rfl⟩
  intro i s ⟨h0, hs⟩ hi ih
  subst hs
  refine EvP.step (fun k => by rw [incunableref05_make2.l0]) ?_
  rw [w64 (x := w * h) (by omega) (by omega)]
  refine EvP.ite (fun h1 => ?_) (fun h1 => ?_)
  · refine EvP.pos (by rw [List.length_replicate]; omega) ?_
    rw [w64 (by omega) (by omega)]
    refine ih _ h1 ⟨by omega, ?_⟩
    rw [show (i + 1).toNat = i.toNat + 1 by omega, List.replicate_succ']
  · have : i = w * h := by omega
    subst this
    exact EvP.ret rfl
theorem make2_is (w h c : Int) (hw : 0 ≤ w) (hh : 0 ≤ h) (hw' : w ≤ 200) (hh' : h ≤ 200) : EvP (fun k => incunableref05_make2.f k w h c) (· = (w, h, tab w h (fun _ _ => c % 256))) := by
  unfold incunableref05_make2.f
  refine (make2_l0 w h c w h hw hh hw' hh').mono ?_
  rintro r rfl
  rw [replicate_tab hw hh]

theorem refNew_j0 (w h c : Int) (b : Bool) (hb : b = true ↔ (w < 0 ∨ h < 0 ∨ (c ≠ 0 ∧ c ≠ 1))) : EvP (fun k => incunableref05_New.j0 k w h c b) (· = newR w h c) := by
  refine EvP.step (fun k => by rw [incunableref05_New.j0]) ?_
  refine EvP.ite (fun h1 => EvP.ret ?_) (fun h1 => ?_)
  · unfold newR
    rw [if_pos (hb.mp h1)]
  · have hn : ¬ (w < 0 ∨ h < 0 ∨ (c ≠ 0 ∧ c ≠ 1)) := fun q => h1 (hb.mpr q)
    unfold newR
    rw [if_neg hn]
    refine EvP.bindv (Sides_is w h) ?_
    by_cases s : Sid w h
    · refine EvP.pos (decide_eq_true s) ?_
      refine EvP.bind (make2_is w h c s.1 s.2.1 s.2.2.1 s.2.2.2.1) ?_
      rintro _ rfl
      rw [if_pos s]
      refine EvP.ret ?_
      rw [show c % 256 = c by omega]
    · refine EvP.neg (by simpa using s) (EvP.ret ?_)
      rw [if_neg s]
theorem refNew_is (w h c : Int) : EvP (fun k => incunableref05_New.f k w h c) (· = newR w h c) := by
  unfold incunableref05_New.f
  refine EvP.ite (fun h1 => refNew_j0 w h c true (by simp [h1])) (fun h1 => ?_)
  refine EvP.ite (fun h2 => refNew_j0 w h c true (by simp [h2])) (fun h2 => ?_)
  refine EvP.ite (fun h3 => refNew_j0 w h c _ (by simp; omega)) (fun h3 => refNew_j0 w h c _ (by simp; omega))

theorem inside_is (w h : Int) (p : List Int) (x y : Int) : incunableref05_inside.f w h p x y = some (decide (0 ≤ x ∧ x < w ∧ 0 ≤ y ∧ y < h)) := by
  unfold incunableref05_inside.f
  by_cases a : x ≥ 0
  · rw [if_pos a]
    by_cases b : y ≥ 0
    · rw [if_pos b]
      by_cases c : x < w
      · rw [if_pos c]
        exact congrArg some (decide_eq_decide.mpr ⟨fun q => by omega, fun q => by omega⟩)
      · rw [if_neg c]
        exact congrArg some (decide_eq_false (by omega)).symm
    · rw [if_neg b]
      exact congrArg some (decide_eq_false (by omega)).symm
  · rw [if_neg a]
    exact congrArg some (decide_eq_false (by omega)).symm

theorem At_is {w h : Int} {p : List Int} (v : Val w h p) (x y : Int) : incunableref05_At.f w h p x y = some (pix w h p x y) := by
  unfold incunableref05_At.f
  rw [inside_is, Option.bind_some]
  by_cases hc : 0 ≤ x ∧ x < w ∧ 0 ≤ y ∧ y < h
  · have hf := flat_lt hc.1 hc.2.1 hc.2.2.1 hc.2.2.2
    have hm := v.2.2.2.2.1
    have hl := v.2.2.2.2.2.1
    have e : wrap64 (y * w) = y * w := w64 (by omega) (by omega)
    have hr := v.2.2.2.2.2.2 _ (rd_mem (l := p) hf.2.1 (by omega))
    rw [if_pos (decide_eq_true hc), e, w64 (by omega) (by omega), if_pos hf.2.1, if_pos (by omega), w64 (by omega) (by omega), pix_in hc.1 hc.2.1 hc.2.2.1 hc.2.2.2]
  · rw [if_neg (by simpa using hc), pix_out hc]

theorem Put_is {w h : Int} {g : Int → Int → Int} {x y v : Int} (hw : 0 ≤ w) (hh : 0 ≤ h) (hm : w * h ≤ 40000) (hx0 : 0 ≤ x) (hx : x < w) (hy0 : 0 ≤ y) (hy : y < h) :
    incunableref05_Put.f w h (tab w h g) x y v = some (tab w h (upd g x y (v % 256))) := by
  have h0 : 0 ≤ w * h := Int.mul_nonneg hw hh
  have hf := flat_lt hx0 hx hy0 hy
  unfold incunableref05_Put.f
  have e : wrap64 (y * w) = y * w := w64 (by omega) (by omega)
  rw [e, w64 (by omega) (by omega), if_pos hf.2.1, if_pos (by rw [tab_length]; omega), set_tab hw hh hx0 hx hy0 hy]

theorem Mix_all {op a b : Int} (h0 : 0 ≤ op) (h1 : op ≤ 4) (a0 : 0 ≤ a) (a1 : a ≤ 1) (b0 : 0 ≤ b) (b1 : b ≤ 1) :
    incunableref05_Mix.f op a b = some (mixv op a b) ∧ 0 ≤ mixv op a b ∧ mixv op a b ≤ 1 := by
  refine ⟨?_, mix_01 h0 h1 a0 a1 b0 b1⟩
  rcases five h0 h1 with rfl | rfl | rfl | rfl | rfl <;> rcases bit a0 a1 with rfl | rfl <;> rcases bit b0 b1 with rfl | rfl <;> decide +kernel

theorem At_tab {w h : Int} {g : Int → Int → Int} {x y : Int} (hw : 0 ≤ w) (hh : 0 ≤ h) (hm : w * h ≤ 40000) (hx0 : 0 ≤ x) (hx : x < w) (hy0 : 0 ≤ y) (hy : y < h) (g0 : 0 ≤ g x y) (g1 : g x y ≤ 255) : incunableref05_At.f w h (tab w h g) x y = some (g x y) := by
  have h0 : 0 ≤ w * h := Int.mul_nonneg hw hh
  unfold incunableref05_At.f
  rw [inside_is, Option.bind_some]
  have hf := flat_lt hx0 hx hy0 hy
  have e : wrap64 (y * w) = y * w := w64 (by omega) (by omega)
  rw [if_pos (decide_eq_true ⟨hx0, hx, hy0, hy⟩), e, w64 (by omega) (by omega), if_pos hf.2.1, if_pos (by rw [tab_length]; omega), rd_tab_at _ _ _ _ _ hx0 hx hy0 hy, w64 (by omega) (by omega)]
theorem Lay_is {w h : Int} {g : Int → Int → Int} {w' h' : Int} {s : List Int} {x y op : Int} (sd : Sid w h) (hg : ∀ u t, 0 ≤ u → u < w → 0 ≤ t → t < h → 0 ≤ g u t ∧ g u t ≤ 1) (v : Val w' h' s) (h0 : 0 ≤ op) (h1 : op ≤ 4) (hs : Shf x y) :
    EvP (fun k => incunableref05_Lay.f k w h (tab w h g) w' h' s x y op) (· = tab w h (drawG g w' h' s x y op)) := by
  obtain ⟨hw, hh, w200, h200, hm⟩ := sd
  obtain ⟨hw', hh', w200', h200', _⟩ := v.sid
  obtain ⟨sx0, sx1, sy0, sy1⟩ := hs
  unfold incunableref05_Lay.f
  refine EvP.rasterP (L0 := fun k j (l : List Int) => incunableref05_Lay.l0 k x y op j w h l w' h' s) (L1 := fun k j i (l : List Int) => incunableref05_Lay.l1 k x y op j i w h l w' h' s) (W := w') (H := h')
    (fun i j => x + i) (fun i j => y + j) (fun u t => u - x) (fun u t => t - y) g (fun u t => mixv op (g u t) (pix w' h' s (u - x) (t - y))) hw' hh' hw hh ?_ ?_ ?_ ?_ ?_ ?_ ?_
  · intro i j a b c d
    exact ⟨by show x + i - x = i; omega, by show y + j - y = j; omega⟩
  · intro u t a b c d e f g' h'
    exact ⟨by show x + (u - x) = u; omega, by show y + (t - y) = t; omega⟩
  · intro j l a b hk
    refine EvP.step (fun k => by rw [incunableref05_Lay.l0]) ?_
    exact EvP.pos b hk
  · refine EvP.step (fun k => by rw [incunableref05_Lay.l0]) ?_
    exact EvP.neg (by omega) (EvP.ret rfl)
  · intro i j g' a b c d p0 p1 q0 q1 e hk
    have e1 := hg _ _ p0 p1 q0 q1
    refine EvP.step (fun k => by rw [incunableref05_Lay.l1]) ?_
    refine EvP.pos b ?_
    rw [w64 (x := x + i) (by omega) (by omega), w64 (x := y + j) (by omega) (by omega)]
    refine EvP.bindv (inside_is _ _ _ _ _) ?_
    refine EvP.pos (decide_eq_true ⟨p0, p1, q0, q1⟩) ?_
    have e2 : g' (x + i) (y + j) = g (x + i) (y + j) := e
    refine EvP.bindv (At_tab hw hh (by omega) p0 p1 q0 q1 (by rw [e2]; exact e1.1) (by rw [e2]; omega)) ?_
    refine EvP.bindv (At_is v i j) ?_
    have e3 := v.pix01 i j
    have e4 := Mix_all h0 h1 e1.1 e1.2 e3.1 e3.2
    rw [e2]
    refine EvP.bindv e4.1 ?_
    refine EvP.bindv (Put_is hw hh (by omega) p0 p1 q0 q1) ?_
    rw [w64 (x := i + 1) (by omega) (by omega), show mixv op (g (x + i) (y + j)) (pix w' h' s i j) % 256 = mixv op (g (x + i) (y + j)) (pix w' h' s i j) by omega]
    have e5 : x + i - x = i := by omega
    have e6 : y + j - y = j := by omega
    simp only [e5, e6] at hk
    exact hk
  · intro i j g' a b c d q hk
    refine EvP.step (fun k => by rw [incunableref05_Lay.l1]) ?_
    refine EvP.pos b ?_
    rw [w64 (x := x + i) (by omega) (by omega), w64 (x := y + j) (by omega) (by omega)]
    refine EvP.bindv (inside_is _ _ _ _ _) ?_
    refine EvP.neg (by simpa using q) ?_
    rw [w64 (x := i + 1) (by omega) (by omega)]
    exact hk
  · intro j l a b hk
    refine EvP.step (fun k => by rw [incunableref05_Lay.l1]) ?_
    refine EvP.neg (by omega) ?_
    rw [w64 (x := j + 1) (by omega) (by omega)]
    exact hk

theorem refValid_l0 (w h : Int) (p : List Int) (hl : (p.length : Int) ≤ 9223372036854775807) : EvP (fun k => incunableref05_Valid.l0 k 0 w h p) (· = decide (∀ x ∈ p, x ≤ 1)) := by
  refine EvP.up (L := fun k i (_ : Unit) => incunableref05_Valid.l0 k i w h p) (fun i _ => 0 ≤ i ∧ ∀ j, 0 ≤ j → j < i → rd p j ≤ 1) p.length ?_ 0 () (by omega) ⟨by omega, fun j _ _ => by omega⟩
  intro i _ ⟨h0, hb⟩ hi ih
  refine EvP.step (fun k => by rw [incunableref05_Valid.l0]) ?_
  refine EvP.ite (fun h1 => ?_) (fun h1 => ?_)
  · refine EvP.pos h0 (EvP.ite (fun h2 => EvP.ret ?_) (fun h2 => ?_))
    · symm
      rw [decide_eq_false_iff_not]
      intro hall
      have := hall _ (rd_mem h0 h1)
      omega
    · rw [w64 (by omega) (by omega)]
      refine ih () h1 ⟨by omega, fun j hj hj' => ?_⟩
      rcases Int.lt_or_le j i with hji | hji
      · exact hb j hj hji
      · have : j = i := by omega
        subst this
        omega
  · refine EvP.ret ?_
    symm
    rw [decide_eq_true_iff]
    intro x hx
    obtain ⟨n, hn, rfl⟩ := List.getElem_of_mem hx
    have := hb (n : Int) (by omega) (by omega)
    rwa [rd_get p n hn] at this
theorem refValid_is (w h : Int) (p : List Int) (hp : ∀ x ∈ p, 0 ≤ x) (hl : (p.length : Int) ≤ 9223372036854775807) : EvP (fun k => incunableref05_Valid.f k w h p) (· = decide (Val w h p)) := by
  unfold incunableref05_Valid.f
  refine EvP.bindv (Sides_is w h) ?_
  refine EvP.ite (fun h1 => ?_) (fun h1 => ?_)
  · rw [decide_eq_true_iff] at h1
    have hm := sid_mul h1.1 h1.2.1 h1.2.2.1 h1.2.2.2.1
    rw [w64 (by omega) (by omega)]
    refine EvP.step (fun k => by rw [incunableref05_Valid.j0]) ?_
    refine EvP.ite (fun h2 => EvP.ret ?_) (fun h2 => ?_)
    · symm
      rw [decide_eq_false_iff_not]
      intro v
      simp [v.2.2.2.2.2.1] at h2
    · refine (refValid_l0 w h p hl).mono ?_
      rintro r rfl
      have e : (p.length : Int) = w * h := by simpa using h2
      apply decide_eq_decide.mpr
      constructor
      · intro hall
        exact ⟨h1.1, h1.2.1, h1.2.2.1, h1.2.2.2.1, h1.2.2.2.2, e, fun x hx => ⟨hp x hx, hall x hx⟩⟩
      · intro v x hx
        exact (v.2.2.2.2.2.2 x hx).2
  · refine EvP.step (fun k => by rw [incunableref05_Valid.j0]) ?_
    refine EvP.pos rfl (EvP.ret ?_)
    symm
    rw [decide_eq_false_iff_not]
    intro v
    exact h1 (decide_eq_true v.sid)

theorem refDraw15_l1 {w h : Int} {l : List S48} (s : Sid w h) (hv : ∀ b ∈ l, VP b) (hl : (l.length : Int) ≤ 9223372036854775806) : EvP (fun k => incunableref15_Draw.l1 k l 0 w h (tab w h (fun _ _ => 0))) (· = drQ w h l) := by
  have nb : ¬ (¬ Sid w h ∨ ∃ b ∈ l, ¬ VP b) := fun q => q.elim (fun q => q s) (fun ⟨b, hb, q⟩ => q (hv b hb))
  refine EvP.up (L := fun k i (p : List Int) => incunableref15_Draw.l1 k l i w h p) (fun i p => 0 ≤ i ∧ p = tab w h (orL (l.take i.toNat)) ∧ ∀ b ∈ l.take i.toNat, NP b) l.length ?_ 0 _ (by omega) ⟨by omega, rfl, fun b hb => by simp at hb⟩
  rintro i p ⟨i0, rfl, hn⟩ hi ih
  refine EvP.step (fun k => by rw [incunableref15_Draw.l1]) ?_
  refine EvP.ite (fun i1 => ?_) (fun i1 => EvP.ret ?_)
  · have hm := rd48_mem i0 i1
    have hb := hv _ hm
    have far : ¬ NP (rd_T48 l i) → (0, 0, [], 2) = drQ w h l := fun q => by
      unfold drQ
      rw [if_neg nb, if_pos ⟨_, hm, q⟩]
    refine EvP.pos i0 ?_
    refine EvP.ite (fun c => EvP.ret (far (fun q => absurd q.1 (by omega)))) (fun c1 => ?_)
    refine EvP.ite (fun c => EvP.ret (far (fun q => absurd q.2.1 (by omega)))) (fun c2 => ?_)
    refine EvP.ite (fun c => EvP.ret (far (fun q => absurd q.2.2.1 (by omega)))) (fun c3 => ?_)
    refine EvP.ite (fun c => EvP.ret (far (fun q => absurd q.2.2.2 (by omega)))) (fun c4 => ?_)
    have hs : NP (rd_T48 l i) := ⟨by omega, by omega, by omega, by omega⟩
    refine EvP.bind (Lay_is (op := 1) s (fun u t _ _ _ _ => orL_01 _ u t) hb (by omega) (by omega) hs) ?_
    rintro _ rfl
    have e : tab w h (drawG (orL (l.take i.toNat)) (rd_T48 l i).f0.f0 (rd_T48 l i).f0.f1 (rd_T48 l i).f0.f2 (rd_T48 l i).f1 (rd_T48 l i).f2 1) = tab w h (orL (l.take (i + 1).toNat)) := by
      rw [take48 i0 i1]
      exact tab_congr s.1 s.2.1 (fun u t _ _ _ _ => (orL_snoc hb u t).symm)
    rw [e, w64 (x := i + 1) (by omega) (by omega)]
    refine ih _ i1 ⟨by omega, rfl, fun b hb => ?_⟩
    rw [take48 i0 i1] at hb
    rcases List.mem_append.mp hb with hb | hb
    · exact hn b hb
    · rw [List.mem_singleton.mp hb]; exact hs
  · have e : l.take i.toNat = l := by rw [show i.toNat = l.length by omega, List.take_length]
    rw [e] at hn ⊢
    unfold drQ
    rw [if_neg nb, if_neg (fun ⟨b, hb, q⟩ => q (hn b hb))]
theorem refDraw15_is (w h : Int) (l : List S48) (hc : ∀ b ∈ l, CP b) (hl : (l.length : Int) ≤ 9223372036854775806) : EvP (fun k => incunableref15_Draw.f k w h l) (· = drQ w h l) := by
  unfold incunableref15_Draw.f
  refine EvP.bindv (Sides_is w h) ?_
  refine EvP.ite (fun s => ?_) (fun s => EvP.ret (by unfold drQ; rw [if_pos (.inl (by simpa using s))]))
  have s : Sid w h := by simpa using s
  refine EvP.up (L := fun k i (_ : Unit) => incunableref15_Draw.l0 k w h l i) (fun i _ => 0 ≤ i ∧ ∀ b ∈ l.take i.toNat, VP b) l.length ?_ 0 () (by omega) ⟨by omega, fun b hb => by simp at hb⟩
  intro i _ ⟨i0, hs⟩ hi ih
  refine EvP.step (fun k => by rw [incunableref15_Draw.l0]) ?_
  refine EvP.ite (fun i1 => ?_) (fun i1 => ?_)
  · have ci := hc _ (rd48_mem i0 i1)
    refine EvP.pos i0 ?_
    refine EvP.bind (refValid_is _ _ _ ci.1 ci.2) ?_
    rintro _ rfl
    refine EvP.ite (fun c => ?_) (fun c => EvP.ret (by unfold drQ; rw [if_pos (.inr ⟨_, rd48_mem i0 i1, fun v => c (decide_eq_true v)⟩)]))
    have c : VP (rd_T48 l i) := of_decide_eq_true c
    rw [w64 (by omega) (by omega)]
    refine ih () i1 ⟨by omega, fun b hb => ?_⟩
    rw [take48 i0 i1] at hb
    rcases List.mem_append.mp hb with hb | hb
    · exact hs b hb
    · rw [List.mem_singleton.mp hb]; exact c
  · rw [show i.toNat = l.length by omega, List.take_length] at hs
    refine EvP.bind (refNew_is w h 0) ?_
    rintro _ rfl
    rw [new0 s.1 s.2.1, if_pos s]
    exact refDraw15_l1 s hs hl

theorem Sane15_is : EvP (fun k => incunablelaw15_Sane.f k) (· = true) :=
  ⟨true, Ev.of (fun k => incunablelaw15_Sane.mono k) (k := 60) (by decide +kernel), rfl⟩

theorem qm {q n : Int} (hn : 0 < n) (hn' : n ≤ 4000000000000000000) (h0 : -9223372036854775808 ≤ q) (h1 : q ≤ 9223372036854775807) : Int.tmod (wrap64 (Int.tmod q n + n)) n = q % n := by
  rcases Int.lt_or_le q 0 with h | h
  · have e : Int.tmod q n = -((-q) % n) := by
      rw [show q = -(-q) by omega, Int.neg_tmod, tmod_pos (by omega)]
      simp
    have r0 := Int.emod_nonneg (-q) (show n ≠ 0 by omega)
    have r1 := Int.emod_lt_of_pos (-q) hn
    rw [e, w64 (by omega) (by omega), tmod_pos (by omega)]
    have e2 := Int.emod_add_mul_ediv (-q) n
    have e3 : -(-q % n) + n = q + n * (1 + -q / n) := by rw [Int.mul_add]; omega
    rw [e3, Int.add_mul_emod_self_left]
  · have r0 := Int.emod_nonneg q (show n ≠ 0 by omega)
    have r1 := Int.emod_lt_of_pos q hn
    rw [tmod_pos h, w64 (by omega) (by omega), tmod_pos (by omega), Int.add_emod_right, Int.emod_emod_of_dvd _ (Int.dvd_refl n)]

theorem drQ_turn (w h : Int) (l : List S48) (n : Nat) : drQ w h (l.drop n ++ l.take n) = drQ w h l := by
  have hm : ∀ b, b ∈ l.drop n ++ l.take n ↔ b ∈ l := fun b => by
    rw [List.mem_append]
    conv => rhs; rw [← List.take_append_drop n l, List.mem_append]
    exact Or.comm
  have e1 : (∃ b ∈ l.drop n ++ l.take n, ¬ VP b) ↔ ∃ b ∈ l, ¬ VP b := ⟨fun ⟨b, a, c⟩ => ⟨b, (hm b).mp a, c⟩, fun ⟨b, a, c⟩ => ⟨b, (hm b).mpr a, c⟩⟩
  have e2 : (∃ b ∈ l.drop n ++ l.take n, ¬ NP b) ↔ ∃ b ∈ l, ¬ NP b := ⟨fun ⟨b, a, c⟩ => ⟨b, (hm b).mp a, c⟩, fun ⟨b, a, c⟩ => ⟨b, (hm b).mpr a, c⟩⟩
  have e3 : orL (l.drop n ++ l.take n) = orL l := by
    funext u t
    unfold orL
    have : ((l.drop n ++ l.take n).any fun b => decide (plc b u t = 1)) = l.any fun b => decide (plc b u t = 1) := by
      rw [List.any_append, Bool.or_comm, ← List.any_append, List.take_append_drop]
    rw [this]
  unfold drQ
  simp only [e1, e2, e3]
theorem count_is (l : List S48) (hl : (l.length : Int) ≤ 9223372036854775806) : EvP (fun k => incunablelaw15_count.f k l) (fun _ => True) := by
  unfold incunablelaw15_count.f
  refine EvP.up (L := fun k i (s : Int) => incunablelaw15_count.l0 k l s i) (fun i _ => 0 ≤ i) l.length ?_ 0 _ (by omega) (by omega)
  intro i s i0 hi ih
  refine EvP.step (fun k => by rw [incunablelaw15_count.l0]) ?_
  refine EvP.ite (fun i1 => EvP.pos i0 ?_) (fun i1 => EvP.ret trivial)
  rw [w64 (x := i + 1) (by omega) (by omega)]
  exact ih _ i1 (by omega)
theorem ShapeDraws : incunablelaw15_ShapeDraws.Pure := by
  intro w h l n _ _ hl hn
  have hc : ∀ b ∈ l, CP b := fun b hb => by
    obtain ⟨⟨_, _, h3⟩, _⟩ := hl.2.2 b hb
    exact ⟨fun z hz => (wf_byt h3.2.2 z hz).1, by have := h3.1; omega⟩
  have hl2 : (l.length : Int) ≤ 2513169434843 := by have := hl.2.1; omega
  obtain ⟨n0, n1⟩ := wf_i64 hn
  have sane : EvP (fun k => (incunablelaw15_Sane.f k).bind fun t => some t) (· = true) := by
    refine EvP.bind Sane15_is ?_
    rintro _ rfl
    exact EvP.ret rfl
  refine EvP.rounds ?_
  unfold incunablelaw15_ShapeDraws.f
  refine EvP.bind (count_is l (by omega)) (fun c _ => ?_)
  refine EvP.ite (fun _ => sane) (fun _ => ?_)
  refine EvP.bind (Draw15_is w h l hc (by omega)) ?_
  rintro _ rfl
  refine EvP.bind (refDraw15_is w h l hc (by omega)) ?_
  rintro _ rfl
  refine EvP.pos rfl ?_
  refine EvP.bindv (refSame_is _ _ _ _ _ _ (drQ_byt w h l) (drQ_byt w h l)) ?_
  refine EvP.step (fun k => by rw [incunablelaw15_ShapeDraws.j0]) ?_
  refine EvP.neg (by simp) ?_
  have last : EvP (fun k => incunablelaw15_ShapeDraws.j1 k w h l n true (drQ w h l).1 (drQ w h l).2.1 (drQ w h l).2.2.1) (· = true) := EvP.step (fun k => by rw [incunablelaw15_ShapeDraws.j1]) (EvP.pos rfl sane)
  refine EvP.ite (fun ok => ?_) (fun _ => last)
  by_cases z : l.length = 0
  · rw [show ((l.length : Int) == 0) = true by simp [z]]
    exact last
  · rw [show ((l.length : Int) == 0) = false by simp [z]]
    refine EvP.step (fun k => by rw [incunablelaw15_ShapeDraws.j1]) ?_
    refine EvP.neg (by simp) (EvP.neg (by omega) ?_)
    have eq : Int.tmod (wrap64 ((Int.tmod n (l.length : Int)) + (l.length : Int))) (l.length : Int) = n % (l.length : Int) := qm (by omega) (by omega) (by omega) (by omega)
    have r0 := Int.emod_nonneg n (show (l.length : Int) ≠ 0 by omega)
    have r1 := Int.emod_lt_of_pos n (show 0 < (l.length : Int) by omega)
    rw [eq]
    simp only [Option.bind_some, List.nil_append]
    refine EvP.pos r0 (EvP.pos (by omega) (EvP.pos (by rw [List.length_nil, List.length_drop]; omega) (EvP.pos (by rw [List.length_drop, List.length_take]; omega) ?_)))
    refine EvP.bind (Draw15_is w h (l.drop (n % (l.length : Int)).toNat ++ l.take (n % (l.length : Int)).toNat) (fun b hb => hc b ?_) (by rw [List.length_append, List.length_drop, List.length_take]; omega)) ?_
    · rcases List.mem_append.mp hb with hb | hb
      · exact List.mem_of_mem_drop hb
      · exact List.mem_of_mem_take hb
    rintro _ rfl
    rw [drQ_turn]
    refine EvP.pos ok ?_
    refine EvP.bindv (refSame_is _ _ _ _ _ _ (drQ_byt w h l) (drQ_byt w h l)) ?_
    exact EvP.pos (by simp) sane

end Go.Proofs.Ytaflekobfbgedaa.Pure
