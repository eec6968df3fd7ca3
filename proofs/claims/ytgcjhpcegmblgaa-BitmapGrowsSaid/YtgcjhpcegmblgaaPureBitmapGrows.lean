/- What Grow and Shrink return is what the reference returns, and Shrink of Grow is the bitmap; for every input, no conditions. -/
import Derived.Test.YtgcjhpcegmblgaaPBitmapGrowsx9
import Derived.Test.YtgcjhpcegmblgaaQBase
namespace Go.Proofs.Ytgcjhpcegmblgaa.Pure
open Go.RowKit Go.Proofs.Ytgcjhpcegmblgaa.PBitmapGrows Go.Proofs.YtgcjhpcegmblgaaW.PrintWords Go.Proofs.YtgcjhpcegmblgaaW.PrintLast Go.Proofs.YtgcjhpcegmblgaaW.PrintMore Go.Proofs.YtgcjhpcegmblgaaW.Pu
set_option linter.unusedVariables false
set_option linter.unusedSimpArgs false
/-- The numbers of a list are those of bytes. -/
def Byt (p : List Int) : Prop := ∀ x ∈ p, 0 ≤ x ∧ x ≤ 255
theorem refSame_is (w h : Int) (p : List Int) (w' h' : Int) (p' : List Int) (hp : Byt p) (hp' : Byt p') : incunableref05_Same.f w h p w' h' p' = some (decide (w = w' ∧ h = h' ∧ p = p')) := by
  unfold incunableref05_Same.f
  rw [strOfNums_eq hp hp']
  by_cases a : w = w'
  · by_cases b : h = h'
    · simp [a, b]
    · simp [a, b]
  · simp [a]
theorem val_byt {w h : Int} {p : List Int} (v : Val w h p) : Byt p := fun x hx => ⟨(v.2.2.2.2.2.2 x hx).1, by have := (v.2.2.2.2.2.2 x hx).2; omega⟩

theorem wf_byt {p : List Int} (h : ∀ y ∈ p, (Lit.int .u8 y).wf = true) : Byt p := fun x hx => by
  have h1 : (decide (IntKind.u8.min ≤ x) && decide (x ≤ IntKind.u8.max)) = true := h x hx
  obtain ⟨a, b⟩ := Bool.and_eq_true_iff.mp h1
  exact ⟨of_decide_eq_true a, of_decide_eq_true b⟩
theorem wf_i64 {x : Int} (h : (Lit.int .i64 x).wf = true) : -9223372036854775808 ≤ x ∧ x ≤ 9223372036854775807 := by
  have h1 : (decide (IntKind.i64.min ≤ x) && decide (x ≤ IntKind.i64.max)) = true := h
  obtain ⟨a, b⟩ := Bool.and_eq_true_iff.mp h1
  exact ⟨of_decide_eq_true a, of_decide_eq_true b⟩

instance (w h : Int) (p : List Int) : Decidable (Val w h p) := by unfold Val; exact inferInstance
theorem sid_mul {w h : Int} (hw : 0 ≤ w) (hh : 0 ≤ h) (hw' : w ≤ 200) (hh' : h ≤ 200) : 0 ≤ w * h ∧ w * h ≤ 40000 := by
  have h1 : 0 ≤ w * h := Int.mul_nonneg hw hh
  have h2 : w * h ≤ 200 * h := Int.mul_le_mul_of_nonneg_right hw' hh
  omega

def growG (w h : Int) (p : List Int) (k : Int) : Int → Int → Int := fun x y => pix w h p (x / k) (y / k)
def growR (w h : Int) (p : List Int) (k : Int) : Int × Int × List Int × Int := if Val w h p then (if k < 1 ∨ k > 200 then (0, 0, [], 2) else if Sid (w * k) (h * k) then (w * k, h * k, tab (w * k) (h * k) (growG w h p k), 0) else (0, 0, [], 4)) else (0, 0, [], 30)
theorem grow_val {w h : Int} {p : List Int} {k : Int} (v : Val w h p) (s : Sid (w * k) (h * k)) : Val (w * k) (h * k) (tab (w * k) (h * k) (growG w h p k)) := val_tab s (fun _ _ _ _ _ _ => v.pix01 _ _)
theorem growR_byt (w h : Int) (p : List Int) (k : Int) : Byt (growR w h p k).2.2.1 := by
  unfold growR
  split
  · rename_i v
    split
    · exact fun x hx => by simp at hx
    · split
      · rename_i s
        exact val_byt (grow_val v s)
      · exact fun x hx => by simp at hx
  · exact fun x hx => by simp at hx
theorem mul_le {w k : Int} (hw : 0 ≤ w) (hw' : w ≤ 200) (h0 : 1 ≤ k) (h1 : k ≤ 200) : 0 ≤ w * k ∧ w * k ≤ 40000 := by
  have a : 0 ≤ w * k := Int.mul_nonneg hw (by omega)
  have b : w * k ≤ 200 * k := Int.mul_le_mul_of_nonneg_right hw' (by omega)
  omega
theorem div_nn {x k : Int} (h0 : 0 ≤ x) (hk : 1 ≤ k) : 0 ≤ x / k ∧ x / k ≤ x := ⟨Int.ediv_nonneg h0 (by omega), Int.ediv_le_self _ h0⟩

theorem fits_is (w h : Int) : bitmap_fits.f w h = some (decide (Sid w h)) := by
  unfold bitmap_fits.f
  by_cases h1 : 0 ≤ w ∧ 0 ≤ h ∧ w ≤ 200 ∧ h ≤ 200
  · obtain ⟨a, b, c, d⟩ := h1
    have := sid_mul a b c d
    rw [if_pos (by omega), if_pos (by omega), if_pos c, if_pos d, w64 (by omega) (by omega)]
    simp [Sid, a, b, c, d]
  · have h2 : ¬ Sid w h := fun s => h1 ⟨s.1, s.2.1, s.2.2.1, s.2.2.2.1⟩
    simp only [h2, decide_false]
    split
    · split
      · split
        · split
          · omega
          · rfl
        · rfl
      · rfl
    · rfl

theorem Valid_l0 (p : List Int) (hl : (p.length : Int) ≤ 9223372036854775807) : EvP (fun k => bitmap_Valid.l0 k p (p.length : Int) 0) (· = decide (∀ x ∈ p, x ≤ 1)) := by
  refine EvP.up (L := fun k i (_ : Unit) => bitmap_Valid.l0 k p (p.length : Int) i) (fun i _ => 0 ≤ i ∧ ∀ j, 0 ≤ j → j < i → rd p j ≤ 1) p.length ?_ 0 () (by omega) ⟨by omega, fun j _ _ => by omega⟩
  intro i _ ⟨h0, hb⟩ hi ih
  refine EvP.step (fun k => by rw [bitmap_Valid.l0]) ?_
  refine EvP.ite (fun h1 => ?_) (fun h1 => ?_)
  · refine EvP.pos h0 (EvP.pos h1 (EvP.ite (fun h2 => EvP.ret ?_) (fun h2 => ?_)))
    · symm
      rw [decide_eq_false_iff_not]
      intro hall
      have := hall _ (rd_mem h0 h1)
      omega
    · rw [w64 (by omega) (by omega)]
      refine ih () h1 ⟨by omega, fun j hj hj' => ?_⟩
      rcases Int.lt_or_le j i with hji | hji
      · exact hb j hj hji
      · have : j = i := by omega
        subst this
        omega
  · refine EvP.ret ?_
    symm
    rw [decide_eq_true_iff]
    intro x hx
    obtain ⟨n, hn, rfl⟩ := List.getElem_of_mem hx
    have := hb (n : Int) (by omega) (by omega)
    rwa [rd_get p n hn] at this
theorem Valid_is (w h : Int) (p : List Int) (hp : ∀ x ∈ p, 0 ≤ x) (hl : (p.length : Int) ≤ 9223372036854775807) : EvP (fun k => bitmap_Valid.f k w h p) (· = decide (Val w h p)) := by
  unfold bitmap_Valid.f
  refine EvP.bindv (fits_is w h) ?_
  refine EvP.ite (fun h1 => ?_) (fun h1 => ?_)
  · rw [decide_eq_true_iff] at h1
    have hm := sid_mul h1.1 h1.2.1 h1.2.2.1 h1.2.2.2.1
    rw [w64 (by omega) (by omega)]
    refine EvP.step (fun k => by rw [bitmap_Valid.j0]) ?_
    refine EvP.ite (fun h2 => EvP.ret ?_) (fun h2 => ?_)
    · symm
      rw [decide_eq_false_iff_not]
      intro v
      simp [v.2.2.2.2.2.1] at h2
    · refine (Valid_l0 p hl).mono ?_
      rintro r rfl
      have e : (p.length : Int) = w * h := by simpa using h2
      apply decide_eq_decide.mpr
      constructor
      · intro hall
        exact ⟨h1.1, h1.2.1, h1.2.2.1, h1.2.2.2.1, h1.2.2.2.2, e, fun x hx => ⟨hp x hx, hall x hx⟩⟩
      · intro v x hx
        exact (v.2.2.2.2.2.2 x hx).2
  · refine EvP.step (fun k => by rw [bitmap_Valid.j0]) ?_
    refine EvP.pos rfl (EvP.ret ?_)
    symm
    rw [decide_eq_false_iff_not]
    intro v
    exact h1 (decide_eq_true v.sid)

theorem at_is {w h : Int} {p : List Int} (v : Val w h p) (x y : Int) : bitmap_at.f w h p x y = some (pix w h p x y) := by
  unfold bitmap_at.f
  by_cases hc : 0 ≤ x ∧ x < w ∧ 0 ≤ y ∧ y < h
  · have hf := flat_lt hc.1 hc.2.1 hc.2.2.1 hc.2.2.2
    have hm := v.2.2.2.2.1
    have hl := v.2.2.2.2.2.1
    rw [if_neg (by omega), if_neg (by omega), if_neg (by omega), if_neg (by omega)]
    have e : wrap64 (y * w) = y * w := w64 (by omega) (by omega)
    rw [e, w64 (by omega) (by omega), if_pos hf.2.1, if_pos (by omega), pix_in hc.1 hc.2.1 hc.2.2.1 hc.2.2.2]
  · rw [pix_out hc]
    by_cases a : x < 0
    · rw [if_pos a]
    rw [if_neg a]
    by_cases b : y < 0
    · rw [if_pos b]
    rw [if_neg b]
    by_cases c : x ≥ w
    · rw [if_pos c]
    rw [if_neg c, if_pos (by omega)]

theorem blank_is (w h : Int) : bitmap_blank.f w h = some (if Sid w h then (w, h, tab w h (fun _ _ => 0), 0) else (0, 0, [], 4)) := by
  unfold bitmap_blank.f
  rw [fits_is, Option.bind_some]
  by_cases s : Sid w h
  · have hm := sid_mul s.1 s.2.1 s.2.2.1 s.2.2.2.1
    rw [if_pos (decide_eq_true s), if_pos s, w64 (by omega) (by omega), if_pos (by omega), if_pos (by omega), replicate_tab s.1 s.2.1]
  · rw [if_neg (by simpa using s), if_neg s]

theorem Grow_is (w h : Int) (p : List Int) (q : Int) (hp : ∀ x ∈ p, 0 ≤ x) (hl : (p.length : Int) ≤ 9223372036854775807) : EvP (fun k => bitmap_Grow.f k w h p q) (· = growR w h p q) := by
  unfold bitmap_Grow.f growR
  refine EvP.bind (Valid_is w h p hp hl) ?_
  rintro _ rfl
  refine EvP.ite (fun h1 => ?_) (fun h1 => EvP.ret (by rw [if_neg (by simpa using h1)]))
  have v : Val w h p := by simpa using h1
  rw [if_pos v]
  refine EvP.ite (fun a => EvP.ret (by rw [if_pos (.inl a)])) (fun a => ?_)
  refine EvP.ite (fun b => EvP.ret (by rw [if_pos (.inr b)])) (fun b => ?_)
  rw [if_neg (by omega)]
  obtain ⟨hw, hh, w200, h200, _⟩ := v.sid
  have m1 := mul_le hw w200 (show 1 ≤ q by omega) (by omega)
  have m2 := mul_le hh h200 (show 1 ≤ q by omega) (by omega)
  rw [w64 (x := w * q) (by omega) (by omega), w64 (x := h * q) (by omega) (by omega)]
  refine EvP.bindv (blank_is (w * q) (h * q)) ?_
  by_cases s : Sid (w * q) (h * q)
  · simp only [if_pos s]
    have hm := sid_mul s.1 s.2.1 s.2.2.1 s.2.2.2.1
    have hlen : ((tab (w * q) (h * q) fun _ _ => (0 : Int)).length : Int) = (w * q) * (h * q) := by rw [tab_length]; omega
    obtain ⟨_, _, w2, h2, _⟩ := s
    refine EvP.fillT (L := fun k i l => bitmap_Grow.l0 k q 0 ((tab (w * q) (h * q) fun _ _ => 0).length : Int) i w h p (w * q) (h * q) l) (by omega) (by omega) (tab (w * q) (h * q) fun _ _ => 0) hlen (growG w h p q) ?_ ?_
    · intro i l h0 h2 hl hw0 p0 p1 q0 q1 e1 e2 _ _ hk
      refine EvP.step (fun k => by rw [bitmap_Grow.l0]) ?_
      refine EvP.pos h2 (EvP.neg (by omega) (EvP.neg (by omega) ?_))
      have d1 := div_nn p0 (show 1 ≤ q by omega)
      have d2 := div_nn q0 (show 1 ≤ q by omega)
      rw [e1, e2, w64 (x := i / (w * q)) (by omega) (by omega), tdiv_pos p0, tdiv_pos q0, w64 (x := i % (w * q) / q) (by omega) (by omega), w64 (x := i / (w * q) / q) (by omega) (by omega)]
      refine EvP.bindv (at_is v _ _) ?_
      refine EvP.pos h0 (EvP.pos (by omega) ?_)
      rw [w64 (by omega) (by omega)]
      exact hk
    · refine EvP.step (fun k => by rw [bitmap_Grow.l0]) ?_
      exact EvP.neg (by omega) (EvP.ret rfl)
  · simp only [if_neg s]
    refine EvP.step (fun k => by rw [bitmap_Grow.l0]) ?_
    exact EvP.neg (by simp) (EvP.ret rfl)

theorem Sides_is (w h : Int) : incunableref05_Sides.f w h = some (decide (Sid w h)) := by
  unfold incunableref05_Sides.f
  by_cases h1 : 0 ≤ w ∧ 0 ≤ h ∧ w ≤ 200 ∧ h ≤ 200
  · obtain ⟨a, b, c, d⟩ := h1
    have := sid_mul a b c d
    rw [if_pos (by omega), if_pos (by omega), if_pos c, if_pos d, w64 (by omega) (by omega)]
    simp [Sid, a, b, c, d]
  · have h2 : ¬ Sid w h := fun s => h1 ⟨s.1, s.2.1, s.2.2.1, s.2.2.2.1⟩
    simp only [h2, decide_false]
    split
    · split
      · split
        · split
          · omega
          · rfl
        · rfl
      · rfl
    · rfl

theorem refValid_l0 (w h : Int) (p : List Int) (hl : (p.length : Int) ≤ 9223372036854775807) : EvP (fun k => incunableref05_Valid.l0 k 0 w h p) (· = decide (∀ x ∈ p, x ≤ 1)) := by
  refine EvP.up (L := fun k i (_ : Unit) => incunableref05_Valid.l0 k i w h p) (fun i _ => 0 ≤ i ∧ ∀ j, 0 ≤ j → j < i → rd p j ≤ 1) p.length ?_ 0 () (by omega) ⟨by omega, fun j _ _ => by omega⟩
  intro i _ ⟨h0, hb⟩ hi ih
  refine EvP.step (fun k => by rw [incunableref05_Valid.l0]) ?_
  refine EvP.ite (fun h1 => ?_) (fun h1 => ?_)
  · refine EvP.pos h0 (EvP.ite (fun h2 => EvP.ret ?_) (fun h2 => ?_))
    · symm
      rw [decide_eq_false_iff_not]
      intro hall
      have := hall _ (rd_mem h0 h1)
      omega
    · rw [w64 (by omega) (by omega)]
      refine ih () h1 ⟨by omega, fun j hj hj' => ?_⟩
      rcases Int.lt_or_le j i with hji | hji
      · exact hb j hj hji
      · have : j = i := by omega
        subst this
        omega
  · refine EvP.ret ?_
    symm
    rw [decide_eq_true_iff]
    intro x hx
    obtain ⟨n, hn, rfl⟩ := List.getElem_of_mem hx
    have := hb (n : Int) (by omega) (by omega)
    rwa [rd_get p n hn] at this
theorem refValid_is (w h : Int) (p : List Int) (hp : ∀ x ∈ p, 0 ≤ x) (hl : (p.length : Int) ≤ 9223372036854775807) : EvP (fun k => incunableref05_Valid.f k w h p) (· = decide (Val w h p)) := by
  unfold incunableref05_Valid.f
  refine EvP.bindv (Sides_is w h) ?_
  refine EvP.ite (fun h1 => ?_) (fun h1 => ?_)
  · rw [decide_eq_true_iff] at h1
    have hm := sid_mul h1.1 h1.2.1 h1.2.2.1 h1.2.2.2.1
    rw [w64 (by omega) (by omega)]
    refine EvP.step (fun k => by rw [incunableref05_Valid.j0]) ?_
    refine EvP.ite (fun h2 => EvP.ret ?_) (fun h2 => ?_)
    · symm
      rw [decide_eq_false_iff_not]
      intro v
      simp [v.2.2.2.2.2.1] at h2
    · refine (refValid_l0 w h p hl).mono ?_
      rintro r rfl
      have e : (p.length : Int) = w * h := by simpa using h2
      apply decide_eq_decide.mpr
      constructor
      · intro hall
        exact ⟨h1.1, h1.2.1, h1.2.2.1, h1.2.2.2.1, h1.2.2.2.2, e, fun x hx => ⟨hp x hx, hall x hx⟩⟩
      · intro v x hx
        exact (v.2.2.2.2.2.2 x hx).2
  · refine EvP.step (fun k => by rw [incunableref05_Valid.j0]) ?_
    refine EvP.pos rfl (EvP.ret ?_)
    symm
    rw [decide_eq_false_iff_not]
    intro v
    exact h1 (decide_eq_true v.sid)

theorem make2_l0 (w h c : Int) (a b : Int) (hw : 0 ≤ w) (hh : 0 ≤ h) (hw' : w ≤ 200) (hh' : h ≤ 200) : EvP (fun k => incunableref05_make2.l0 k w h c 0 a b []) (· = (a, b, List.replicate (w * h).toNat (c % 256))) := by
  have hm := sid_mul hw hh hw' hh'
  refine EvP.up (L := fun k i (s : List Int) => incunableref05_make2.l0 k w h c i a b s) (fun i s => 0 ≤ i ∧ s = List.replicate i.toNat (c % 256)) (w * h) ?_ 0 [] (by omega) ⟨by omega, rfl⟩
  intro i s ⟨h0, hs⟩ hi ih
  subst hs
  refine EvP.step (fun k => by rw [incunableref05_make2.l0]) ?_
  rw [w64 (x := w * h) (by omega) (by omega)]
  refine EvP.ite (fun h1 => ?_) (fun h1 => ?_)
  · refine EvP.pos (by rw [List.length_replicate]; omega) ?_
    rw [w64 (by omega) (by omega)]
    refine ih _ h1 ⟨by omega, ?_⟩
    rw [show (i + 1).toNat = i.toNat + 1 by omega, List.replicate_succ']
  · have : i = w * h := by omega
    subst this
    exact EvP.ret rfl
theorem make2_is (w h c : Int) (hw : 0 ≤ w) (hh : 0 ≤ h) (hw' : w ≤ 200) (hh' : h ≤ 200) : EvP (fun k => incunableref05_make2.f k w h c) (· = (w, h, tab w h (fun _ _ => c % 256))) := by
  unfold incunableref05_make2.f
  refine (make2_l0 w h c w h hw hh hw' hh').mono ?_
  rintro r rfl
  rw [replicate_tab hw hh]

theorem inside_is (w h : Int) (p : List Int) (x y : Int) : incunableref05_inside.f w h p x y = some (decide (0 ≤ x ∧ x < w ∧ 0 ≤ y ∧ y < h)) := by
  unfold incunableref05_inside.f
  by_cases a : x ≥ 0
  · rw [if_pos a]
    by_cases b : y ≥ 0
    · rw [if_pos b]
      by_cases c : x < w
      · rw [if_pos c]
        exact congrArg some (decide_eq_decide.mpr ⟨fun q => by omega, fun q => by omega⟩)
      · rw [if_neg c]
        exact congrArg some (decide_eq_false (by omega)).symm
    · rw [if_neg b]
      exact congrArg some (decide_eq_false (by omega)).symm
  · rw [if_neg a]
    exact congrArg some (decide_eq_false (by omega)).symm

theorem At_is {w h : Int} {p : List Int} (v : Val w h p) (x y : Int) : incunableref05_At.f w h p x y = some (pix w h p x y) := by
  unfold incunableref05_At.f
  rw [inside_is, Option.bind_some]
  by_cases hc : 0 ≤ x ∧ x < w ∧ 0 ≤ y ∧ y < h
  · have hf := flat_lt hc.1 hc.2.1 hc.2.2.1 hc.2.2.2
    have hm := v.2.2.2.2.1
    have hl := v.2.2.2.2.2.1
    have e : wrap64 (y * w) = y * w := w64 (by omega) (by omega)
    have hr := v.2.2.2.2.2.2 _ (rd_mem (l := p) hf.2.1 (by omega))
    rw [if_pos (decide_eq_true hc), e, w64 (by omega) (by omega), if_pos hf.2.1, if_pos (by omega), w64 (by omega) (by omega), pix_in hc.1 hc.2.1 hc.2.2.1 hc.2.2.2]
  · rw [if_neg (by simpa using hc), pix_out hc]

theorem Put_is {w h : Int} {g : Int → Int → Int} {x y v : Int} (hw : 0 ≤ w) (hh : 0 ≤ h) (hm : w * h ≤ 40000) (hx0 : 0 ≤ x) (hx : x < w) (hy0 : 0 ≤ y) (hy : y < h) :
    incunableref05_Put.f w h (tab w h g) x y v = some (tab w h (upd g x y (v % 256))) := by
  have h0 : 0 ≤ w * h := Int.mul_nonneg hw hh
  have hf := flat_lt hx0 hx hy0 hy
  unfold incunableref05_Put.f
  have e : wrap64 (y * w) = y * w := w64 (by omega) (by omega)
  rw [e, w64 (by omega) (by omega), if_pos hf.2.1, if_pos (by rw [tab_length]; omega), set_tab hw hh hx0 hx hy0 hy]

theorem refGrow_j0 {w h : Int} {p : List Int} {q : Int} (v : Val w h p) (b : Bool) (hb : b = true ↔ (q < 1 ∨ q > 200)) : EvP (fun k => incunableref05_Grow.j0 k q b w h p) (· = growR w h p q) := by
  unfold growR
  rw [if_pos v]
  refine EvP.step (fun k => by rw [incunableref05_Grow.j0]) ?_
  refine EvP.ite (fun a => EvP.ret (by rw [if_pos (hb.mp a)])) (fun a => ?_)
  have a : ¬ (q < 1 ∨ q > 200) := fun x => a (hb.mpr x)
  rw [if_neg a]
  obtain ⟨hw, hh, w200, h200, _⟩ := v.sid
  have m1 := mul_le hw w200 (show 1 ≤ q by omega) (by omega)
  have m2 := mul_le hh h200 (show 1 ≤ q by omega) (by omega)
  rw [w64 (x := w * q) (by omega) (by omega), w64 (x := h * q) (by omega) (by omega)]
  refine EvP.bindv (Sides_is (w * q) (h * q)) ?_
  refine EvP.ite (fun s => ?_) (fun s => EvP.ret (by rw [if_neg (by simpa using s)]))
  have s : Sid (w * q) (h * q) := by simpa using s
  rw [if_pos s]
  obtain ⟨sw, sh, w2, h2, hm⟩ := s
  refine EvP.bind (make2_is (w * q) (h * q) 0 sw sh w2 h2) ?_
  rintro _ rfl
  have e0 : tab (w * q) (h * q) (fun u t => if 0 ≤ u ∧ u < w * q ∧ 0 ≤ t ∧ t < h * q then growG w h p q u t else 0 % 256) = tab (w * q) (h * q) (growG w h p q) := tab_congr sw sh (fun u t a b c d => if_pos ⟨a, b, c, d⟩)
  refine EvP.rasterP (L0 := fun k j (l : List Int) => incunableref05_Grow.l0 k q j w h p (w * q) (h * q) l) (L1 := fun k j i (l : List Int) => incunableref05_Grow.l1 k q j i w h p (w * q) (h * q) l) (W := w * q) (H := h * q)
    (fun i j => i) (fun i j => j) (fun u t => u) (fun u t => t) (fun _ _ => 0 % 256) (growG w h p q) sw sh sw sh ?_ ?_ ?_ ?_ ?_ ?_ ?_
  · intro i j a b c d
    exact ⟨rfl, rfl⟩
  · intro u t a b c d e f g' h'
    exact ⟨rfl, rfl⟩
  · intro j l a b hk
    refine EvP.step (fun k => by rw [incunableref05_Grow.l0]) ?_
    exact EvP.pos b hk
  · refine EvP.step (fun k => by rw [incunableref05_Grow.l0]) ?_
    refine EvP.neg (by omega) (EvP.ret ?_)
    rw [e0]
  · intro i j g' a1 b1 c1 d1 p0 p1 q0 q1 e hk
    refine EvP.step (fun k => by rw [incunableref05_Grow.l1]) ?_
    refine EvP.pos b1 (EvP.neg (by omega) ?_)
    have dv1 := div_nn a1 (show 1 ≤ q by omega)
    have dv2 := div_nn c1 (show 1 ≤ q by omega)
    rw [tdiv_pos a1, tdiv_pos c1, w64 (x := i / q) (by omega) (by omega), w64 (x := j / q) (by omega) (by omega)]
    refine EvP.bindv (At_is v _ _) ?_
    refine EvP.bindv (Put_is sw sh (by omega) a1 b1 c1 d1) ?_
    have e3 := v.pix01 (i / q) (j / q)
    rw [w64 (x := i + 1) (by omega) (by omega), show pix w h p (i / q) (j / q) % 256 = pix w h p (i / q) (j / q) by omega]
    exact hk
  · intro i j g' a b c d q hk
    exact absurd ⟨a, b, c, d⟩ q
  · intro j l a b hk
    refine EvP.step (fun k => by rw [incunableref05_Grow.l1]) ?_
    refine EvP.neg (by omega) ?_
    rw [w64 (x := j + 1) (by omega) (by omega)]
    exact hk
theorem refGrow_is (w h : Int) (p : List Int) (q : Int) (hp : ∀ x ∈ p, 0 ≤ x) (hl : (p.length : Int) ≤ 9223372036854775807) : EvP (fun k => incunableref05_Grow.f k w h p q) (· = growR w h p q) := by
  unfold incunableref05_Grow.f
  refine EvP.bind (refValid_is w h p hp hl) ?_
  rintro _ rfl
  refine EvP.ite (fun h1 => ?_) (fun h1 => EvP.ret (by unfold growR; rw [if_neg (by simpa using h1)]))
  have v : Val w h p := by simpa using h1
  exact EvP.ite (fun a => refGrow_j0 v true (by simp [a])) (fun a => refGrow_j0 v _ (by simp; omega))

/-- The sum of the first numbers. -/
def sm : Nat → (Int → Int) → Int
  | 0, _ => 0
  | n + 1, f => sm n f + f (n : Int)
theorem sm_s (n : Nat) (f : Int → Int) : sm (n + 1) f = sm n f + f (n : Int) := rfl
theorem sm_0 (f : Int → Int) : sm 0 f = 0 := rfl
theorem sm_congr {f g : Int → Int} : ∀ {n : Nat}, (∀ i : Int, 0 ≤ i → i < n → f i = g i) → sm n f = sm n g
  | 0, _ => rfl
  | n + 1, h => by
    unfold sm
    rw [sm_congr (fun i h0 h1 => h i h0 (by omega)), h n (by omega) (by omega)]
theorem sm_bound {f : Int → Int} {c : Int} (hc : 0 ≤ c) : ∀ {n : Nat}, (∀ i : Int, 0 ≤ i → i < n → 0 ≤ f i ∧ f i ≤ c) → 0 ≤ sm n f ∧ sm n f ≤ n * c
  | 0, _ => by simp [sm]
  | n + 1, h => by
    have h1 := sm_bound hc (fun i h0 h1 => h i h0 (by omega)) (n := n)
    have h2 := h n (by omega) (by omega)
    unfold sm
    have e : ((n + 1 : Nat) : Int) * c = n * c + c := by rw [Int.natCast_add, Int.add_mul]; simp
    omega
theorem sm_zero {f : Int → Int} (h0 : ∀ i : Int, 0 ≤ i → 0 ≤ f i) : ∀ {n : Nat}, sm n f = 0 → ∀ i : Int, 0 ≤ i → i < n → f i = 0
  | 0, _, i, a, b => by omega
  | n + 1, h, i, a, b => by
    unfold sm at h
    have h1 : 0 ≤ sm n f := by
      have : ∀ m : Nat, 0 ≤ sm m f := by
        intro m
        induction m with
        | zero => simp [sm]
        | succ m ih => unfold sm; have := h0 m (by omega); omega
      exact this n
    have h2 := h0 n (by omega)
    rcases Int.lt_or_le i n with c | c
    · exact sm_zero h0 (show sm n f = 0 by omega) i a c
    · have : i = n := by omega
      subst this
      omega
theorem sm_const (c : Int) : ∀ n : Nat, sm n (fun _ => c) = n * c
  | 0 => by simp [sm]
  | n + 1 => by
    unfold sm
    rw [sm_const c n, Int.natCast_add, Int.add_mul]
    simp
theorem sm_add (f : Int → Int) (a : Nat) : ∀ b : Nat, sm (a + b) f = sm a f + sm b (fun i => f (a + i))
  | 0 => by simp [sm]
  | b + 1 => by
    rw [show a + (b + 1) = (a + b) + 1 from rfl, sm_s, sm_s, sm_add f a b]
    have e : ((a + b : Nat) : Int) = (a : Int) + (b : Int) := by omega
    rw [e]
    show sm a f + sm b (fun i => f (a + i)) + f (a + b) = sm a f + (sm b (fun i => f (a + i)) + f (a + b))
    omega
theorem sm_plus (f g : Int → Int) : ∀ n : Nat, sm n (fun i => f i + g i) = sm n f + sm n g
  | 0 => by simp [sm]
  | n + 1 => by
    rw [sm_s, sm_s, sm_s, sm_plus f g n]
    show sm n f + sm n g + (f n + g n) = sm n f + f n + (sm n g + g n)
    omega
theorem sm_swap (g : Int → Int → Int) (W : Nat) : ∀ H : Nat, sm H (fun y => sm W (fun x => g x y)) = sm W (fun x => sm H (fun y => g x y))
  | 0 => by
    have : sm W (fun x => sm 0 (fun y => g x y)) = sm W (fun _ => 0) := sm_congr (fun i _ _ => rfl)
    rw [this, sm_const 0 W, sm_0]
    simp
  | H + 1 => by
    rw [sm_s, sm_swap g W H]
    have : sm W (fun x => sm (H + 1) (fun y => g x y)) = sm W (fun x => sm H (fun y => g x y) + g x H) := sm_congr (fun i _ _ => rfl)
    rw [this, sm_plus]
theorem sm_front (f : Int → Int) : ∀ n : Nat, sm (n + 1) f = f 0 + sm n (fun i => f (i + 1))
  | 0 => by simp [sm]
  | n + 1 => by
    rw [show sm (n + 1 + 1) f = sm (n + 1) f + f ((n + 1 : Nat) : Int) from rfl, sm_front f n]
    rw [show sm (n + 1) (fun i => f (i + 1)) = sm n (fun i => f (i + 1)) + f ((n : Int) + 1) from rfl]
    have e : ((n + 1 : Nat) : Int) = (n : Int) + 1 := by omega
    rw [e]
    omega
theorem sm_mirror (f : Int → Int) : ∀ n : Nat, sm n (fun i => f ((n : Int) - 1 - i)) = sm n f
  | 0 => rfl
  | n + 1 => by
    rw [sm_front]
    have e : (((n + 1 : Nat) : Int) - 1 - 0) = (n : Int) := by omega
    rw [e]
    have e2 : sm n (fun i => f (((n + 1 : Nat) : Int) - 1 - (i + 1))) = sm n (fun i => f ((n : Int) - 1 - i)) := sm_congr (fun i _ _ => by
      have : ((n + 1 : Nat) : Int) - 1 - (i + 1) = (n : Int) - 1 - i := by omega
      rw [this])
    rw [e2, sm_mirror f n, sm_s]
    omega
/-- All pixels' sum. -/
def tot (w h : Int) (g : Int → Int → Int) : Int := sm h.toNat (fun y => sm w.toNat (fun x => g x y))
theorem sm_flat (g : Int → Int → Int) (W : Nat) : ∀ H : Nat, sm (W * H) (fun i => g (i % (W : Int)) (i / (W : Int))) = sm H (fun y => sm W (fun x => g x y))
  | 0 => rfl
  | H + 1 => by
    rw [Nat.mul_succ, sm_add, sm_flat g W H]
    rw [show sm (H + 1) (fun y => sm W (fun x => g x y)) = sm H (fun y => sm W (fun x => g x y)) + sm W (fun x => g x (H : Int)) from rfl]
    congr 1
    refine sm_congr (fun i h0 h1 => ?_)
    have e : ((W * H : Nat) : Int) + i = (H : Int) * (W : Int) + i := by rw [Int.natCast_mul, Int.mul_comm]
    rw [e, flat_mod h0 h1, flat_div h0 h1]
theorem sm_tab {w h : Int} (hw : 0 ≤ w) (hh : 0 ≤ h) (g : Int → Int → Int) : sm (tab w h g).length (fun i => rd (tab w h g) i) = tot w h g := by
  have h0 : 0 ≤ w * h := Int.mul_nonneg hw hh
  rw [tab_length]
  have e : (w * h).toNat = w.toNat * h.toNat := by
    have e1 : ((w.toNat * h.toNat : Nat) : Int) = w * h := by rw [Int.natCast_mul, Int.toNat_of_nonneg hw, Int.toNat_of_nonneg hh]
    omega
  have ew : ((w.toNat : Nat) : Int) = w := Int.toNat_of_nonneg hw
  unfold tot
  rw [← sm_flat g w.toNat h.toNat, e, ew]
  refine sm_congr (fun i a b => ?_)
  rw [rd_tab w h g i a (by omega)]
theorem tot_congr {w h : Int} {g g' : Int → Int → Int} (hg : ∀ x y, 0 ≤ x → x < w → 0 ≤ y → y < h → g x y = g' x y) : tot w h g = tot w h g' :=
  sm_congr (fun y a b => sm_congr (fun x c d => hg x y c (by omega) a (by omega)))
theorem tot_turn {w h : Int} (hw : 0 ≤ w) (hh : 0 ≤ h) (g : Int → Int → Int) : tot h w (fun x y => g y (h - 1 - x)) = tot w h g := by
  unfold tot
  have eh : ((h.toNat : Nat) : Int) = h := Int.toNat_of_nonneg hh
  rw [sm_swap (fun x y => g x y) w.toNat h.toNat]
  refine sm_congr (fun y a b => ?_)
  have := sm_mirror (fun i => g y i) h.toNat
  rw [eh] at this
  exact this
theorem tot_flip {w h : Int} (hw : 0 ≤ w) (hh : 0 ≤ h) (g : Int → Int → Int) : tot w h (fun x y => g (w - 1 - x) y) = tot w h g := by
  unfold tot
  have ew : ((w.toNat : Nat) : Int) = w := Int.toNat_of_nonneg hw
  refine sm_congr (fun y a b => ?_)
  have := sm_mirror (fun i => g i y) w.toNat
  rw [ew] at this
  exact this
/-- How many pixels are black. -/
def blk (p : List Int) : Int := sm p.length (fun i => rd p i)
theorem blk_val {w h : Int} {p : List Int} (v : Val w h p) : blk p = tot w h (pix w h p) := by
  unfold blk
  have e := sm_tab v.1 v.2.1 (pix w h p)
  rw [← v.tab] at e
  exact e

def mixv (op a b : Int) : Int := if op = 0 then b else if op = 1 then (if a < b then b else a) else if op = 2 then (if b < a then b else a) else if op = 3 then (a + b) % 2 else (a + b + 1) % 2
theorem five {op : Int} (h0 : 0 ≤ op) (h1 : op ≤ 4) : op = 0 ∨ op = 1 ∨ op = 2 ∨ op = 3 ∨ op = 4 := by omega
theorem bit {a : Int} (h0 : 0 ≤ a) (h1 : a ≤ 1) : a = 0 ∨ a = 1 := by omega
theorem mix_01 {op a b : Int} (h0 : 0 ≤ op) (h1 : op ≤ 4) (a0 : 0 ≤ a) (a1 : a ≤ 1) (b0 : 0 ≤ b) (b1 : b ≤ 1) : 0 ≤ mixv op a b ∧ mixv op a b ≤ 1 := by
  rcases five h0 h1 with rfl | rfl | rfl | rfl | rfl <;> rcases bit a0 a1 with rfl | rfl <;> rcases bit b0 b1 with rfl | rfl <;> decide +kernel
theorem mix3 {a b : Int} (a0 : 0 ≤ a) (a1 : a ≤ 1) (b0 : 0 ≤ b) (b1 : b ≤ 1) : mixv 3 (mixv 3 a b) b = a := by
  rcases bit a0 a1 with rfl | rfl <;> rcases bit b0 b1 with rfl | rfl <;> decide +kernel
theorem mix3_ne {a b : Int} (a0 : 0 ≤ a) (a1 : a ≤ 1) (b0 : 0 ≤ b) (b1 : b ≤ 1) : mixv 3 a b = if a = b then 0 else 1 := by
  rcases bit a0 a1 with rfl | rfl <;> rcases bit b0 b1 with rfl | rfl <;> decide +kernel
theorem mix1_zero {b : Int} (b0 : 0 ≤ b) (b1 : b ≤ 1) : mixv 1 0 b = b := by
  rcases bit b0 b1 with rfl | rfl <;> decide +kernel
theorem mix0 (a b : Int) : mixv 0 a b = b := rfl

/-- What is drawn. -/
def drawG (g : Int → Int → Int) (w' h' : Int) (s : List Int) (x y op : Int) : Int → Int → Int := fun u t => if 0 ≤ u - x ∧ u - x < w' ∧ 0 ≤ t - y ∧ t - y < h' then mixv op (g u t) (pix w' h' s (u - x) (t - y)) else g u t
def Shf (x y : Int) : Prop := -100000 ≤ x ∧ x ≤ 100000 ∧ -100000 ≤ y ∧ y ≤ 100000
instance (x y : Int) : Decidable (Shf x y) := by unfold Shf; exact inferInstance
def drawR (w h : Int) (p : List Int) (w' h' : Int) (s : List Int) (x y op : Int) : Int × Int × List Int × Int :=
  if ¬ (Val w h p ∧ Val w' h' s) then (0, 0, [], 30) else if op < 0 ∨ op > 4 ∨ ¬ Shf x y then (0, 0, [], 2) else (w, h, tab w h (drawG (pix w h p) w' h' s x y op), 0)
theorem drawG_01 {g : Int → Int → Int} {w' h' : Int} {s : List Int} {x y op : Int} (v : Val w' h' s) (h0 : 0 ≤ op) (h1 : op ≤ 4) {u t : Int} (hg : 0 ≤ g u t ∧ g u t ≤ 1) : 0 ≤ drawG g w' h' s x y op u t ∧ drawG g w' h' s x y op u t ≤ 1 := by
  unfold drawG
  split
  · have b := v.pix01 (u - x) (t - y)
    exact mix_01 h0 h1 hg.1 hg.2 b.1 b.2
  · exact hg

/-- A part of a bitmap. -/
def partG (w h : Int) (p : List Int) (x y : Int) : Int → Int → Int := fun u t => pix w h p (x + u) (y + t)
def cutR (w h : Int) (p : List Int) (x y w' h' : Int) : Int × Int × List Int × Int :=
  if ¬ Val w h p then (0, 0, [], 30) else if w' < 0 ∨ h' < 0 ∨ ¬ Shf x y then (0, 0, [], 2) else if Sid w' h' then (w', h', tab w' h' (partG w h p x y), 0) else (0, 0, [], 4)
theorem part_val {w h : Int} {p : List Int} {x y w' h' : Int} (v : Val w h p) (s : Sid w' h') : Val w' h' (tab w' h' (partG w h p x y)) := val_tab s (fun _ _ _ _ _ _ => v.pix01 _ _)
theorem nil_byt' : Byt [] := fun x hx => by simp at hx
theorem cutR_byt (w h : Int) (p : List Int) (x y w' h' : Int) : Byt (cutR w h p x y w' h').2.2.1 := by
  unfold cutR
  by_cases a : Val w h p
  · rw [if_neg (c := ¬ Val w h p) (fun q => q a)]
    split
    · exact nil_byt'
    · split
      · rename_i s
        exact val_byt (part_val a s)
      · exact nil_byt'
  · rw [if_pos a]
    exact nil_byt'
theorem cutR_ok {w h : Int} {p : List Int} {x y w' h' : Int} (e : (cutR w h p x y w' h').2.2.2 = 0) : Val w h p ∧ Shf x y ∧ Sid w' h' ∧ cutR w h p x y w' h' = (w', h', tab w' h' (partG w h p x y), 0) := by
  unfold cutR at e ⊢
  by_cases a : Val w h p
  · rw [if_neg (c := ¬ Val w h p) (fun q => q a)] at e ⊢
    by_cases b : w' < 0 ∨ h' < 0 ∨ ¬ Shf x y
    · rw [if_pos b] at e
      exact absurd e (by decide)
    · rw [if_neg b] at e ⊢
      by_cases c : Sid w' h'
      · rw [if_pos c]
        exact ⟨a, Classical.not_not.mp (fun q => b (.inr (.inr q))), c, rfl⟩
      · rw [if_neg c] at e
        exact absurd e (by decide)
  · rw [if_pos a] at e
    exact absurd e (by decide)
theorem cutR_all {w h : Int} {p : List Int} (v : Val w h p) : cutR w h p 0 0 w h = (w, h, p, 0) := by
  unfold cutR
  rw [if_neg (c := ¬ Val w h p) (fun q => q v), if_neg (by intro q; rcases q with q | q | q; exact absurd v.1 (by omega); exact absurd v.2.1 (by omega); exact q (by unfold Shf; omega)), if_pos v.sid]
  have e : tab w h (partG w h p 0 0) = p := by
    refine Eq.trans (tab_congr v.1 v.2.1 (fun u t a b c d => ?_)) v.tab.symm
    unfold partG
    rw [Int.zero_add, Int.zero_add]
  rw [e]

def mnw (a b : Int) : Int := if b < a then b else a
/-- How many pixels of a square are black. -/
def sqr (w h : Int) (p : List Int) (x y W H : Int) : Int := sm (W * H).toNat (fun j => pix w h p (x + j % W) (y + j / W))
def shG (w h : Int) (p : List Int) (k : Int) : Int → Int → Int := fun x y =>
  if 2 * sqr w h p (x * k) (y * k) (mnw k (w - x * k)) (mnw k (h - y * k)) > mnw k (w - x * k) * mnw k (h - y * k) then 1 else 0
def shrinkR (w h : Int) (p : List Int) (k : Int) : Int × Int × List Int × Int := if Val w h p then (if k < 1 ∨ k > 200 then (0, 0, [], 2) else ((w + k - 1) / k, (h + k - 1) / k, tab ((w + k - 1) / k) ((h + k - 1) / k) (shG w h p k), 0)) else (0, 0, [], 30)
theorem ceil_le {w k : Int} (hw : 0 ≤ w) (hk : 1 ≤ k) : 0 ≤ (w + k - 1) / k ∧ (w + k - 1) / k ≤ w ∧ ∀ x, 0 ≤ x → x < (w + k - 1) / k → 0 ≤ x * k ∧ x * k < w := by
  have h0 : 0 ≤ (w + k - 1) / k := Int.ediv_nonneg (by omega) (by omega)
  have h1 : ((w + k - 1) / k) * k ≤ w + k - 1 := Int.ediv_mul_le _ (by omega)
  refine ⟨h0, ?_, ?_⟩
  · rcases Int.lt_or_le 0 w with a | a
    · have : (w + k - 1) / k ≤ (w * k) / k := Int.ediv_le_ediv (by omega) (by
        have e : w * k = (w - 1) * (k - 1) + w + k - 1 := by rw [Int.sub_mul, Int.mul_sub]; omega
        have := Int.mul_nonneg (show 0 ≤ w - 1 by omega) (show 0 ≤ k - 1 by omega)
        omega)
      rw [Int.mul_ediv_cancel _ (by omega)] at this
      exact this
    · have : w = 0 := by omega
      subst this
      rw [Int.ediv_eq_zero_of_lt (by omega) (by omega)]
      omega
  · intro x x0 x1
    refine ⟨Int.mul_nonneg x0 (by omega), ?_⟩
    have : (x + 1) * k ≤ ((w + k - 1) / k) * k := Int.mul_le_mul_of_nonneg_right (by omega) (by omega)
    rw [Int.add_mul] at this
    omega
theorem shrink_sid {w h k : Int} (s : Sid w h) (hk : 1 ≤ k) : Sid ((w + k - 1) / k) ((h + k - 1) / k) := by
  obtain ⟨a, b, c, d, e⟩ := s
  have h1 := ceil_le a hk
  have h2 := ceil_le b hk
  have m1 : ((w + k - 1) / k) * ((h + k - 1) / k) ≤ w * ((h + k - 1) / k) := Int.mul_le_mul_of_nonneg_right h1.2.1 h2.1
  have m2 : w * ((h + k - 1) / k) ≤ w * h := Int.mul_le_mul_of_nonneg_left h2.2.1 a
  exact ⟨h1.1, h2.1, by omega, by omega, by omega⟩
theorem shrink_val {w h : Int} {p : List Int} {k : Int} (s : Sid w h) (hk : 1 ≤ k) : Val ((w + k - 1) / k) ((h + k - 1) / k) (tab ((w + k - 1) / k) ((h + k - 1) / k) (shG w h p k)) :=
  val_tab (shrink_sid s hk) (fun _ _ _ _ _ _ => by unfold shG; split <;> omega)
theorem shrinkR_byt (w h : Int) (p : List Int) (k : Int) : Byt (shrinkR w h p k).2.2.1 := by
  unfold shrinkR
  split
  · rename_i v
    split
    · exact fun x hx => by simp at hx
    · exact val_byt (shrink_val v.sid (by omega))
  · exact fun x hx => by simp at hx
theorem mnw_at {k w X : Int} (hk : 1 ≤ k) (hk' : k ≤ 200) (h : X < w) (hX : 0 ≤ X) (hw : w ≤ 200) : 1 ≤ mnw k (w - X) ∧ mnw k (w - X) ≤ 200 ∧ mnw k (w - X) ≤ k ∧ mnw k (w - X) ≤ w - X := by
  unfold mnw
  split <;> omega
theorem sqr_01 {w h : Int} {p : List Int} (v : Val w h p) (x y W H : Int) (n : Nat) : 0 ≤ sm n (fun j => pix w h p (x + j % W) (y + j / W)) ∧ sm n (fun j => pix w h p (x + j % W) (y + j / W)) ≤ n := by
  have := sm_bound (n := n) (f := fun j => pix w h p (x + j % W) (y + j / W)) (c := 1) (by omega) (fun i _ _ => v.pix01 _ _)
  omega

theorem Shrink_l1 {P : Int × Int × List Int × Int → Prop} {w h : Int} {p : List Int} (v : Val w h p) (q e i x y W H n j : Int) (W' H' : Int) (l : List Int) (hW : 1 ≤ W ∧ W ≤ 200) (hH : 1 ≤ H ∧ H ≤ 200) (hx : 0 ≤ x ∧ x ≤ 200) (hy : 0 ≤ y ∧ y ≤ 200)
    (hk : EvP (fun k => (if wrap64 (2 * sqr w h p x y W H) > wrap64 (W * H) then (if 0 ≤ i then (if i < (l.length : Int) then (bitmap_Shrink.l0 k q e n (wrap64 (j + 1)) w h p W' H' (l.set (i : Int).toNat 1)) else (none)) else (none)) else (bitmap_Shrink.l0 k q e n (wrap64 (j + 1)) w h p W' H' l))) P) :
    EvP (fun k => bitmap_Shrink.l1 k q e i x y W H 0 n j (W * H) 0 w h p W' H' l) P := by
  have hm := sid_mul (w := W) (h := H) (by omega) (by omega) hW.2 hH.2
  refine EvP.up (L := fun k t (s : Int) => bitmap_Shrink.l1 k q e i x y W H s n j (W * H) t w h p W' H' l) (fun t s => 0 ≤ t ∧ s = sm t.toNat (fun j => pix w h p (x + j % W) (y + j / W))) (W * H) ?_ 0 0 (by omega) ⟨by omega, rfl⟩
  intro t s ⟨t0, hs⟩ ht ih
  have hb := sqr_01 v x y W H t.toNat
  refine EvP.step (fun k => by rw [bitmap_Shrink.l1]) ?_
  refine EvP.ite (fun h1 => ?_) (fun h1 => ?_)
  · refine EvP.neg (by omega) ?_
    obtain ⟨_, a, b, c, d, _⟩ := flat_of (w := W) (h := H) (i := t) (by omega) t0 h1
    rw [tmod_pos t0, tdiv_pos t0, w64 (x := t / W) (by omega) (by omega), w64 (x := x + t % W) (by omega) (by omega), w64 (x := y + t / W) (by omega) (by omega)]
    refine EvP.bindv (at_is v _ _) ?_
    have e3 := v.pix01 (x + t % W) (y + t / W)
    rw [w64 (x := pix w h p (x + t % W) (y + t / W)) (by omega) (by omega), w64 (x := s + pix w h p (x + t % W) (y + t / W)) (by omega) (by omega), w64 (x := t + 1) (by omega) (by omega)]
    refine ih _ h1 ⟨by omega, ?_⟩
    rw [show (t + 1).toNat = t.toNat + 1 by omega, sm_s, hs, show ((t.toNat : Nat) : Int) = t by omega]
  · have e : s = sqr w h p x y W H := by
      rw [hs]
      unfold sqr
      congr 1
      omega
    subst e
    exact hk
theorem Shrink_is (w h : Int) (p : List Int) (q : Int) (hp : ∀ x ∈ p, 0 ≤ x) (hl : (p.length : Int) ≤ 9223372036854775807) : EvP (fun k => bitmap_Shrink.f k w h p q) (· = shrinkR w h p q) := by
  unfold bitmap_Shrink.f shrinkR
  refine EvP.bind (Valid_is w h p hp hl) ?_
  rintro _ rfl
  refine EvP.ite (fun h1 => ?_) (fun h1 => EvP.ret (by rw [if_neg (by simpa using h1)]))
  have v : Val w h p := by simpa using h1
  rw [if_pos v]
  refine EvP.ite (fun a => EvP.ret (by rw [if_pos (.inl a)])) (fun a => ?_)
  refine EvP.ite (fun b => EvP.ret (by rw [if_pos (.inr b)])) (fun b => ?_)
  rw [if_neg (by omega)]
  refine EvP.neg (by omega) ?_
  obtain ⟨hw, hh, w200, h200, hm0⟩ := v.sid
  have sd := shrink_sid (k := q) v.sid (by omega)
  have c1 := ceil_le (k := q) hw (by omega)
  have c2 := ceil_le (k := q) hh (by omega)
  rw [w64 (x := w + q) (by omega) (by omega), w64 (x := h + q) (by omega) (by omega), w64 (x := w + q - 1) (by omega) (by omega), w64 (x := h + q - 1) (by omega) (by omega), tdiv_pos (show 0 ≤ w + q - 1 by omega), tdiv_pos (show 0 ≤ h + q - 1 by omega), w64 (x := (w + q - 1) / q) (by omega) (by omega), w64 (x := (h + q - 1) / q) (by omega) (by omega)]
  refine EvP.bindv (blank_is _ _) ?_
  simp only [if_pos sd]
  generalize hW' : (w + q - 1) / q = W' at sd c1
  generalize hH' : (h + q - 1) / q = H' at sd c2
  have hm := sid_mul sd.1 sd.2.1 sd.2.2.1 sd.2.2.2.1
  have hlen : ((tab W' H' fun _ _ => (0 : Int)).length : Int) = W' * H' := by rw [tab_length]; omega
  obtain ⟨sw, sh, w2, h2, hm2⟩ := sd
  refine EvP.fillT (L := fun k i l => bitmap_Shrink.l0 k q 0 ((tab W' H' fun _ _ => 0).length : Int) i w h p W' H' l) sw sh (tab W' H' fun _ _ => 0) hlen (shG w h p q) ?_ ?_
  · intro i l h0 h2 hl hw0 p0 p1 q0 q1 e1 e2 fl rd0 hk
    have x1 := c1.2.2 (i % W') p0 p1
    have y1 := c2.2.2 (i / W') q0 q1
    have mw := mnw_at (k := q) (by omega) (by omega) x1.2 x1.1 w200
    have mh := mnw_at (k := q) (by omega) (by omega) y1.2 y1.1 h200
    refine EvP.step (fun k => by rw [bitmap_Shrink.l0]) ?_
    refine EvP.pos h2 (EvP.neg (by omega) ?_)
    have mm := sid_mul (w := mnw q (w - i % W' * q)) (h := mnw q (h - i / W' * q)) (by omega) (by omega) mw.2.1 mh.2.1
    rw [e1, e2, w64 (x := i / W') (by omega) (by omega), w64 (x := i % W' * q) (by omega) (by omega), w64 (x := i / W' * q) (by omega) (by omega), w64 (x := w - i % W' * q) (by omega) (by omega), w64 (x := h - i / W' * q) (by omega) (by omega)]
    show EvP (fun k => bitmap_Shrink.l1 k q 0 i (i % W' * q) (i / W' * q) (mnw q (w - i % W' * q)) (mnw q (h - i / W' * q)) 0 ((tab W' H' fun _ _ => 0).length : Int) i (wrap64 (mnw q (w - i % W' * q) * mnw q (h - i / W' * q))) 0 w h p W' H' l) _
    rw [w64 (x := mnw q (w - i % W' * q) * mnw q (h - i / W' * q)) (by omega) (by omega)]
    refine Shrink_l1 v q 0 i _ _ _ _ _ i W' H' l ⟨mw.1, mw.2.1⟩ ⟨mh.1, mh.2.1⟩ (by omega) (by omega) ?_
    have hb := sqr_01 v (i % W' * q) (i / W' * q) (mnw q (w - i % W' * q)) (mnw q (h - i / W' * q)) (mnw q (w - i % W' * q) * mnw q (h - i / W' * q)).toNat
    have hb' : 0 ≤ sqr w h p (i % W' * q) (i / W' * q) (mnw q (w - i % W' * q)) (mnw q (h - i / W' * q)) ∧ sqr w h p (i % W' * q) (i / W' * q) (mnw q (w - i % W' * q)) (mnw q (h - i / W' * q)) ≤ 40000 := by
      unfold sqr
      omega
    rw [w64 (x := 2 * sqr w h p (i % W' * q) (i / W' * q) (mnw q (w - i % W' * q)) (mnw q (h - i / W' * q))) (by omega) (by omega), w64 (x := mnw q (w - i % W' * q) * mnw q (h - i / W' * q)) (by omega) (by omega), w64 (x := i + 1) (by omega) (by omega)]
    refine EvP.ite (fun r => ?_) (fun r => ?_)
    · refine EvP.pos h0 (EvP.pos (by omega) ?_)
      have eg : shG w h p q (i % W') (i / W') = 1 := if_pos r
      rw [eg] at hk
      exact hk
    · have eg : shG w h p q (i % W') (i / W') = 0 := if_neg r
      rw [eg] at hk
      have es : l.set i.toNat 0 = l := by
        refine rd_ext (by rw [List.length_set]) (fun j j0 j1 => ?_)
        rw [rd_set l i j 0 h0 (by omega) j0]
        split
        · rename_i ej
          rw [ej, rd0, rd_tab _ _ _ _ h0 (by omega)]
        · rfl
      rw [es] at hk
      exact hk
  · refine EvP.step (fun k => by rw [bitmap_Shrink.l0]) ?_
    exact EvP.neg (by omega) (EvP.ret rfl)

theorem Part_is {w h : Int} {p : List Int} {x y w' h' : Int} (v : Val w h p) (s : 0 ≤ w' ∧ 0 ≤ h' ∧ w' ≤ 200 ∧ h' ≤ 200) (hx : -1000000 ≤ x ∧ x ≤ 1000000) (hy : -1000000 ≤ y ∧ y ≤ 1000000) :
    EvP (fun k => incunableref05_Part.f k w h p x y w' h') (· = (w', h', tab w' h' (partG w h p x y))) := by
  obtain ⟨hw', hh', w200', h200'⟩ := s
  have hm := sid_mul hw' hh' w200' h200'
  unfold incunableref05_Part.f
  refine EvP.bind (make2_is w' h' 0 hw' hh' w200' h200') ?_
  rintro _ rfl
  have e0 : tab w' h' (fun u t => if 0 ≤ u ∧ u < w' ∧ 0 ≤ t ∧ t < h' then partG w h p x y u t else 0 % 256) = tab w' h' (partG w h p x y) := tab_congr hw' hh' (fun u t a b c d => if_pos ⟨a, b, c, d⟩)
  refine EvP.rasterP (L0 := fun k j (l : List Int) => incunableref05_Part.l0 k x y w' h' j w h p w' h' l) (L1 := fun k j i (l : List Int) => incunableref05_Part.l1 k x y w' h' j i w h p w' h' l) (W := w') (H := h')
    (fun i j => i) (fun i j => j) (fun u t => u) (fun u t => t) (fun _ _ => 0 % 256) (partG w h p x y) hw' hh' hw' hh' ?_ ?_ ?_ ?_ ?_ ?_ ?_
  · intro i j a b c d
    exact ⟨rfl, rfl⟩
  · intro u t a b c d e f g' h'
    exact ⟨rfl, rfl⟩
  · intro j l a b hk
    refine EvP.step (fun k => by rw [incunableref05_Part.l0]) ?_
    exact EvP.pos b hk
  · refine EvP.step (fun k => by rw [incunableref05_Part.l0]) ?_
    refine EvP.neg (by omega) (EvP.ret ?_)
    rw [e0]
  · intro i j g' a b c d p0 p1 q0 q1 e hk
    refine EvP.step (fun k => by rw [incunableref05_Part.l1]) ?_
    refine EvP.pos b ?_
    rw [w64 (x := x + i) (by omega) (by omega), w64 (x := y + j) (by omega) (by omega)]
    refine EvP.bindv (At_is v _ _) ?_
    refine EvP.bindv (Put_is hw' hh' (by omega) a b c d) ?_
    have e3 := v.pix01 (x + i) (y + j)
    rw [w64 (x := i + 1) (by omega) (by omega), show pix w h p (x + i) (y + j) % 256 = pix w h p (x + i) (y + j) by omega]
    exact hk
  · intro i j g' a b c d q hk
    exact absurd ⟨a, b, c, d⟩ q
  · intro j l a b hk
    refine EvP.step (fun k => by rw [incunableref05_Part.l1]) ?_
    refine EvP.neg (by omega) ?_
    rw [w64 (x := j + 1) (by omega) (by omega)]
    exact hk

theorem Blacks_is (w h : Int) (p : List Int) (hp : Byt p) (hl : (p.length : Int) ≤ 1000000000) : EvP (fun k => incunableref05_Blacks.f k w h p) (· = blk p) := by
  unfold incunableref05_Blacks.f
  refine EvP.up (L := fun k i (s : Int) => incunableref05_Blacks.l0 k s i w h p) (fun i s => 0 ≤ i ∧ s = sm i.toNat (fun j => rd p j)) p.length ?_ 0 0 (by omega) ⟨by omega, rfl⟩
  intro i s ⟨h0, hs⟩ hi ih
  refine EvP.step (fun k => by rw [incunableref05_Blacks.l0]) ?_
  refine EvP.ite (fun h1 => ?_) (fun h1 => ?_)
  · refine EvP.pos h0 ?_
    have hb := hp _ (rd_mem h0 h1)
    have hsm := sm_bound (n := i.toNat) (f := fun j => rd p j) (c := 255) (by omega) (fun j a b => hp _ (rd_mem a (by omega)))
    rw [w64 (x := rd p i) (by omega) (by omega), w64 (x := s + rd p i) (by omega) (by omega), w64 (x := i + 1) (by omega) (by omega)]
    refine ih _ h1 ⟨by omega, ?_⟩
    rw [hs, show (i + 1).toNat = i.toNat + 1 by omega, sm_s, show ((i.toNat : Nat) : Int) = i by omega]
  · refine EvP.ret ?_
    have : i.toNat = p.length := by omega
    rw [hs, this]
    rfl

theorem refShrink_j0 {w h : Int} {p : List Int} {q : Int} (v : Val w h p) (b : Bool) (hb : b = true ↔ (q < 1 ∨ q > 200)) : EvP (fun k => incunableref05_Shrink.j0 k q b w h p) (· = shrinkR w h p q) := by
  unfold shrinkR
  rw [if_pos v]
  refine EvP.step (fun k => by rw [incunableref05_Shrink.j0]) ?_
  refine EvP.ite (fun a => EvP.ret (by rw [if_pos (hb.mp a)])) (fun a => ?_)
  have a : ¬ (q < 1 ∨ q > 200) := fun x => a (hb.mpr x)
  rw [if_neg a]
  refine EvP.neg (by omega) ?_
  obtain ⟨hw, hh, w200, h200, hm0⟩ := v.sid
  have sd := shrink_sid (k := q) v.sid (by omega)
  have c1 := ceil_le (k := q) hw (by omega)
  have c2 := ceil_le (k := q) hh (by omega)
  rw [w64 (x := w + q) (by omega) (by omega), w64 (x := h + q) (by omega) (by omega), w64 (x := w + q - 1) (by omega) (by omega), w64 (x := h + q - 1) (by omega) (by omega), tdiv_pos (show 0 ≤ w + q - 1 by omega), tdiv_pos (show 0 ≤ h + q - 1 by omega), w64 (x := (w + q - 1) / q) (by omega) (by omega), w64 (x := (h + q - 1) / q) (by omega) (by omega)]
  generalize hW' : (w + q - 1) / q = W' at sd c1
  generalize hH' : (h + q - 1) / q = H' at sd c2
  obtain ⟨sw, sh, w2, h2, hm2⟩ := sd
  refine EvP.bind (make2_is W' H' 0 sw sh w2 h2) ?_
  rintro _ rfl
  have e0 : tab W' H' (fun u t => if 0 ≤ u ∧ u < W' ∧ 0 ≤ t ∧ t < H' then shG w h p q u t else 0 % 256) = tab W' H' (shG w h p q) := tab_congr sw sh (fun u t a b c d => if_pos ⟨a, b, c, d⟩)
  refine EvP.rasterP (L0 := fun k j (l : List Int) => incunableref05_Shrink.l0 k q j w h p W' H' l) (L1 := fun k j i (l : List Int) => incunableref05_Shrink.l1 k q j i w h p W' H' l) (W := W') (H := H')
    (fun i j => i) (fun i j => j) (fun u t => u) (fun u t => t) (fun _ _ => 0 % 256) (shG w h p q) sw sh sw sh ?_ ?_ ?_ ?_ ?_ ?_ ?_
  · intro i j a b c d
    exact ⟨rfl, rfl⟩
  · intro u t a b c d e f g' h'
    exact ⟨rfl, rfl⟩
  · intro j l a b hk
    refine EvP.step (fun k => by rw [incunableref05_Shrink.l0]) ?_
    exact EvP.pos b hk
  · refine EvP.step (fun k => by rw [incunableref05_Shrink.l0]) ?_
    refine EvP.neg (by omega) (EvP.ret ?_)
    rw [e0]
  · intro i j g' a1 b1 q0 q1 _ _ _ _ e hk
    have x1 := c1.2.2 i a1 b1
    have y1 := c2.2.2 j q0 q1
    have mw := mnw_at (k := q) (by omega) (by omega) x1.2 x1.1 w200
    have mh := mnw_at (k := q) (by omega) (by omega) y1.2 y1.1 h200
    have mm := sid_mul (w := mnw q (w - i * q)) (h := mnw q (h - j * q)) (by omega) (by omega) mw.2.1 mh.2.1
    have e : g' i j = 0 := e
    refine EvP.step (fun k => by rw [incunableref05_Shrink.l1]) ?_
    refine EvP.pos b1 ?_
    rw [w64 (x := i * q) (by omega) (by omega), w64 (x := j * q) (by omega) (by omega), w64 (x := w - i * q) (by omega) (by omega), w64 (x := h - j * q) (by omega) (by omega)]
    have m1 : mnw q (w - i * q) * mnw q (h - j * q) ≤ w * mnw q (h - j * q) := Int.mul_le_mul_of_nonneg_right (by omega) (by omega)
    have m2 : w * mnw q (h - j * q) ≤ w * h := Int.mul_le_mul_of_nonneg_left (by omega) hw
    have vp : Val (mnw q (w - i * q)) (mnw q (h - j * q)) (tab (mnw q (w - i * q)) (mnw q (h - j * q)) (partG w h p (i * q) (j * q))) := part_val v ⟨by omega, by omega, mw.2.1, mh.2.1, by omega⟩
    refine EvP.bind (Part_is (x := i * q) (y := j * q) (w' := mnw q (w - i * q)) (h' := mnw q (h - j * q)) v ⟨by omega, by omega, mw.2.1, mh.2.1⟩ (by omega) (by omega)) ?_
    rintro _ rfl
    refine EvP.bind (Blacks_is _ _ _ (val_byt vp) (by have e1 := vp.2.2.2.2.2.1; have e2 := vp.2.2.2.2.1; show ((tab _ _ _).length : Int) ≤ _; omega)) ?_
    rintro _ rfl
    have eb : blk (tab (mnw q (w - i * q)) (mnw q (h - j * q)) (partG w h p (i * q) (j * q))) = sqr w h p (i * q) (j * q) (mnw q (w - i * q)) (mnw q (h - j * q)) := by
      unfold blk sqr
      rw [tab_length]
      refine sm_congr (fun t t0 t1 => ?_)
      rw [rd_tab _ _ _ _ t0 (by omega)]
      rfl
    show EvP (fun k => if wrap64 (2 * blk (tab (mnw q (w - i * q)) (mnw q (h - j * q)) (partG w h p (i * q) (j * q)))) > wrap64 (mnw q (w - i * q) * mnw q (h - j * q)) then _ else _) _
    rw [eb]
    have hb := sqr_01 v (i * q) (j * q) (mnw q (w - i * q)) (mnw q (h - j * q)) (mnw q (w - i * q) * mnw q (h - j * q)).toNat
    have hb' : 0 ≤ sqr w h p (i * q) (j * q) (mnw q (w - i * q)) (mnw q (h - j * q)) ∧ sqr w h p (i * q) (j * q) (mnw q (w - i * q)) (mnw q (h - j * q)) ≤ 40000 := by
      unfold sqr
      omega
    rw [w64 (x := 2 * sqr w h p (i * q) (j * q) (mnw q (w - i * q)) (mnw q (h - j * q))) (by omega) (by omega), w64 (x := mnw q (w - i * q) * mnw q (h - j * q)) (by omega) (by omega), w64 (x := i + 1) (by omega) (by omega)]
    refine EvP.ite (fun r => ?_) (fun r => ?_)
    · refine EvP.bindv (Put_is sw sh (by omega) a1 b1 q0 q1) ?_
      have eg : shG w h p q i j = 1 := if_pos r
      have hk : EvP (fun k => incunableref05_Shrink.l1 k q j (i + 1) w h p W' H' (tab W' H' (upd g' i j (shG w h p q i j)))) _ := hk
      rw [eg] at hk
      exact hk
    · have eg : shG w h p q i j = 0 := if_neg r
      have hk : EvP (fun k => incunableref05_Shrink.l1 k q j (i + 1) w h p W' H' (tab W' H' (upd g' i j (shG w h p q i j)))) _ := hk
      rw [eg] at hk
      have eu : tab W' H' (upd g' i j 0) = tab W' H' g' := tab_congr sw sh (fun u t _ _ _ _ => by
        unfold upd
        split
        · rename_i z
          rw [z.1, z.2, e]
        · rfl)
      rw [eu] at hk
      exact hk
  · intro i j g' a b c d q hk
    exact absurd ⟨a, b, c, d⟩ q
  · intro j l a b hk
    refine EvP.step (fun k => by rw [incunableref05_Shrink.l1]) ?_
    refine EvP.neg (by omega) ?_
    rw [w64 (x := j + 1) (by omega) (by omega)]
    exact hk
theorem refShrink_is (w h : Int) (p : List Int) (q : Int) (hp : ∀ x ∈ p, 0 ≤ x) (hl : (p.length : Int) ≤ 9223372036854775807) : EvP (fun k => incunableref05_Shrink.f k w h p q) (· = shrinkR w h p q) := by
  unfold incunableref05_Shrink.f
  refine EvP.bind (refValid_is w h p hp hl) ?_
  rintro _ rfl
  refine EvP.ite (fun h1 => ?_) (fun h1 => EvP.ret (by unfold shrinkR; rw [if_neg (by simpa using h1)]))
  have v : Val w h p := by simpa using h1
  exact EvP.ite (fun a => refShrink_j0 v true (by simp [a])) (fun a => refShrink_j0 v _ (by simp; omega))

theorem clone_is (w h : Int) (p : List Int) (hl : p.length < 140737488355328) : bitmap_clone.f w h p = some (w, h, p) := by
  unfold bitmap_clone.f bytes_Clone.f
  simp only [Option.bind_some, List.length_nil, Nat.zero_add, List.nil_append]
  rw [if_pos hl]
  rfl

theorem q4 (q : Int) (h0 : -9223372036854775808 ≤ q) (h1 : q ≤ 9223372036854775807) : Int.tmod (wrap64 (Int.tmod q 4 + 4)) 4 = q % 4 := by
  rcases Int.lt_or_le q 0 with h | h
  · have e : Int.tmod q 4 = -((-q) % 4) := by
      rw [show q = -(-q) by omega, Int.neg_tmod, tmod_pos (by omega)]
      omega
    rw [e, w64 (by omega) (by omega), tmod_pos (by omega)]
    omega
  · rw [tmod_pos h, w64 (by omega) (by omega), tmod_pos (by omega)]
    omega
/-- One quarter. -/
def t1 (b : Int × Int × List Int) : Int × Int × List Int := (b.2.1, b.1, tab b.2.1 b.1 (fun x y => pix b.1 b.2.1 b.2.2 y (b.2.1 - 1 - x)))
def turnR : Nat → Int × Int × List Int → Int × Int × List Int
  | 0, b => b
  | n + 1, b => turnR n (t1 b)
theorem sid_swap {w h : Int} (s : Sid w h) : Sid h w := ⟨s.2.1, s.1, s.2.2.2.1, s.2.2.1, by rw [Int.mul_comm]; exact s.2.2.2.2⟩
theorem val_t1 {w h : Int} {p : List Int} (v : Val w h p) : Val (t1 (w, h, p)).1 (t1 (w, h, p)).2.1 (t1 (w, h, p)).2.2 :=
  val_tab (g := fun x y => pix w h p y (h - 1 - x)) (sid_swap v.sid) (fun _ _ _ _ _ _ => v.pix01 _ _)
theorem Turn_l1 {P : Int × Int × List Int × Int → Prop} {w h : Int} {p : List Int} (v : Val w h p) (n i : Int)
    (hk : EvP (fun k => bitmap_Turn.l0 k n (wrap64 (i + 1)) h w (tab h w (fun x y => pix w h p y (h - 1 - x)))) P) :
    EvP (fun k => bitmap_Turn.l1 k n i ((List.replicate p.length (0 : Int)).length : Int) 0 w h p h w (List.replicate p.length 0)) P := by
  have hl : ((List.replicate p.length (0 : Int)).length : Int) = h * w := by rw [List.length_replicate, v.2.2.2.2.2.1, Int.mul_comm]
  have hm := v.2.2.2.2.1
  have hm2 : h * w = w * h := Int.mul_comm h w
  refine EvP.fillT (L := fun k j s => bitmap_Turn.l1 k n i ((List.replicate p.length (0 : Int)).length : Int) j w h p h w s) v.2.1 v.1 (List.replicate p.length 0) hl (fun x y => pix w h p y (h - 1 - x)) ?_ ?_
  · intro j s h0 h1 hs hw a b c d e f _ _ hk
    obtain ⟨_, _, h200, h200', _⟩ := v.sid
    refine EvP.step (fun k => by rw [bitmap_Turn.l1]) ?_
    refine EvP.pos h1 (EvP.neg (by omega) ?_)
    rw [e, f, w64 (x := j / h) (by omega) (by omega), w64 (x := h - 1) (by omega) (by omega), w64 (by omega) (by omega)]
    refine EvP.bindv (at_is v _ _) ?_
    refine EvP.pos h0 (EvP.pos (by omega) ?_)
    rw [w64 (by omega) (by omega)]
    exact hk
  · refine EvP.step (fun k => by rw [bitmap_Turn.l1]) ?_
    exact EvP.neg (by omega) hk
theorem Turn_l0 (n : Int) (hn : n ≤ 4) : ∀ (d : Nat) (i w h : Int) (p : List Int), Val w h p → 0 ≤ i → i ≤ n → (n - i).toNat = d →
    EvP (fun k => bitmap_Turn.l0 k n i w h p) (· = ((turnR d (w, h, p)).1, (turnR d (w, h, p)).2.1, (turnR d (w, h, p)).2.2, 0)) := by
  intro d
  induction d with
  | zero =>
    intro i w h p v h0 h1 hd
    refine EvP.step (fun k => by rw [bitmap_Turn.l0]) ?_
    exact EvP.neg (by omega) (EvP.ret rfl)
  | succ d ih =>
    intro i w h p v h0 h1 hd
    have hlen : (p.length : Int) ≤ 8192 := by rw [v.2.2.2.2.2.1]; exact v.2.2.2.2.1
    refine EvP.step (fun k => by rw [bitmap_Turn.l0]) ?_
    refine EvP.pos (by omega) (EvP.pos (by omega) (EvP.pos (by omega) ?_))
    refine EvP.bindv rfl ?_
    rw [Int.toNat_natCast]
    refine Turn_l1 v n i ?_
    rw [w64 (by omega) (by omega)]
    exact ih (i + 1) h w _ (val_t1 v) (by omega) (by omega) (by omega)
/-- What Turn returns. -/
def turnQ (w h : Int) (p : List Int) (q : Int) : Int × Int × List Int := turnR (q % 4).toNat (w, h, p)
theorem Turn_is {w h : Int} {p : List Int} (v : Val w h p) (q : Int) (h0 : -9223372036854775808 ≤ q) (h1 : q ≤ 9223372036854775807) :
    EvP (fun k => bitmap_Turn.f k w h p q) (· = ((turnQ w h p q).1, (turnQ w h p q).2.1, (turnQ w h p q).2.2, 0)) := by
  have hlen : (p.length : Int) ≤ 8192 := by rw [v.2.2.2.2.2.1]; exact v.2.2.2.2.1
  unfold bitmap_Turn.f
  refine EvP.bind (Valid_is w h p (fun x hx => (v.2.2.2.2.2.2 x hx).1) (by omega)) ?_
  rintro _ rfl
  refine EvP.pos (decide_eq_true v) ?_
  refine EvP.bindv (clone_is w h p (by omega)) ?_
  rw [q4 q h0 h1]
  exact Turn_l0 (q % 4) (by omega) _ 0 w h p v (by omega) (by omega) (by omega)
theorem Turn_bad {w h : Int} {p : List Int} (v : ¬ Val w h p) (hp : ∀ x ∈ p, 0 ≤ x) (hl : (p.length : Int) ≤ 9223372036854775807) (q : Int) : EvP (fun k => bitmap_Turn.f k w h p q) (· = (0, 0, [], 30)) := by
  unfold bitmap_Turn.f
  refine EvP.bind (Valid_is w h p hp hl) ?_
  rintro _ rfl
  exact EvP.neg (by simpa using v) (EvP.ret rfl)

theorem Sane_is : EvP (fun k => incunablelaw05_Sane.f k) (· = true) := by
  unfold incunablelaw05_Sane.f
  refine EvP.bind (Turn_is (w := 2) (h := 1) (p := [1, 0]) (by unfold Val; decide) 1 (by omega) (by omega)) ?_
  rintro _ rfl
  refine EvP.pos rfl ?_
  refine EvP.bindv (refSame_is _ _ _ _ _ _ ?_ ?_) (EvP.ret ?_)
  · unfold Byt
    decide
  · unfold Byt
    decide
  · decide

theorem Huge_is (w h : Int) (p : List Int) : incunablelaw05_Huge.f w h p = some (decide ((p.length : Int) > 20000)) := rfl

theorem shrink_grow {w h : Int} {p : List Int} {k : Int} (v : Val w h p) (hk : 1 ≤ k) (hk' : k ≤ 200) (s : Sid (w * k) (h * k)) : shrinkR (w * k) (h * k) (tab (w * k) (h * k) (growG w h p k)) k = (w, h, p, 0) := by
  have vg := grow_val v s
  unfold shrinkR
  rw [if_pos vg, if_neg (by omega)]
  have ew : ∀ z : Int, (z * k + k - 1) / k = z := fun z => by
    rw [show z * k + k - 1 = (k - 1) + z * k by omega, Int.add_mul_ediv_right _ _ (by omega), Int.ediv_eq_zero_of_lt (by omega) (by omega)]
    omega
  rw [ew w, ew h]
  have e : tab w h (shG (w * k) (h * k) (tab (w * k) (h * k) (growG w h p k)) k) = p := by
    refine Eq.trans (tab_congr v.1 v.2.1 (fun x y a b c d => ?_)) v.tab.symm
    have fx := flat_lt (w := k) (h := w) (x := 0) (y := x) (by omega) (by omega) a b
    have gx : (x + 1) * k ≤ w * k := Int.mul_le_mul_of_nonneg_right (by omega) (by omega)
    have gy : (y + 1) * k ≤ h * k := Int.mul_le_mul_of_nonneg_right (by omega) (by omega)
    have nx : 0 ≤ x * k := Int.mul_nonneg a (by omega)
    have ny : 0 ≤ y * k := Int.mul_nonneg c (by omega)
    rw [Int.add_mul, Int.one_mul] at gx gy
    have e1 : mnw k (w * k - x * k) = k := by unfold mnw; rw [if_neg (by omega)]
    have e2 : mnw k (h * k - y * k) = k := by unfold mnw; rw [if_neg (by omega)]
    have kk : 1 ≤ k * k := by have := Int.mul_le_mul_of_nonneg_right hk (show 0 ≤ k by omega); omega
    have es : sqr (w * k) (h * k) (tab (w * k) (h * k) (growG w h p k)) (x * k) (y * k) k k = (k * k) * pix w h p x y := by
      unfold sqr
      have : sm (k * k).toNat (fun j => pix (w * k) (h * k) (tab (w * k) (h * k) (growG w h p k)) (x * k + j % k) (y * k + j / k)) = sm (k * k).toNat (fun _ => pix w h p x y) := sm_congr (fun j j0 j1 => by
        obtain ⟨_, a1, a2, a3, a4, _⟩ := flat_of (w := k) (h := k) (i := j) (by omega) j0 (by omega)
        rw [pix_tab, if_pos (by omega)]
        unfold growG
        rw [flat_div a1 a2, flat_div a3 a4])
      rw [this, sm_const, Int.toNat_of_nonneg (by omega)]
    unfold shG
    rw [e1, e2, es]
    have b1 := v.pix01 x y
    by_cases o : pix w h p x y = 0
    · rw [o, if_neg (by omega)]
    · have o : pix w h p x y = 1 := by omega
      rw [o, if_pos (by omega)]
  exact congrArg (fun l => (w, h, l, (0 : Int))) e
theorem BitmapGrows : incunablelaw05_BitmapGrows.Pure := by
  intro w h p k _ _ hp hk
  have hb := wf_byt hp.2.2
  refine EvP.rounds ?_
  unfold incunablelaw05_BitmapGrows.f
  refine EvP.bindv (Huge_is w h p) ?_
  refine EvP.ite (fun a => ?_) (fun a => ?_)
  · refine EvP.bind Sane_is ?_
    rintro _ rfl
    exact EvP.ret rfl
  have a : ¬ (p.length : Int) > 20000 := by simpa using a
  refine EvP.bind (Grow_is w h p k (fun z hz => (hb z hz).1) (by omega)) ?_
  rintro _ rfl
  refine EvP.bind (refGrow_is w h p k (fun z hz => (hb z hz).1) (by omega)) ?_
  rintro _ rfl
  refine EvP.bind (Shrink_is w h p k (fun z hz => (hb z hz).1) (by omega)) ?_
  rintro _ rfl
  refine EvP.bind (refShrink_is w h p k (fun z hz => (hb z hz).1) (by omega)) ?_
  rintro _ rfl
  refine EvP.pos rfl (EvP.pos rfl ?_)
  refine EvP.bindv (refSame_is _ _ _ _ _ _ (growR_byt w h p k) (growR_byt w h p k)) ?_
  refine EvP.pos (by simp) ?_
  refine EvP.bindv (refSame_is _ _ _ _ _ _ (shrinkR_byt w h p k) (shrinkR_byt w h p k)) ?_
  refine EvP.step (fun k => by rw [incunablelaw05_BitmapGrows.j0]) ?_
  refine EvP.neg (by simp) ?_
  refine EvP.ite (fun e => ?_) (fun e => ?_)
  · by_cases v : Val w h p
    · by_cases q : k < 1 ∨ k > 200
      · unfold growR at e
        rw [if_pos v, if_pos q] at e
        exact absurd e (by decide)
      · by_cases s : Sid (w * k) (h * k)
        · have eg : growR w h p k = (w * k, h * k, tab (w * k) (h * k) (growG w h p k), 0) := by
            unfold growR
            rw [if_pos v, if_neg q, if_pos s]
          rw [eg]
          have vg := grow_val v s
          refine EvP.bind (Shrink_is _ _ _ k (fun z hz => (val_byt vg z hz).1) (by have e1 := vg.2.2.2.2.2.1; have e2 := vg.2.2.2.2.1; show ((tab _ _ _).length : Int) ≤ _; omega)) ?_
          rintro _ rfl
          rw [shrink_grow v (by omega) (by omega) s]
          refine EvP.pos rfl ?_
          refine EvP.bindv (refSame_is _ _ _ _ _ _ hb hb) ?_
          refine EvP.pos (by simp) ?_
          refine EvP.bind Sane_is ?_
          rintro _ rfl
          exact EvP.ret rfl
        · unfold growR at e
          rw [if_pos v, if_neg q, if_neg s] at e
          exact absurd e (by decide)
    · unfold growR at e
      rw [if_neg v] at e
      exact absurd e (by decide)
  · refine EvP.bind Sane_is ?_
    rintro _ rfl
    exact EvP.ret rfl

end Go.Proofs.Ytgcjhpcegmblgaa.Pure
