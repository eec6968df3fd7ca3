/- Which bitmaps are valid, how many pixels are black, and that Get is white outside; for every input, no conditions. -/
import Derived.Test.YtgcjhpcegmblgaaPBitmapValidx4
import Derived.Test.YtgcjhpcegmblgaaQBase
namespace Go.Proofs.Ytgcjhpcegmblgaa.Pure
open Go.RowKit Go.Proofs.Ytgcjhpcegmblgaa.PBitmapValid Go.Proofs.YtgcjhpcegmblgaaW.PrintWords Go.Proofs.YtgcjhpcegmblgaaW.PrintLast Go.Proofs.YtgcjhpcegmblgaaW.PrintMore Go.Proofs.YtgcjhpcegmblgaaW.Pu
set_option linter.unusedVariables false
set_option linter.unusedSimpArgs false
/-- The numbers of a list are those of bytes. -/
def Byt (p : List Int) : Prop := ∀ x ∈ p, 0 ≤ x ∧ x ≤ 255

theorem wf_byt {p : List Int} (h : ∀ y ∈ p, (Lit.int .u8 y).wf = true) : Byt p := fun x hx => by
  have h1 : (decide (IntKind.u8.min ≤ x) && decide (x ≤ IntKind.u8.max)) = true := h x hx
  obtain ⟨a, b⟩ := Bool.and_eq_true_iff.mp h1
  exact ⟨of_decide_eq_true a, of_decide_eq_true b⟩
theorem wf_i64 {x : Int} (h : (Lit.int .i64 x).wf = true) : -9223372036854775808 ≤ x ∧ x ≤ 9223372036854775807 := by
  have h1 : (decide (IntKind.i64.min ≤ x) && decide (x ≤ IntKind.i64.max)) = true := h
  obtain ⟨a, b⟩ := Bool.and_eq_true_iff.mp h1
  exact ⟨of_decide_eq_true a, of_decide_eq_true b⟩

theorem at_is {w h : Int} {p : List Int} (v : Val w h p) (x y : Int) : bitmap_at.f w h p x y = some (pix w h p x y) := by
  unfold bitmap_at.f
  by_cases hc : 0 ≤ x ∧ x < w ∧ 0 ≤ y ∧ y < h
  · have hf := flat_lt hc.1 hc.2.1 hc.2.2.1 hc.2.2.2
    have hm := v.2.2.2.2.1
    have hl := v.2.2.2.2.2.1
    rw [if_neg (by omega), if_neg (by omega), if_neg (by omega), if_neg (by omega)]
    have e : wrap64 (y * w) = y * w := w64 (by omega) (by omega)
    rw [e, w64 (by omega) (by omega), if_pos hf.2.1, if_pos (by omega), pix_in hc.1 hc.2.1 hc.2.2.1 hc.2.2.2]
  · rw [pix_out hc]
    by_cases a : x < 0
    · rw [if_pos a]
    rw [if_neg a]
    by_cases b : y < 0
    · rw [if_pos b]
    rw [if_neg b]
    by_cases c : x ≥ w
    · rw [if_pos c]
    rw [if_neg c, if_pos (by omega)]

theorem inside_is (w h : Int) (p : List Int) (x y : Int) : incunableref05_inside.f w h p x y = some (decide (0 ≤ x ∧ x < w ∧ 0 ≤ y ∧ y < h)) := by
  unfold incunableref05_inside.f
  by_cases a : x ≥ 0
  · rw [if_pos a]
    by_cases b : y ≥ 0
    · rw [if_pos b]
      by_cases c : x < w
      · rw [if_pos c]
        exact congrArg some (decide_eq_decide.mpr ⟨fun q => by omega, fun q => by omega⟩)
      · rw [if_neg c]
        exact congrArg some (decide_eq_false (by omega)).symm
    · rw [if_neg b]
      exact congrArg some (decide_eq_false (by omega)).symm
  · rw [if_neg a]
    exact congrArg some (decide_eq_false (by omega)).symm

theorem At_is {w h : Int} {p : List Int} (v : Val w h p) (x y : Int) : incunableref05_At.f w h p x y = some (pix w h p x y) := by
  unfold incunableref05_At.f
  rw [inside_is, Option.bind_some]
  by_cases hc : 0 ≤ x ∧ x < w ∧ 0 ≤ y ∧ y < h
  · have hf := flat_lt hc.1 hc.2.1 hc.2.2.1 hc.2.2.2
    have hm := v.2.2.2.2.1
    have hl := v.2.2.2.2.2.1
    have e : wrap64 (y * w) = y * w := w64 (by omega) (by omega)
    have hr := v.2.2.2.2.2.2 _ (rd_mem (l := p) hf.2.1 (by omega))
    rw [if_pos (decide_eq_true hc), e, w64 (by omega) (by omega), if_pos hf.2.1, if_pos (by omega), w64 (by omega) (by omega), pix_in hc.1 hc.2.1 hc.2.2.1 hc.2.2.2]
  · rw [if_neg (by simpa using hc), pix_out hc]

instance (w h : Int) (p : List Int) : Decidable (Val w h p) := by unfold Val; exact inferInstance
theorem sid_mul {w h : Int} (hw : 0 ≤ w) (hh : 0 ≤ h) (hw' : w ≤ 200) (hh' : h ≤ 200) : 0 ≤ w * h ∧ w * h ≤ 40000 := by
  have h1 : 0 ≤ w * h := Int.mul_nonneg hw hh
  have h2 : w * h ≤ 200 * h := Int.mul_le_mul_of_nonneg_right hw' hh
  omega

theorem fits_is (w h : Int) : bitmap_fits.f w h = some (decide (Sid w h)) := by
  unfold bitmap_fits.f
  by_cases h1 : 0 ≤ w ∧ 0 ≤ h ∧ w ≤ 200 ∧ h ≤ 200
  · obtain ⟨a, b, c, d⟩ := h1
    have := sid_mul a b c d
    rw [if_pos (by omega), if_pos (by omega), if_pos c, if_pos d, w64 (by omega) (by omega)]
    simp [Sid, a, b, c, d]
  · have h2 : ¬ Sid w h := fun s => h1 ⟨s.1, s.2.1, s.2.2.1, s.2.2.2.1⟩
    simp only [h2, decide_false]
    split
    · split
      · split
        · split
          · omega
          · rfl
        · rfl
      · rfl
    · rfl

theorem Valid_l0 (p : List Int) (hl : (p.length : Int) ≤ 9223372036854775807) : EvP (fun k => bitmap_Valid.l0 k p (p.length : Int) 0) (· = decide (∀ x ∈ p, x ≤ 1)) := by
  refine EvP.up (L := fun k i (_ : Unit) => bitmap_Valid.l0 k p (p.length : Int) i) (fun i _ => 0 ≤ i ∧ ∀ j, 0 ≤ j → j < i → rd p j ≤ 1) p.length ?_ 0 () (by omega) ⟨by omega, fun j _ _ => by omega⟩
  intro i _ ⟨h0, hb⟩ hi ih
  refine EvP.step (fun k => by rw [bitmap_Valid.l0]) ?_
  refine EvP.ite (fun h1 => ?_) (fun h1 => ?_)
  · refine EvP.pos h0 (EvP.pos h1 (EvP.ite (fun h2 => EvP.ret ?_) (fun h2 => ?_)))
    · symm
      rw [decide_eq_false_iff_not]
      intro hall
      have := hall _ (rd_mem h0 h1)
      omega
    · rw [w64 (by omega) (by omega)]
      refine ih () h1 ⟨by omega, fun j hj hj' => ?_⟩
      rcases Int.lt_or_le j i with hji | hji
      · exact hb j hj hji
      · have : j = i := by omega
        subst this
        omega
  · refine EvP.ret ?_
    symm
    rw [decide_eq_true_iff]
    intro x hx
    obtain ⟨n, hn, rfl⟩ := List.getElem_of_mem hx
    have := hb (n : Int) (by omega) (by omega)
    rwa [rd_get p n hn] at this
theorem Valid_is (w h : Int) (p : List Int) (hp : ∀ x ∈ p, 0 ≤ x) (hl : (p.length : Int) ≤ 9223372036854775807) : EvP (fun k => bitmap_Valid.f k w h p) (· = decide (Val w h p)) := by
  unfold bitmap_Valid.f
  refine EvP.bindv (fits_is w h) ?_
  refine EvP.ite (fun h1 => ?_) (fun h1 => ?_)
  · rw [decide_eq_true_iff] at h1
    have hm := sid_mul h1.1 h1.2.1 h1.2.2.1 h1.2.2.2.1
    rw [w64 (by omega) (by omega)]
    refine EvP.step (fun k => by rw [bitmap_Valid.j0]) ?_
    refine EvP.ite (fun h2 => EvP.ret ?_) (fun h2 => ?_)
    · symm
      rw [decide_eq_false_iff_not]
      intro v
      simp [v.2.2.2.2.2.1] at h2
    · refine (Valid_l0 p hl).mono ?_
      rintro r rfl
      have e : (p.length : Int) = w * h := by simpa using h2
      apply decide_eq_decide.mpr
      constructor
      · intro hall
        exact ⟨h1.1, h1.2.1, h1.2.2.1, h1.2.2.2.1, h1.2.2.2.2, e, fun x hx => ⟨hp x hx, hall x hx⟩⟩
      · intro v x hx
        exact (v.2.2.2.2.2.2 x hx).2
  · refine EvP.step (fun k => by rw [bitmap_Valid.j0]) ?_
    refine EvP.pos rfl (EvP.ret ?_)
    symm
    rw [decide_eq_false_iff_not]
    intro v
    exact h1 (decide_eq_true v.sid)

theorem Sides_is (w h : Int) : incunableref05_Sides.f w h = some (decide (Sid w h)) := by
  unfold incunableref05_Sides.f
  by_cases h1 : 0 ≤ w ∧ 0 ≤ h ∧ w ≤ 200 ∧ h ≤ 200
  · obtain ⟨a, b, c, d⟩ := h1
    have := sid_mul a b c d
    rw [if_pos (by omega), if_pos (by omega), if_pos c, if_pos d, w64 (by omega) (by omega)]
    simp [Sid, a, b, c, d]
  · have h2 : ¬ Sid w h := fun s => h1 ⟨s.1, s.2.1, s.2.2.1, s.2.2.2.1⟩
    simp only [h2, decide_false]
    split
    · split
      · split
        · split
          · omega
          · rfl
        · rfl
      · rfl
    · rfl

theorem refValid_l0 (w h : Int) (p : List Int) (hl : (p.length : Int) ≤ 9223372036854775807) : EvP (fun k => incunableref05_Valid.l0 k 0 w h p) (· = decide (∀ x ∈ p, x ≤ 1)) := by
  refine EvP.up (L := fun k i (_ : Unit) => incunableref05_Valid.l0 k i w h p) (fun i _ => 0 ≤ i ∧ ∀ j, 0 ≤ j → j < i → rd p j ≤ 1) p.length ?_ 0 () (by omega) ⟨by omega, fun j _ _ => by omega⟩
  intro i _ ⟨h0, hb⟩ hi ih
  refine EvP.step (fun k => by rw [incunableref05_Valid.l0]) ?_
  refine EvP.ite (fun h1 => ?_) (fun h1 => ?_)
  · refine EvP.pos h0 (EvP.ite (fun h2 => EvP.ret ?_) (fun h2 => ?_))
    · symm
      rw [decide_eq_false_iff_not]
      intro hall
      have := hall _ (rd_mem h0 h1)
      omega
    · rw [w64 (by omega) (by omega)]
      refine ih () h1 ⟨by omega, fun j hj hj' => ?_⟩
      rcases Int.lt_or_le j i with hji | hji
      · exact hb j hj hji
      · have : j = i := by omega
        subst this
        omega
  · refine EvP.ret ?_
    symm
    rw [decide_eq_true_iff]
    intro x hx
    obtain ⟨n, hn, rfl⟩ := List.getElem_of_mem hx
    have := hb (n : Int) (by omega) (by omega)
    rwa [rd_get p n hn] at this
theorem refValid_is (w h : Int) (p : List Int) (hp : ∀ x ∈ p, 0 ≤ x) (hl : (p.length : Int) ≤ 9223372036854775807) : EvP (fun k => incunableref05_Valid.f k w h p) (· = decide (Val w h p)) := by
  unfold incunableref05_Valid.f
  refine EvP.bindv (Sides_is w h) ?_
  refine EvP.ite (fun h1 => ?_) (fun h1 => ?_)
  · rw [decide_eq_true_iff] at h1
    have hm := sid_mul h1.1 h1.2.1 h1.2.2.1 h1.2.2.2.1
    rw [w64 (by omega) (by omega)]
    refine EvP.step (fun k => by rw [incunableref05_Valid.j0]) ?_
    refine EvP.ite (fun h2 => EvP.ret ?_) (fun h2 => ?_)
    · symm
      rw [decide_eq_false_iff_not]
      intro v
      simp [v.2.2.2.2.2.1] at h2
    · refine (refValid_l0 w h p hl).mono ?_
      rintro r rfl
      have e : (p.length : Int) = w * h := by simpa using h2
      apply decide_eq_decide.mpr
      constructor
      · intro hall
        exact ⟨h1.1, h1.2.1, h1.2.2.1, h1.2.2.2.1, h1.2.2.2.2, e, fun x hx => ⟨hp x hx, hall x hx⟩⟩
      · intro v x hx
        exact (v.2.2.2.2.2.2 x hx).2
  · refine EvP.step (fun k => by rw [incunableref05_Valid.j0]) ?_
    refine EvP.pos rfl (EvP.ret ?_)
    symm
    rw [decide_eq_false_iff_not]
    intro v
    exact h1 (decide_eq_true v.sid)

theorem refSame_is (w h : Int) (p : List Int) (w' h' : Int) (p' : List Int) (hp : Byt p) (hp' : Byt p') : incunableref05_Same.f w h p w' h' p' = some (decide (w = w' ∧ h = h' ∧ p = p')) := by
  unfold incunableref05_Same.f
  rw [strOfNums_eq hp hp']
  by_cases a : w = w'
  · by_cases b : h = h'
    · simp [a, b]
    · simp [a, b]
  · simp [a]
theorem val_byt {w h : Int} {p : List Int} (v : Val w h p) : Byt p := fun x hx => ⟨(v.2.2.2.2.2.2 x hx).1, by have := (v.2.2.2.2.2.2 x hx).2; omega⟩

/-- The sum of the first numbers. -/
def sm : Nat → (Int → Int) → Int
  | 0, _ => 0
  | n + 1, f => sm n f + f (n : Int)
theorem sm_s (n : Nat) (f : Int → Int) : sm (n + 1) f = sm n f + f (n : Int) := rfl
theorem sm_0 (f : Int → Int) : sm 0 f = 0 := rfl
theorem sm_congr {f g : Int → Int} : ∀ {n : Nat}, (∀ i : Int, 0 ≤ i → i < n → f i = g i) → sm n f = sm n g
  | 0, _ => rfl
  | n + 1, h => by
    unfold sm
    rw [sm_congr (fun i h0 h1 => h i h0 (by omega)), h n (by omega) (by omega)]
theorem sm_bound {f : Int → Int} {c : Int} (hc : 0 ≤ c) : ∀ {n : Nat}, (∀ i : Int, 0 ≤ i → i < n → 0 ≤ f i ∧ f i ≤ c) → 0 ≤ sm n f ∧ sm n f ≤ n * c
  | 0, _ => by simp [sm]
  | n + 1, h => by
    have h1 := sm_bound hc (fun i h0 h1 => h i h0 (by omega)) (n := n)
    have h2 := h n (by omega) (by omega)
    unfold sm
    have e : ((n + 1 : Nat) : Int) * c = n * c + c := by rw [Int.natCast_add, Int.add_mul]; simp
    omega
theorem sm_zero {f : Int → Int} (h0 : ∀ i : Int, 0 ≤ i → 0 ≤ f i) : ∀ {n : Nat}, sm n f = 0 → ∀ i : Int, 0 ≤ i → i < n → f i = 0
  | 0, _, i, a, b => by omega
  | n + 1, h, i, a, b => by
    unfold sm at h
    have h1 : 0 ≤ sm n f := by
      have : ∀ m : Nat, 0 ≤ sm m f := by
        intro m
        induction m with
        | zero => simp [sm]
        | succ m ih => unfold sm; have := h0 m (by omega); omega
      exact this n
    have h2 := h0 n (by omega)
    rcases Int.lt_or_le i n with c | c
    · exact sm_zero h0 (show sm n f = 0 by omega) i a c
    · have : i = n := by omega
      subst this
      omega
theorem sm_const (c : Int) : ∀ n : Nat, sm n (fun _ => c) = n * c
  | 0 => by simp [sm]
  | n + 1 => by
    unfold sm
    rw [sm_const c n, Int.natCast_add, Int.add_mul]
    simp
theorem sm_add (f : Int → Int) (a : Nat) : ∀ b : Nat, sm (a + b) f = sm a f + sm b (fun i => f (a + i))
  | 0 => by simp [sm]
  | b + 1 => by
    rw [show a + (b + 1) = (a + b) + 1 from rfl, sm_s, sm_s, sm_add f a b]
    have e : ((a + b : Nat) : Int) = (a : Int) + (b : Int) := by omega
    rw [e]
    show sm a f + sm b (fun i => f (a + i)) + f (a + b) = sm a f + (sm b (fun i => f (a + i)) + f (a + b))
    omega
theorem sm_plus (f g : Int → Int) : ∀ n : Nat, sm n (fun i => f i + g i) = sm n f + sm n g
  | 0 => by simp [sm]
  | n + 1 => by
    rw [sm_s, sm_s, sm_s, sm_plus f g n]
    show sm n f + sm n g + (f n + g n) = sm n f + f n + (sm n g + g n)
    omega
theorem sm_swap (g : Int → Int → Int) (W : Nat) : ∀ H : Nat, sm H (fun y => sm W (fun x => g x y)) = sm W (fun x => sm H (fun y => g x y))
  | 0 => by
    have : sm W (fun x => sm 0 (fun y => g x y)) = sm W (fun _ => 0) := sm_congr (fun i _ _ => rfl)
    rw [this, sm_const 0 W, sm_0]
    simp
  | H + 1 => by
    rw [sm_s, sm_swap g W H]
    have : sm W (fun x => sm (H + 1) (fun y => g x y)) = sm W (fun x => sm H (fun y => g x y) + g x H) := sm_congr (fun i _ _ => rfl)
    rw [this, sm_plus]
theorem sm_front (f : Int → Int) : ∀ n : Nat, sm (n + 1) f = f 0 + sm n (fun i => f (i + 1))
  | 0 => by simp [sm]
  | n + 1 => by
    rw [show sm (n + 1 + 1) f = sm (n + 1) f + f ((n + 1 : Nat) : Int) from rfl, sm_front f n]
    rw [show sm (n + 1) (fun i => f (i + 1)) = sm n (fun i => f (i + 1)) + f ((n : Int) + 1) from rfl]
    have e : ((n + 1 : Nat) : Int) = (n : Int) + 1 := by omega
    rw [e]
    omega
theorem sm_mirror (f : Int → Int) : ∀ n : Nat, sm n (fun i => f ((n : Int) - 1 - i)) = sm n f
  | 0 => rfl
  | n + 1 => by
    rw [sm_front]
    have e : (((n + 1 : Nat) : Int) - 1 - 0) = (n : Int) := by omega
    rw [e]
    have e2 : sm n (fun i => f (((n + 1 : Nat) : Int) - 1 - (i + 1))) = sm n (fun i => f ((n : Int) - 1 - i)) := sm_congr (fun i _ _ => by
      have : ((n + 1 : Nat) : Int) - 1 - (i + 1) = (n : Int) - 1 - i := by omega
      rw [this])
    rw [e2, sm_mirror f n, sm_s]
    omega
/-- All pixels' sum. -/
def tot (w h : Int) (g : Int → Int → Int) : Int := sm h.toNat (fun y => sm w.toNat (fun x => g x y))
theorem sm_flat (g : Int → Int → Int) (W : Nat) : ∀ H : Nat, sm (W * H) (fun i => g (i % (W : Int)) (i / (W : Int))) = sm H (fun y => sm W (fun x => g x y))
  | 0 => rfl
  | H + 1 => by
    rw [Nat.mul_succ, sm_add, sm_flat g W H]
    rw [show sm (H + 1) (fun y => sm W (fun x => g x y)) = sm H (fun y => sm W (fun x => g x y)) + sm W (fun x => g x (H : Int)) from rfl]
    congr 1
    refine sm_congr (fun i h0 h1 => ?_)
    have e : ((W * H : Nat) : Int) + i = (H : Int) * (W : Int) + i := by rw [Int.natCast_mul, Int.mul_comm]
    rw [e, flat_mod h0 h1, flat_div h0 h1]
theorem sm_tab {w h : Int} (hw : 0 ≤ w) (hh : 0 ≤ h) (g : Int → Int → Int) : sm (tab w h g).length (fun i => rd (tab w h g) i) = tot w h g := by
  have h0 : 0 ≤ w * h := Int.mul_nonneg hw hh
  rw [tab_length]
  have e : (w * h).toNat = w.toNat * h.toNat := by
    have e1 : ((w.toNat * h.toNat : Nat) : Int) = w * h := by rw [Int.natCast_mul, Int.toNat_of_nonneg hw, Int.toNat_of_nonneg hh]
    omega
  have ew : ((w.toNat : Nat) : Int) = w := Int.toNat_of_nonneg hw
  unfold tot
  rw [← sm_flat g w.toNat h.toNat, e, ew]
  refine sm_congr (fun i a b => ?_)
  rw [rd_tab w h g i a (by omega)]
theorem tot_congr {w h : Int} {g g' : Int → Int → Int} (hg : ∀ x y, 0 ≤ x → x < w → 0 ≤ y → y < h → g x y = g' x y) : tot w h g = tot w h g' :=
  sm_congr (fun y a b => sm_congr (fun x c d => hg x y c (by omega) a (by omega)))
theorem tot_turn {w h : Int} (hw : 0 ≤ w) (hh : 0 ≤ h) (g : Int → Int → Int) : tot h w (fun x y => g y (h - 1 - x)) = tot w h g := by
  unfold tot
  have eh : ((h.toNat : Nat) : Int) = h := Int.toNat_of_nonneg hh
  rw [sm_swap (fun x y => g x y) w.toNat h.toNat]
  refine sm_congr (fun y a b => ?_)
  have := sm_mirror (fun i => g y i) h.toNat
  rw [eh] at this
  exact this
theorem tot_flip {w h : Int} (hw : 0 ≤ w) (hh : 0 ≤ h) (g : Int → Int → Int) : tot w h (fun x y => g (w - 1 - x) y) = tot w h g := by
  unfold tot
  have ew : ((w.toNat : Nat) : Int) = w := Int.toNat_of_nonneg hw
  refine sm_congr (fun y a b => ?_)
  have := sm_mirror (fun i => g i y) w.toNat
  rw [ew] at this
  exact this
/-- How many pixels are black. -/
def blk (p : List Int) : Int := sm p.length (fun i => rd p i)
theorem blk_val {w h : Int} {p : List Int} (v : Val w h p) : blk p = tot w h (pix w h p) := by
  unfold blk
  have e := sm_tab v.1 v.2.1 (pix w h p)
  rw [← v.tab] at e
  exact e

theorem Blacks_is (w h : Int) (p : List Int) (hp : Byt p) (hl : (p.length : Int) ≤ 1000000000) : EvP (fun k => incunableref05_Blacks.f k w h p) (· = blk p) := by
  unfold incunableref05_Blacks.f
  refine EvP.up (L := fun k i (s : Int) => incunableref05_Blacks.l0 k s i w h p) (fun i s => 0 ≤ i ∧ s = sm i.toNat (fun j => rd p j)) p.length ?_ 0 0 (by omega) ⟨by omega, rfl⟩
  intro i s ⟨h0, hs⟩ hi ih
  refine EvP.step (fun k => by rw [incunableref05_Blacks.l0]) ?_
  refine EvP.ite (fun h1 => ?_) (fun h1 => ?_)
  · refine EvP.pos h0 ?_
    have hb := hp _ (rd_mem h0 h1)
    have hsm := sm_bound (n := i.toNat) (f := fun j => rd p j) (c := 255) (by omega) (fun j a b => hp _ (rd_mem a (by omega)))
    rw [w64 (x := rd p i) (by omega) (by omega), w64 (x := s + rd p i) (by omega) (by omega), w64 (x := i + 1) (by omega) (by omega)]
    refine ih _ h1 ⟨by omega, ?_⟩
    rw [hs, show (i + 1).toNat = i.toNat + 1 by omega, sm_s, show ((i.toNat : Nat) : Int) = i by omega]
  · refine EvP.ret ?_
    have : i.toNat = p.length := by omega
    rw [hs, this]
    rfl

theorem clone_is (w h : Int) (p : List Int) (hl : p.length < 140737488355328) : bitmap_clone.f w h p = some (w, h, p) := by
  unfold bitmap_clone.f bytes_Clone.f
  simp only [Option.bind_some, List.length_nil, Nat.zero_add, List.nil_append]
  rw [if_pos hl]
  rfl

theorem q4 (q : Int) (h0 : -9223372036854775808 ≤ q) (h1 : q ≤ 9223372036854775807) : Int.tmod (wrap64 (Int.tmod q 4 + 4)) 4 = q % 4 := by
  rcases Int.lt_or_le q 0 with h | h
  · have e : Int.tmod q 4 = -((-q) % 4) := by
      rw [show q = -(-q) by omega, Int.neg_tmod, tmod_pos (by omega)]
      omega
    rw [e, w64 (by omega) (by omega), tmod_pos (by omega)]
    omega
  · rw [tmod_pos h, w64 (by omega) (by omega), tmod_pos (by omega)]
    omega
/-- One quarter. -/
def t1 (b : Int × Int × List Int) : Int × Int × List Int := (b.2.1, b.1, tab b.2.1 b.1 (fun x y => pix b.1 b.2.1 b.2.2 y (b.2.1 - 1 - x)))
def turnR : Nat → Int × Int × List Int → Int × Int × List Int
  | 0, b => b
  | n + 1, b => turnR n (t1 b)
theorem sid_swap {w h : Int} (s : Sid w h) : Sid h w := ⟨s.2.1, s.1, s.2.2.2.1, s.2.2.1, by rw [Int.mul_comm]; exact s.2.2.2.2⟩
theorem val_t1 {w h : Int} {p : List Int} (v : Val w h p) : Val (t1 (w, h, p)).1 (t1 (w, h, p)).2.1 (t1 (w, h, p)).2.2 :=
  val_tab (g := fun x y => pix w h p y (h - 1 - x)) (sid_swap v.sid) (fun _ _ _ _ _ _ => v.pix01 _ _)
theorem Turn_l1 {P : Int × Int × List Int × Int → Prop} {w h : Int} {p : List Int} (v : Val w h p) (n i : Int)
    (hk : EvP (fun k => bitmap_Turn.l0 k n (wrap64 (i + 1)) h w (tab h w (fun x y => pix w h p y (h - 1 - x)))) P) :
    EvP (fun k => bitmap_Turn.l1 k n i ((List.replicate p.length (0 : Int)).length : Int) 0 w h p h w (List.replicate p.length 0)) P := by
  have hl : ((List.replicate p.length (0 : Int)).length : Int) = h * w := by rw [List.length_replicate, v.2.2.2.2.2.1, Int.mul_comm]
  have hm := v.2.2.2.2.1
  have hm2 : h * w = w * h := Int.mul_comm h w
  refine EvP.fillT (L := fun k j s => bitmap_Turn.l1 k n i ((List.replicate p.length (0 : Int)).length : Int) j w h p h w s) v.2.1 v.1 (List.replicate p.length 0) hl (fun x y => pix w h p y (h - 1 - x)) ?_ ?_
  · intro j s h0 h1 hs hw a b c d e f _ _ hk
    obtain ⟨_, _, h200, h200', _⟩ := v.sid
    refine EvP.step (fun k => by rw [bitmap_Turn.l1]) ?_
    refine EvP.pos h1 (EvP.neg (by omega) ?_)
    rw [e, f, w64 (x := j / h) (by omega) (by omega), w64 (x := h - 1) (by omega) (by omega), w64 (by omega) (by omega)]
    refine EvP.bindv (at_is v _ _) ?_
    refine EvP.pos h0 (EvP.pos (by omega) ?_)
    rw [w64 (by omega) (by omega)]
    exact hk
  · refine EvP.step (fun k => by rw [bitmap_Turn.l1]) ?_
    exact EvP.neg (by omega) hk
theorem Turn_l0 (n : Int) (hn : n ≤ 4) : ∀ (d : Nat) (i w h : Int) (p : List Int), Val w h p → 0 ≤ i → i ≤ n → (n - i).toNat = d →
    EvP (fun k => bitmap_Turn.l0 k n i w h p) (· = ((turnR d (w, h, p)).1, (turnR d (w, h, p)).2.1, (turnR d (w, h, p)).2.2, 0)) := by
  intro d
  induction d with
  | zero =>
    intro i w h p v h0 h1 hd
    refine EvP.step (fun k => by rw [bitmap_Turn.l0]) ?_
    exact EvP.neg (by omega) (EvP.ret rfl)
  | succ d ih =>
    intro i w h p v h0 h1 hd
    have hlen : (p.length : Int) ≤ 8192 := by rw [v.2.2.2.2.2.1]; exact v.2.2.2.2.1
    refine EvP.step (fun k => by rw [bitmap_Turn.l0]) ?_
    refine EvP.pos (by omega) (EvP.pos (by omega) (EvP.pos (by omega) ?_))
    refine EvP.bindv rfl ?_
    rw [Int.toNat_natCast]
    refine Turn_l1 v n i ?_
    rw [w64 (by omega) (by omega)]
    exact ih (i + 1) h w _ (val_t1 v) (by omega) (by omega) (by omega)
/-- What Turn returns. -/
def turnQ (w h : Int) (p : List Int) (q : Int) : Int × Int × List Int := turnR (q % 4).toNat (w, h, p)
theorem Turn_is {w h : Int} {p : List Int} (v : Val w h p) (q : Int) (h0 : -9223372036854775808 ≤ q) (h1 : q ≤ 9223372036854775807) :
    EvP (fun k => bitmap_Turn.f k w h p q) (· = ((turnQ w h p q).1, (turnQ w h p q).2.1, (turnQ w h p q).2.2, 0)) := by
  have hlen : (p.length : Int) ≤ 8192 := by rw [v.2.2.2.2.2.1]; exact v.2.2.2.2.1
  unfold bitmap_Turn.f
  refine EvP.bind (Valid_is w h p (fun x hx => (v.2.2.2.2.2.2 x hx).1) (by omega)) ?_
  rintro _ rfl
  refine EvP.pos (decide_eq_true v) ?_
  refine EvP.bindv (clone_is w h p (by omega)) ?_
  rw [q4 q h0 h1]
  exact Turn_l0 (q % 4) (by omega) _ 0 w h p v (by omega) (by omega) (by omega)
theorem Turn_bad {w h : Int} {p : List Int} (v : ¬ Val w h p) (hp : ∀ x ∈ p, 0 ≤ x) (hl : (p.length : Int) ≤ 9223372036854775807) (q : Int) : EvP (fun k => bitmap_Turn.f k w h p q) (· = (0, 0, [], 30)) := by
  unfold bitmap_Turn.f
  refine EvP.bind (Valid_is w h p hp hl) ?_
  rintro _ rfl
  exact EvP.neg (by simpa using v) (EvP.ret rfl)

theorem Sane_is : EvP (fun k => incunablelaw05_Sane.f k) (· = true) := by
  unfold incunablelaw05_Sane.f
  refine EvP.bind (Turn_is (w := 2) (h := 1) (p := [1, 0]) (by unfold Val; decide) 1 (by omega) (by omega)) ?_
  rintro _ rfl
  refine EvP.pos rfl ?_
  refine EvP.bindv (refSame_is _ _ _ _ _ _ ?_ ?_) (EvP.ret ?_)
  · unfold Byt
    decide
  · unfold Byt
    decide
  · decide

theorem Huge_is (w h : Int) (p : List Int) : incunablelaw05_Huge.f w h p = some (decide ((p.length : Int) > 20000)) := rfl

theorem count_blk : ∀ l : List Int, (∀ x ∈ l, 0 ≤ x ∧ x ≤ 1) → ((Lib.countByte (Lib.bytesOf l) (1 : Int).toNat.toUInt8 : Nat) : Int) = sm l.length (fun i => rd l i)
  | [], _ => rfl
  | x :: xs, h => by
    have ih := count_blk xs (fun y hy => h y (List.mem_cons_of_mem _ hy))
    have hx := h x (List.mem_cons_self ..)
    have e1 : sm (x :: xs).length (fun i => rd (x :: xs) i) = x + sm xs.length (fun i => rd xs i) := by
      show sm (xs.length + 1) _ = _
      rw [sm_front]
      have e2 : rd (x :: xs) 0 = x := rfl
      rw [e2]
      congr 1
      refine sm_congr (fun i a b => ?_)
      have : (i + 1).toNat = i.toNat + 1 := by omega
      unfold rd
      rw [this]
      rfl
    rw [e1, ← ih]
    have e3 : Lib.countByte (Lib.bytesOf (x :: xs)) (1 : Int).toNat.toUInt8 = Lib.countByte (Lib.bytesOf xs) (1 : Int).toNat.toUInt8 + if (UInt8.ofNat x.toNat == (1 : Int).toNat.toUInt8) = true then 1 else 0 := List.count_cons
    rw [e3]
    rcases (show x = 0 ∨ x = 1 by omega) with rfl | rfl
    · rw [if_neg (by decide)]
      omega
    · rw [if_pos (by decide)]
      omega
def cntR (w h : Int) (p : List Int) : Int × Int := if Val w h p then (blk p, 0) else (0, 30)
theorem Count_is (w h : Int) (p : List Int) (hp : ∀ x ∈ p, 0 ≤ x) (hl : (p.length : Int) ≤ 9223372036854775807) : EvP (fun k => bitmap_Count.f k w h p) (· = cntR w h p) := by
  unfold bitmap_Count.f cntR
  refine EvP.bind (Valid_is w h p hp hl) ?_
  rintro _ rfl
  refine EvP.ite (fun q => ?_) (fun q => EvP.ret (by rw [if_neg (by simpa using q)]))
  have v : Val w h p := by simpa using q
  rw [if_pos v]
  have e : bytes_Count.f p [1] = some (blk p) := by
    unfold bytes_Count.f
    rw [if_pos (show ([1] : List Int).length = 1 from rfl)]
    exact congrArg some (count_blk p v.2.2.2.2.2.2)
  exact EvP.bindv e (EvP.ret rfl)
theorem refCount_is (w h : Int) (p : List Int) (hb : Byt p) (hl : (p.length : Int) ≤ 9223372036854775807) : EvP (fun k => incunableref05_Count.f k w h p) (· = cntR w h p) := by
  unfold incunableref05_Count.f cntR
  refine EvP.bind (refValid_is w h p (fun z hz => (hb z hz).1) hl) ?_
  rintro _ rfl
  refine EvP.ite (fun q => ?_) (fun q => EvP.ret (by rw [if_neg (by simpa using q)]))
  have v : Val w h p := by simpa using q
  rw [if_pos v]
  have hlen : (p.length : Int) ≤ 8192 := by rw [v.2.2.2.2.2.1]; exact v.2.2.2.2.1
  refine EvP.bind (Blacks_is w h p hb (by omega)) ?_
  rintro _ rfl
  exact EvP.ret rfl
theorem Get_is (w h : Int) (p : List Int) (x y : Int) (hp : ∀ x ∈ p, 0 ≤ x) (hl : (p.length : Int) ≤ 9223372036854775807) : EvP (fun k => bitmap_Get.f k w h p x y) (· = if Val w h p then pix w h p x y else 0) := by
  unfold bitmap_Get.f
  refine EvP.bind (Valid_is w h p hp hl) ?_
  rintro _ rfl
  refine EvP.ite (fun q => ?_) (fun q => EvP.ret (by rw [if_neg (by simpa using q)]))
  have v : Val w h p := by simpa using q
  have := v.pix01 x y
  rw [if_pos v]
  exact EvP.bindv (at_is v x y) (EvP.ret (w64 (by omega) (by omega)))
theorem refGet_is (w h : Int) (p : List Int) (x y : Int) (hp : ∀ x ∈ p, 0 ≤ x) (hl : (p.length : Int) ≤ 9223372036854775807) : EvP (fun k => incunableref05_Get.f k w h p x y) (· = if Val w h p then pix w h p x y else 0) := by
  unfold incunableref05_Get.f
  refine EvP.bind (refValid_is w h p hp hl) ?_
  rintro _ rfl
  refine EvP.ite (fun q => ?_) (fun q => EvP.ret (by rw [if_neg (by simpa using q)]))
  have v : Val w h p := by simpa using q
  rw [if_pos v]
  exact EvP.bindv (At_is v x y) (EvP.ret rfl)
theorem BitmapValid : incunablelaw05_BitmapValid.Pure := by
  intro w h p x y _ _ hp _ _
  have hb := wf_byt hp.2.2
  have hb0 : ∀ z ∈ p, 0 ≤ z := fun z hz => (hb z hz).1
  refine EvP.rounds ?_
  unfold incunablelaw05_BitmapValid.f
  refine EvP.bindv (Huge_is w h p) ?_
  refine EvP.ite (fun a => ?_) (fun a => ?_)
  · refine EvP.bind Sane_is ?_
    rintro _ rfl
    exact EvP.ret rfl
  have a : ¬ (p.length : Int) > 20000 := by simpa using a
  refine EvP.bind (Count_is w h p hb0 (by omega)) ?_
  rintro _ rfl
  refine EvP.bind (refCount_is w h p hb (by omega)) ?_
  rintro _ rfl
  refine EvP.bind (Valid_is w h p hb0 (by omega)) ?_
  rintro _ rfl
  refine EvP.bind (refValid_is w h p hb0 (by omega)) ?_
  rintro _ rfl
  refine EvP.pos (by simp) ?_
  refine EvP.bind (Get_is w h p x y hb0 (by omega)) ?_
  rintro _ rfl
  refine EvP.bind (refGet_is w h p x y hb0 (by omega)) ?_
  rintro _ rfl
  refine EvP.pos rfl (EvP.pos rfl (EvP.pos rfl ?_))
  refine EvP.bind Sane_is ?_
  rintro _ rfl
  exact EvP.ret rfl

end Go.Proofs.Ytgcjhpcegmblgaa.Pure
