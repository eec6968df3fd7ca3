/- What Differ and Same tell is what the reference tells, Differ is the same the other way round, and it is the Count of what is drawn by exclusive or; for every input, no conditions. -/
import Derived.Test.YtgcjhpcegmblgaaPBitmapDiffersx7
import Derived.Test.YtgcjhpcegmblgaaQBase
namespace Go.Proofs.Ytgcjhpcegmblgaa.Pure
open Go.RowKit Go.Proofs.Ytgcjhpcegmblgaa.PBitmapDiffers Go.Proofs.YtgcjhpcegmblgaaW.PrintWords Go.Proofs.YtgcjhpcegmblgaaW.PrintLast Go.Proofs.YtgcjhpcegmblgaaW.PrintMore Go.Proofs.YtgcjhpcegmblgaaW.Pu
set_option linter.unusedVariables false
set_option linter.unusedSimpArgs false
/-- The numbers of a list are those of bytes. -/
def Byt (p : List Int) : Prop := ∀ x ∈ p, 0 ≤ x ∧ x ≤ 255
theorem refSame_is (w h : Int) (p : List Int) (w' h' : Int) (p' : List Int) (hp : Byt p) (hp' : Byt p') : incunableref05_Same.f w h p w' h' p' = some (decide (w = w' ∧ h = h' ∧ p = p')) := by
  unfold incunableref05_Same.f
  rw [strOfNums_eq hp hp']
  by_cases a : w = w'
  · by_cases b : h = h'
    · simp [a, b]
    · simp [a, b]
  · simp [a]
theorem val_byt {w h : Int} {p : List Int} (v : Val w h p) : Byt p := fun x hx => ⟨(v.2.2.2.2.2.2 x hx).1, by have := (v.2.2.2.2.2.2 x hx).2; omega⟩

theorem wf_byt {p : List Int} (h : ∀ y ∈ p, (Lit.int .u8 y).wf = true) : Byt p := fun x hx => by
  have h1 : (decide (IntKind.u8.min ≤ x) && decide (x ≤ IntKind.u8.max)) = true := h x hx
  obtain ⟨a, b⟩ := Bool.and_eq_true_iff.mp h1
  exact ⟨of_decide_eq_true a, of_decide_eq_true b⟩
theorem wf_i64 {x : Int} (h : (Lit.int .i64 x).wf = true) : -9223372036854775808 ≤ x ∧ x ≤ 9223372036854775807 := by
  have h1 : (decide (IntKind.i64.min ≤ x) && decide (x ≤ IntKind.i64.max)) = true := h
  obtain ⟨a, b⟩ := Bool.and_eq_true_iff.mp h1
  exact ⟨of_decide_eq_true a, of_decide_eq_true b⟩

/-- The sum of the first numbers. -/
def sm : Nat → (Int → Int) → Int
  | 0, _ => 0
  | n + 1, f => sm n f + f (n : Int)
theorem sm_s (n : Nat) (f : Int → Int) : sm (n + 1) f = sm n f + f (n : Int) := rfl
theorem sm_0 (f : Int → Int) : sm 0 f = 0 := rfl
theorem sm_congr {f g : Int → Int} : ∀ {n : Nat}, (∀ i : Int, 0 ≤ i → i < n → f i = g i) → sm n f = sm n g
  | 0, _ => rfl
  | n + 1, h => by
    unfold sm
    rw [sm_congr (fun i h0 h1 => h i h0 (by omega)), h n (by omega) (by omega)]
theorem sm_bound {f : Int → Int} {c : Int} (hc : 0 ≤ c) : ∀ {n : Nat}, (∀ i : Int, 0 ≤ i → i < n → 0 ≤ f i ∧ f i ≤ c) → 0 ≤ sm n f ∧ sm n f ≤ n * c
  | 0, _ => by simp [sm]
  | n + 1, h => by
    have h1 := sm_bound hc (fun i h0 h1 => h i h0 (by omega)) (n := n)
    have h2 := h n (by omega) (by omega)
    unfold sm
    have e : ((n + 1 : Nat) : Int) * c = n * c + c := by rw [Int.natCast_add, Int.add_mul]; simp
    omega
theorem sm_zero {f : Int → Int} (h0 : ∀ i : Int, 0 ≤ i → 0 ≤ f i) : ∀ {n : Nat}, sm n f = 0 → ∀ i : Int, 0 ≤ i → i < n → f i = 0
  | 0, _, i, a, b => by omega
  | n + 1, h, i, a, b => by
    unfold sm at h
    have h1 : 0 ≤ sm n f := by
      have : ∀ m : Nat, 0 ≤ sm m f := by
        intro m
        induction m with
        | zero => simp [sm]
        | succ m ih => unfold sm; have := h0 m (by omega); omega
      exact this n
    have h2 := h0 n (by omega)
    rcases Int.lt_or_le i n with c | c
    · exact sm_zero h0 (show sm n f = 0 by omega) i a c
    · have : i = n := by omega
      subst this
      omega
theorem sm_const (c : Int) : ∀ n : Nat, sm n (fun _ => c) = n * c
  | 0 => by simp [sm]
  | n + 1 => by
    unfold sm
    rw [sm_const c n, Int.natCast_add, Int.add_mul]
    simp
theorem sm_add (f : Int → Int) (a : Nat) : ∀ b : Nat, sm (a + b) f = sm a f + sm b (fun i => f (a + i))
  | 0 => by simp [sm]
  | b + 1 => by
    rw [show a + (b + 1) = (a + b) + 1 from rfl, sm_s, sm_s, sm_add f a b]
    have e : ((a + b : Nat) : Int) = (a : Int) + (b : Int) := by omega
    rw [e]
    show sm a f + sm b (fun i => f (a + i)) + f (a + b) = sm a f + (sm b (fun i => f (a + i)) + f (a + b))
    omega
theorem sm_plus (f g : Int → Int) : ∀ n : Nat, sm n (fun i => f i + g i) = sm n f + sm n g
  | 0 => by simp [sm]
  | n + 1 => by
    rw [sm_s, sm_s, sm_s, sm_plus f g n]
    show sm n f + sm n g + (f n + g n) = sm n f + f n + (sm n g + g n)
    omega
theorem sm_swap (g : Int → Int → Int) (W : Nat) : ∀ H : Nat, sm H (fun y => sm W (fun x => g x y)) = sm W (fun x => sm H (fun y => g x y))
  | 0 => by
    have : sm W (fun x => sm 0 (fun y => g x y)) = sm W (fun _ => 0) := sm_congr (fun i _ _ => rfl)
    rw [this, sm_const 0 W, sm_0]
    simp
  | H + 1 => by
    rw [sm_s, sm_swap g W H]
    have : sm W (fun x => sm (H + 1) (fun y => g x y)) = sm W (fun x => sm H (fun y => g x y) + g x H) := sm_congr (fun i _ _ => rfl)
    rw [this, sm_plus]
theorem sm_front (f : Int → Int) : ∀ n : Nat, sm (n + 1) f = f 0 + sm n (fun i => f (i + 1))
  | 0 => by simp [sm]
  | n + 1 => by
    rw [show sm (n + 1 + 1) f = sm (n + 1) f + f ((n + 1 : Nat) : Int) from rfl, sm_front f n]
    rw [show sm (n + 1) (fun i => f (i + 1)) = sm n (fun i => f (i + 1)) + f ((n : Int) + 1) from rfl]
    have e : ((n + 1 : Nat) : Int) = (n : Int) + 1 := by omega
    rw [e]
    omega
theorem sm_mirror (f : Int → Int) : ∀ n : Nat, sm n (fun i => f ((n : Int) - 1 - i)) = sm n f
  | 0 => rfl
  | n + 1 => by
    rw [sm_front]
    have e : (((n + 1 : Nat) : Int) - 1 - 0) = (n : Int) := by omega
    rw [e]
    have e2 : sm n (fun i => f (((n + 1 : Nat) : Int) - 1 - (i + 1))) = sm n (fun i => f ((n : Int) - 1 - i)) := sm_congr (fun i _ _ => by
      have : ((n + 1 : Nat) : Int) - 1 - (i + 1) = (n : Int) - 1 - i := by omega
      rw [this])
    rw [e2, sm_mirror f n, sm_s]
    omega
/-- All pixels' sum. -/
def tot (w h : Int) (g : Int → Int → Int) : Int := sm h.toNat (fun y => sm w.toNat (fun x => g x y))
theorem sm_flat (g : Int → Int → Int) (W : Nat) : ∀ H : Nat, sm (W * H) (fun i => g (i % (W : Int)) (i / (W : Int))) = sm H (fun y => sm W (fun x => g x y))
  | 0 => rfl
  | H + 1 => by
    rw [Nat.mul_succ, sm_add, sm_flat g W H]
    rw [show sm (H + 1) (fun y => sm W (fun x => g x y)) = sm H (fun y => sm W (fun x => g x y)) + sm W (fun x => g x (H : Int)) from rfl]
    congr 1
    refine sm_congr (fun i h0 h1 => ?_)
    have e : ((W * H : Nat) : Int) + i = (H : Int) * (W : Int) + i := by rw [Int.natCast_mul, Int.mul_comm]
    rw [e, flat_mod h0 h1, flat_div h0 h1]
theorem sm_tab {w h : Int} (hw : 0 ≤ w) (hh : 0 ≤ h) (g : Int → Int → Int) : sm (tab w h g).length (fun i => rd (tab w h g) i) = tot w h g := by
  have h0 : 0 ≤ w * h := Int.mul_nonneg hw hh
  rw [tab_length]
  have e : (w * h).toNat = w.toNat * h.toNat := by
    have e1 : ((w.toNat * h.toNat : Nat) : Int) = w * h := by rw [Int.natCast_mul, Int.toNat_of_nonneg hw, Int.toNat_of_nonneg hh]
    omega
  have ew : ((w.toNat : Nat) : Int) = w := Int.toNat_of_nonneg hw
  unfold tot
  rw [← sm_flat g w.toNat h.toNat, e, ew]
  refine sm_congr (fun i a b => ?_)
  rw [rd_tab w h g i a (by omega)]
theorem tot_congr {w h : Int} {g g' : Int → Int → Int} (hg : ∀ x y, 0 ≤ x → x < w → 0 ≤ y → y < h → g x y = g' x y) : tot w h g = tot w h g' :=
  sm_congr (fun y a b => sm_congr (fun x c d => hg x y c (by omega) a (by omega)))
theorem tot_turn {w h : Int} (hw : 0 ≤ w) (hh : 0 ≤ h) (g : Int → Int → Int) : tot h w (fun x y => g y (h - 1 - x)) = tot w h g := by
  unfold tot
  have eh : ((h.toNat : Nat) : Int) = h := Int.toNat_of_nonneg hh
  rw [sm_swap (fun x y => g x y) w.toNat h.toNat]
  refine sm_congr (fun y a b => ?_)
  have := sm_mirror (fun i => g y i) h.toNat
  rw [eh] at this
  exact this
theorem tot_flip {w h : Int} (hw : 0 ≤ w) (hh : 0 ≤ h) (g : Int → Int → Int) : tot w h (fun x y => g (w - 1 - x) y) = tot w h g := by
  unfold tot
  have ew : ((w.toNat : Nat) : Int) = w := Int.toNat_of_nonneg hw
  refine sm_congr (fun y a b => ?_)
  have := sm_mirror (fun i => g i y) w.toNat
  rw [ew] at this
  exact this
/-- How many pixels are black. -/
def blk (p : List Int) : Int := sm p.length (fun i => rd p i)
theorem blk_val {w h : Int} {p : List Int} (v : Val w h p) : blk p = tot w h (pix w h p) := by
  unfold blk
  have e := sm_tab v.1 v.2.1 (pix w h p)
  rw [← v.tab] at e
  exact e

instance (w h : Int) (p : List Int) : Decidable (Val w h p) := by unfold Val; exact inferInstance
theorem sid_mul {w h : Int} (hw : 0 ≤ w) (hh : 0 ≤ h) (hw' : w ≤ 200) (hh' : h ≤ 200) : 0 ≤ w * h ∧ w * h ≤ 40000 := by
  have h1 : 0 ≤ w * h := Int.mul_nonneg hw hh
  have h2 : w * h ≤ 200 * h := Int.mul_le_mul_of_nonneg_right hw' hh
  omega

/-- How many numbers are unlike. -/
def cn (p q : List Int) : Int := sm p.length (fun i => if rd p i = rd q i then 0 else 1)
def differR (w h : Int) (p : List Int) (w' h' : Int) (q : List Int) : Int × Int := if Val w h p ∧ Val w' h' q then (if w = w' ∧ h = h' then (cn p q, 0) else (0, 2)) else (0, 30)
theorem differR_swap {w h : Int} {p : List Int} {w' h' : Int} {q : List Int} : differR w h p w' h' q = differR w' h' q w h p := by
  unfold differR
  by_cases a : Val w h p ∧ Val w' h' q
  · rw [if_pos a, if_pos (show Val w' h' q ∧ Val w h p from ⟨a.2, a.1⟩)]
    by_cases b : w = w' ∧ h = h'
    · rw [if_pos b, if_pos (show w' = w ∧ h' = h from ⟨b.1.symm, b.2.symm⟩)]
      have e : p.length = q.length := by
        have h1 := a.1.2.2.2.2.2.1
        have h2 := a.2.2.2.2.2.2.1
        rw [← b.1, ← b.2] at h2
        omega
      unfold cn
      rw [e]
      refine congrArg (fun z => (z, (0 : Int))) (sm_congr (fun i _ _ => ?_))
      by_cases c : rd p i = rd q i
      · rw [if_pos c, if_pos c.symm]
      · rw [if_neg c, if_neg (fun x => c x.symm)]
    · rw [if_neg b, if_neg (show ¬ (w' = w ∧ h' = h) from fun x => b ⟨x.1.symm, x.2.symm⟩)]
  · rw [if_neg a, if_neg (show ¬ (Val w' h' q ∧ Val w h p) from fun x => a ⟨x.2, x.1⟩)]
theorem cn_zero {p q : List Int} (e : p.length = q.length) : cn p q = 0 ↔ p = q := by
  constructor
  · intro h
    have h2 := sm_zero (f := fun i => if rd p i = rd q i then 0 else 1) (fun i _ => by show 0 ≤ (if rd p i = rd q i then (0 : Int) else 1); split <;> omega) h
    refine rd_ext e (fun i h0 h1 => ?_)
    have h3 : (if rd p i = rd q i then (0 : Int) else 1) = 0 := h2 i h0 h1
    by_cases c : rd p i = rd q i
    · exact c
    · rw [if_neg c] at h3
      omega
  · rintro rfl
    unfold cn
    have : sm p.length (fun i => if rd p i = rd p i then (0 : Int) else 1) = sm p.length (fun _ => 0) := sm_congr (fun i _ _ => if_pos rfl)
    rw [this, sm_const]
    simp

theorem fits_is (w h : Int) : bitmap_fits.f w h = some (decide (Sid w h)) := by
  unfold bitmap_fits.f
  by_cases h1 : 0 ≤ w ∧ 0 ≤ h ∧ w ≤ 200 ∧ h ≤ 200
  · obtain ⟨a, b, c, d⟩ := h1
    have := sid_mul a b c d
    rw [if_pos (by omega), if_pos (by omega), if_pos c, if_pos d, w64 (by omega) (by omega)]
    simp [Sid, a, b, c, d]
  · have h2 : ¬ Sid w h := fun s => h1 ⟨s.1, s.2.1, s.2.2.1, s.2.2.2.1⟩
    simp only [h2, decide_false]
    split
    · split
      · split
        · split
          · omega
          · rfl
        · rfl
      · rfl
    · rfl

theorem Valid_l0 (p : List Int) (hl : (p.length : Int) ≤ 9223372036854775807) : EvP (fun k => bitmap_Valid.l0 k p (p.length : Int) 0) (· = decide (∀ x ∈ p, x ≤ 1)) := by
  refine EvP.up (L := fun k i (_ : Unit) => bitmap_Valid.l0 k p (p.length : Int) i) (fun i _ => 0 ≤ i ∧ ∀ j, 0 ≤ j → j < i → rd p j ≤ 1) p.length ?_ 0 () (by omega) ⟨by omega, fun j _ _ => by omega⟩
  intro i _ ⟨h0, hb⟩ hi ih
  refine EvP.step (fun k => by rw [bitmap_Valid.l0]) ?_
  refine EvP.ite (fun h1 => ?_) (fun h1 => ?_)
  · refine EvP.pos h0 (EvP.pos h1 (EvP.ite (fun h2 => EvP.ret ?_) (fun h2 => ?_)))
    · symm
      rw [decide_eq_false_iff_not]
      intro hall
      have := hall _ (rd_mem h0 h1)
      omega
    · rw [w64 (by omega) (by omega)]
      refine ih () h1 ⟨by omega, fun j hj hj' => ?_⟩
      rcases Int.lt_or_le j i with hji | hji
      · exact hb j hj hji
      · have : j = i := by omega
        subst this
        omega
  · refine EvP.ret ?_
    symm
    rw [decide_eq_true_iff]
    intro x hx
    obtain ⟨n, hn, rfl⟩ := List.getElem_of_mem hx
    have := hb (n : Int) (by omega) (by omega)
    rwa [rd_get p n hn] at this
theorem Valid_is (w h : Int) (p : List Int) (hp : ∀ x ∈ p, 0 ≤ x) (hl : (p.length : Int) ≤ 9223372036854775807) : EvP (fun k => bitmap_Valid.f k w h p) (· = decide (Val w h p)) := by
  unfold bitmap_Valid.f
  refine EvP.bindv (fits_is w h) ?_
  refine EvP.ite (fun h1 => ?_) (fun h1 => ?_)
  · rw [decide_eq_true_iff] at h1
    have hm := sid_mul h1.1 h1.2.1 h1.2.2.1 h1.2.2.2.1
    rw [w64 (by omega) (by omega)]
    refine EvP.step (fun k => by rw [bitmap_Valid.j0]) ?_
    refine EvP.ite (fun h2 => EvP.ret ?_) (fun h2 => ?_)
    · symm
      rw [decide_eq_false_iff_not]
      intro v
      simp [v.2.2.2.2.2.1] at h2
    · refine (Valid_l0 p hl).mono ?_
      rintro r rfl
      have e : (p.length : Int) = w * h := by simpa using h2
      apply decide_eq_decide.mpr
      constructor
      · intro hall
        exact ⟨h1.1, h1.2.1, h1.2.2.1, h1.2.2.2.1, h1.2.2.2.2, e, fun x hx => ⟨hp x hx, hall x hx⟩⟩
      · intro v x hx
        exact (v.2.2.2.2.2.2 x hx).2
  · refine EvP.step (fun k => by rw [bitmap_Valid.j0]) ?_
    refine EvP.pos rfl (EvP.ret ?_)
    symm
    rw [decide_eq_false_iff_not]
    intro v
    exact h1 (decide_eq_true v.sid)

theorem Differ_l0 (w h : Int) (p : List Int) (w' h' : Int) (q : List Int) (e : p.length = q.length) (hl : (p.length : Int) ≤ 1000000000) : EvP (fun k => bitmap_Differ.l0 k 0 (p.length : Int) 0 w h p w' h' q) (· = (cn p q, 0)) := by
  refine EvP.up (L := fun k i (s : Int) => bitmap_Differ.l0 k s (p.length : Int) i w h p w' h' q) (fun i s => 0 ≤ i ∧ s = sm i.toNat (fun j => if rd p j = rd q j then 0 else 1)) p.length ?_ 0 0 (by omega) ⟨by omega, rfl⟩
  intro i s ⟨h0, hs⟩ hi ih
  have hsm := sm_bound (n := i.toNat) (f := fun j => if rd p j = rd q j then (0 : Int) else 1) (c := 1) (by omega) (fun j a b => by show 0 ≤ (if rd p j = rd q j then (0 : Int) else 1) ∧ (if rd p j = rd q j then (0 : Int) else 1) ≤ 1; split <;> omega)
  refine EvP.step (fun k => by rw [bitmap_Differ.l0]) ?_
  refine EvP.ite (fun h1 => ?_) (fun h1 => ?_)
  · refine EvP.pos h0 (EvP.pos h1 (EvP.pos (by omega) ?_))
    have es : sm (i + 1).toNat (fun j => if rd p j = rd q j then (0 : Int) else 1) = sm i.toNat (fun j => if rd p j = rd q j then (0 : Int) else 1) + (if rd p i = rd q i then 0 else 1) := by
      rw [show (i + 1).toNat = i.toNat + 1 by omega]
      show sm i.toNat _ + (if rd p (i.toNat : Int) = rd q (i.toNat : Int) then (0 : Int) else 1) = _
      rw [show ((i.toNat : Nat) : Int) = i by omega]
    refine EvP.ite (fun h2 => ?_) (fun h2 => ?_)
    · rw [w64 (x := i + 1) (by omega) (by omega)]
      refine ih _ h1 ⟨by omega, ?_⟩
      rw [es, if_pos h2, hs]
      omega
    · rw [w64 (x := i + 1) (by omega) (by omega), w64 (x := s + 1) (by omega) (by omega)]
      refine ih _ h1 ⟨by omega, ?_⟩
      rw [es, if_neg h2, hs]
  · refine EvP.ret ?_
    have : i.toNat = p.length := by omega
    rw [hs, this]
    rfl
theorem Differ_is (w h : Int) (p : List Int) (w' h' : Int) (q : List Int) (hp : ∀ x ∈ p, 0 ≤ x) (hl : (p.length : Int) ≤ 9223372036854775807) (hp' : ∀ x ∈ q, 0 ≤ x) (hl' : (q.length : Int) ≤ 9223372036854775807) :
    EvP (fun k => bitmap_Differ.f k w h p w' h' q) (· = differR w h p w' h' q) := by
  unfold bitmap_Differ.f differR
  refine EvP.bind (Valid_is w h p hp hl) ?_
  rintro _ rfl
  refine EvP.ite (fun h1 => ?_) (fun h1 => ?_)
  · refine EvP.bind (Valid_is w' h' q hp' hl') ?_
    rintro _ rfl
    have v : Val w h p := by simpa using h1
    refine EvP.step (fun k => by rw [bitmap_Differ.j0]) ?_
    refine EvP.ite (fun h2 => EvP.ret ?_) (fun h2 => ?_)
    · rw [if_neg (fun x : Val w h p ∧ Val w' h' q => by simp [x.2] at h2)]
    · have v' : Val w' h' q := by simpa using h2
      rw [if_pos (show Val w h p ∧ Val w' h' q from ⟨v, v'⟩)]
      refine EvP.ite (fun a => ?_) (fun a => EvP.ret (by rw [if_neg (fun x : w = w' ∧ h = h' => a x.1)]))
      refine EvP.ite (fun b => ?_) (fun b => EvP.ret (by rw [if_neg (fun x : w = w' ∧ h = h' => b x.2)]))
      rw [if_pos (show w = w' ∧ h = h' from ⟨a, b⟩)]
      have e1 := v.2.2.2.2.2.1
      have e2 := v'.2.2.2.2.2.1
      rw [← a, ← b] at e2
      have e3 := v.2.2.2.2.1
      exact Differ_l0 w h p w' h' q (by omega) (by omega)
  · have v : ¬ Val w h p := by simpa using h1
    refine EvP.step (fun k => by rw [bitmap_Differ.j0]) ?_
    refine EvP.pos rfl (EvP.ret ?_)
    rw [if_neg (fun x : Val w h p ∧ Val w' h' q => v x.1)]

theorem Sides_is (w h : Int) : incunableref05_Sides.f w h = some (decide (Sid w h)) := by
  unfold incunableref05_Sides.f
  by_cases h1 : 0 ≤ w ∧ 0 ≤ h ∧ w ≤ 200 ∧ h ≤ 200
  · obtain ⟨a, b, c, d⟩ := h1
    have := sid_mul a b c d
    rw [if_pos (by omega), if_pos (by omega), if_pos c, if_pos d, w64 (by omega) (by omega)]
    simp [Sid, a, b, c, d]
  · have h2 : ¬ Sid w h := fun s => h1 ⟨s.1, s.2.1, s.2.2.1, s.2.2.2.1⟩
    simp only [h2, decide_false]
    split
    · split
      · split
        · split
          · omega
          · rfl
        · rfl
      · rfl
    · rfl

theorem refValid_l0 (w h : Int) (p : List Int) (hl : (p.length : Int) ≤ 9223372036854775807) : EvP (fun k => incunableref05_Valid.l0 k 0 w h p) (· = decide (∀ x ∈ p, x ≤ 1)) := by
  refine EvP.up (L := fun k i (_ : Unit) => incunableref05_Valid.l0 k i w h p) (fun i _ => 0 ≤ i ∧ ∀ j, 0 ≤ j → j < i → rd p j ≤ 1) p.length ?_ 0 () (by omega) ⟨by omega, fun j _ _ => by omega⟩
  intro i _ ⟨h0, hb⟩ hi ih
  refine EvP.step (fun k => by rw [incunableref05_Valid.l0]) ?_
  refine EvP.ite (fun h1 => ?_) (fun h1 => ?_)
  · refine EvP.pos h0 (EvP.ite (fun h2 => EvP.ret ?_) (fun h2 => ?_))
    · symm
      rw [decide_eq_false_iff_not]
      intro hall
      have := hall _ (rd_mem h0 h1)
      omega
    · rw [w64 (by omega) (by omega)]
      refine ih () h1 ⟨by omega, fun j hj hj' => ?_⟩
      rcases Int.lt_or_le j i with hji | hji
      · exact hb j hj hji
      · have : j = i := by omega
        subst this
        omega
  · refine EvP.ret ?_
    symm
    rw [decide_eq_true_iff]
    intro x hx
    obtain ⟨n, hn, rfl⟩ := List.getElem_of_mem hx
    have := hb (n : Int) (by omega) (by omega)
    rwa [rd_get p n hn] at this
theorem refValid_is (w h : Int) (p : List Int) (hp : ∀ x ∈ p, 0 ≤ x) (hl : (p.length : Int) ≤ 9223372036854775807) : EvP (fun k => incunableref05_Valid.f k w h p) (· = decide (Val w h p)) := by
  unfold incunableref05_Valid.f
  refine EvP.bindv (Sides_is w h) ?_
  refine EvP.ite (fun h1 => ?_) (fun h1 => ?_)
  · rw [decide_eq_true_iff] at h1
    have hm := sid_mul h1.1 h1.2.1 h1.2.2.1 h1.2.2.2.1
    rw [w64 (by omega) (by omega)]
    refine EvP.step (fun k => by rw [incunableref05_Valid.j0]) ?_
    refine EvP.ite (fun h2 => EvP.ret ?_) (fun h2 => ?_)
    · symm
      rw [decide_eq_false_iff_not]
      intro v
      simp [v.2.2.2.2.2.1] at h2
    · refine (refValid_l0 w h p hl).mono ?_
      rintro r rfl
      have e : (p.length : Int) = w * h := by simpa using h2
      apply decide_eq_decide.mpr
      constructor
      · intro hall
        exact ⟨h1.1, h1.2.1, h1.2.2.1, h1.2.2.2.1, h1.2.2.2.2, e, fun x hx => ⟨hp x hx, hall x hx⟩⟩
      · intro v x hx
        exact (v.2.2.2.2.2.2 x hx).2
  · refine EvP.step (fun k => by rw [incunableref05_Valid.j0]) ?_
    refine EvP.pos rfl (EvP.ret ?_)
    symm
    rw [decide_eq_false_iff_not]
    intro v
    exact h1 (decide_eq_true v.sid)

theorem refDiffer_l0 (w h : Int) (p : List Int) (w' h' : Int) (q : List Int) (e : p.length = q.length) (hl : (p.length : Int) ≤ 1000000000) : EvP (fun k => incunableref05_Differ.l0 k 0 0 w h p w' h' q) (· = (cn p q, 0)) := by
  refine EvP.up (L := fun k i (s : Int) => incunableref05_Differ.l0 k s i w h p w' h' q) (fun i s => 0 ≤ i ∧ s = sm i.toNat (fun j => if rd p j = rd q j then 0 else 1)) p.length ?_ 0 0 (by omega) ⟨by omega, rfl⟩
  intro i s ⟨h0, hs⟩ hi ih
  have hsm := sm_bound (n := i.toNat) (f := fun j => if rd p j = rd q j then (0 : Int) else 1) (c := 1) (by omega) (fun j a b => by show 0 ≤ (if rd p j = rd q j then (0 : Int) else 1) ∧ (if rd p j = rd q j then (0 : Int) else 1) ≤ 1; split <;> omega)
  refine EvP.step (fun k => by rw [incunableref05_Differ.l0]) ?_
  refine EvP.ite (fun h1 => ?_) (fun h1 => ?_)
  · refine EvP.pos h0 (EvP.pos (by omega) ?_)
    have es : sm (i + 1).toNat (fun j => if rd p j = rd q j then (0 : Int) else 1) = sm i.toNat (fun j => if rd p j = rd q j then (0 : Int) else 1) + (if rd p i = rd q i then 0 else 1) := by
      rw [show (i + 1).toNat = i.toNat + 1 by omega]
      show sm i.toNat _ + (if rd p (i.toNat : Int) = rd q (i.toNat : Int) then (0 : Int) else 1) = _
      rw [show ((i.toNat : Nat) : Int) = i by omega]
    refine EvP.ite (fun h2 => ?_) (fun h2 => ?_)
    · rw [w64 (x := i + 1) (by omega) (by omega)]
      refine ih _ h1 ⟨by omega, ?_⟩
      rw [es, if_pos h2, hs]
      omega
    · rw [w64 (x := i + 1) (by omega) (by omega), w64 (x := s + 1) (by omega) (by omega)]
      refine ih _ h1 ⟨by omega, ?_⟩
      rw [es, if_neg h2, hs]
  · refine EvP.ret ?_
    have : i.toNat = p.length := by omega
    rw [hs, this]
    rfl
theorem refDiffer_is (w h : Int) (p : List Int) (w' h' : Int) (q : List Int) (hp : ∀ x ∈ p, 0 ≤ x) (hl : (p.length : Int) ≤ 9223372036854775807) (hp' : ∀ x ∈ q, 0 ≤ x) (hl' : (q.length : Int) ≤ 9223372036854775807) :
    EvP (fun k => incunableref05_Differ.f k w h p w' h' q) (· = differR w h p w' h' q) := by
  unfold incunableref05_Differ.f differR
  refine EvP.bind (refValid_is w h p hp hl) ?_
  rintro _ rfl
  refine EvP.ite (fun h1 => ?_) (fun h1 => ?_)
  · refine EvP.bind (refValid_is w' h' q hp' hl') ?_
    rintro _ rfl
    have v : Val w h p := by simpa using h1
    refine EvP.step (fun k => by rw [incunableref05_Differ.j0]) ?_
    refine EvP.ite (fun h2 => EvP.ret ?_) (fun h2 => ?_)
    · rw [if_neg (fun x : Val w h p ∧ Val w' h' q => by simp [x.2] at h2)]
    · have v' : Val w' h' q := by simpa using h2
      rw [if_pos (show Val w h p ∧ Val w' h' q from ⟨v, v'⟩)]
      have e1 := v.2.2.2.2.2.1
      have e2 := v'.2.2.2.2.2.1
      have e3 := v.2.2.2.2.1
      refine EvP.ite (fun a => ?_) (fun a => ?_)
      · refine EvP.step (fun k => by rw [incunableref05_Differ.j1]) ?_
        refine EvP.ite (fun b => EvP.ret ?_) (fun b => ?_)
        · have b : ¬ h = h' := by simpa using b
          rw [if_neg (fun x : w = w' ∧ h = h' => b x.2)]
        · have b : h = h' := by simpa using b
          rw [if_pos (show w = w' ∧ h = h' from ⟨a, b⟩)]
          rw [← a, ← b] at e2
          exact refDiffer_l0 w h p w' h' q (by omega) (by omega)
      · refine EvP.step (fun k => by rw [incunableref05_Differ.j1]) ?_
        refine EvP.pos rfl (EvP.ret ?_)
        rw [if_neg (fun x : w = w' ∧ h = h' => a x.1)]
  · have v : ¬ Val w h p := by simpa using h1
    refine EvP.step (fun k => by rw [incunableref05_Differ.j0]) ?_
    refine EvP.pos rfl (EvP.ret ?_)
    rw [if_neg (fun x : Val w h p ∧ Val w' h' q => v x.1)]

def mixv (op a b : Int) : Int := if op = 0 then b else if op = 1 then (if a < b then b else a) else if op = 2 then (if b < a then b else a) else if op = 3 then (a + b) % 2 else (a + b + 1) % 2
theorem five {op : Int} (h0 : 0 ≤ op) (h1 : op ≤ 4) : op = 0 ∨ op = 1 ∨ op = 2 ∨ op = 3 ∨ op = 4 := by omega
theorem bit {a : Int} (h0 : 0 ≤ a) (h1 : a ≤ 1) : a = 0 ∨ a = 1 := by omega
theorem mix_01 {op a b : Int} (h0 : 0 ≤ op) (h1 : op ≤ 4) (a0 : 0 ≤ a) (a1 : a ≤ 1) (b0 : 0 ≤ b) (b1 : b ≤ 1) : 0 ≤ mixv op a b ∧ mixv op a b ≤ 1 := by
  rcases five h0 h1 with rfl | rfl | rfl | rfl | rfl <;> rcases bit a0 a1 with rfl | rfl <;> rcases bit b0 b1 with rfl | rfl <;> decide +kernel
theorem mix3 {a b : Int} (a0 : 0 ≤ a) (a1 : a ≤ 1) (b0 : 0 ≤ b) (b1 : b ≤ 1) : mixv 3 (mixv 3 a b) b = a := by
  rcases bit a0 a1 with rfl | rfl <;> rcases bit b0 b1 with rfl | rfl <;> decide +kernel
theorem mix3_ne {a b : Int} (a0 : 0 ≤ a) (a1 : a ≤ 1) (b0 : 0 ≤ b) (b1 : b ≤ 1) : mixv 3 a b = if a = b then 0 else 1 := by
  rcases bit a0 a1 with rfl | rfl <;> rcases bit b0 b1 with rfl | rfl <;> decide +kernel
theorem mix1_zero {b : Int} (b0 : 0 ≤ b) (b1 : b ≤ 1) : mixv 1 0 b = b := by
  rcases bit b0 b1 with rfl | rfl <;> decide +kernel
theorem mix0 (a b : Int) : mixv 0 a b = b := rfl

/-- What is drawn. -/
def drawG (g : Int → Int → Int) (w' h' : Int) (s : List Int) (x y op : Int) : Int → Int → Int := fun u t => if 0 ≤ u - x ∧ u - x < w' ∧ 0 ≤ t - y ∧ t - y < h' then mixv op (g u t) (pix w' h' s (u - x) (t - y)) else g u t
def Shf (x y : Int) : Prop := -100000 ≤ x ∧ x ≤ 100000 ∧ -100000 ≤ y ∧ y ≤ 100000
instance (x y : Int) : Decidable (Shf x y) := by unfold Shf; exact inferInstance
def drawR (w h : Int) (p : List Int) (w' h' : Int) (s : List Int) (x y op : Int) : Int × Int × List Int × Int :=
  if ¬ (Val w h p ∧ Val w' h' s) then (0, 0, [], 30) else if op < 0 ∨ op > 4 ∨ ¬ Shf x y then (0, 0, [], 2) else (w, h, tab w h (drawG (pix w h p) w' h' s x y op), 0)
theorem drawG_01 {g : Int → Int → Int} {w' h' : Int} {s : List Int} {x y op : Int} (v : Val w' h' s) (h0 : 0 ≤ op) (h1 : op ≤ 4) {u t : Int} (hg : 0 ≤ g u t ∧ g u t ≤ 1) : 0 ≤ drawG g w' h' s x y op u t ∧ drawG g w' h' s x y op u t ≤ 1 := by
  unfold drawG
  split
  · have b := v.pix01 (u - x) (t - y)
    exact mix_01 h0 h1 hg.1 hg.2 b.1 b.2
  · exact hg

theorem combine_is {op a b : Int} (h0 : 0 ≤ op) (h1 : op ≤ 4) (a0 : 0 ≤ a) (a1 : a ≤ 1) (b0 : 0 ≤ b) (b1 : b ≤ 1) : bitmap_combine.f a b op = some (mixv op a b) := by
  rcases five h0 h1 with rfl | rfl | rfl | rfl | rfl <;> rcases bit a0 a1 with rfl | rfl <;> rcases bit b0 b1 with rfl | rfl <;> decide +kernel

theorem at_is {w h : Int} {p : List Int} (v : Val w h p) (x y : Int) : bitmap_at.f w h p x y = some (pix w h p x y) := by
  unfold bitmap_at.f
  by_cases hc : 0 ≤ x ∧ x < w ∧ 0 ≤ y ∧ y < h
  · have hf := flat_lt hc.1 hc.2.1 hc.2.2.1 hc.2.2.2
    have hm := v.2.2.2.2.1
    have hl := v.2.2.2.2.2.1
    rw [if_neg (by omega), if_neg (by omega), if_neg (by omega), if_neg (by omega)]
    have e : wrap64 (y * w) = y * w := w64 (by omega) (by omega)
    rw [e, w64 (by omega) (by omega), if_pos hf.2.1, if_pos (by omega), pix_in hc.1 hc.2.1 hc.2.2.1 hc.2.2.2]
  · rw [pix_out hc]
    by_cases a : x < 0
    · rw [if_pos a]
    rw [if_neg a]
    by_cases b : y < 0
    · rw [if_pos b]
    rw [if_neg b]
    by_cases c : x ≥ w
    · rw [if_pos c]
    rw [if_neg c, if_pos (by omega)]

theorem clone_is (w h : Int) (p : List Int) (hl : p.length < 140737488355328) : bitmap_clone.f w h p = some (w, h, p) := by
  unfold bitmap_clone.f bytes_Clone.f
  simp only [Option.bind_some, List.length_nil, Nat.zero_add, List.nil_append]
  rw [if_pos hl]
  rfl

theorem isShift_is (x y : Int) : bitmap_isShift.f x y = some (decide (Shf x y)) := by
  unfold bitmap_isShift.f mn mx
  by_cases a : Shf x y
  · obtain ⟨b, c, d, e⟩ := a
    rw [if_pos (by split <;> omega)]
    refine congrArg some ?_
    rw [decide_eq_true (show Shf x y from ⟨b, c, d, e⟩), decide_eq_true (by split <;> omega)]
  · rw [decide_eq_false a]
    by_cases q : (if y < x then y else x) ≥ -100000
    · rw [if_pos q]
      refine congrArg some (decide_eq_false (fun r => a ?_))
      refine ⟨?_, ?_, ?_, ?_⟩ <;> (split at q <;> split at r <;> omega)
    · rw [if_neg q]

theorem Draw_l0 {w h : Int} {p : List Int} {w' h' : Int} {s : List Int} {x y op : Int} (v : Val w h p) (v' : Val w' h' s) (h0 : 0 ≤ op) (h1 : op ≤ 4) (hs : Shf x y) :
    EvP (fun k => bitmap_Draw.l0 k x y op h' 0 w h p w' h' s w h p) (· = (w, h, tab w h (drawG (pix w h p) w' h' s x y op), 0)) := by
  obtain ⟨hw, hh, w200, h200, hm⟩ := v.sid
  obtain ⟨hw', hh', w200', h200', _⟩ := v'.sid
  obtain ⟨sx0, sx1, sy0, sy1⟩ := hs
  have h00 : 0 ≤ w * h := Int.mul_nonneg hw hh
  have ep : EvP (fun k => bitmap_Draw.l0 k x y op h' 0 w h p w' h' s w h (tab w h (pix w h p))) (· = (w, h, tab w h (drawG (pix w h p) w' h' s x y op), 0)) := by
    refine EvP.rasterP (L0 := fun k j (l : List Int) => bitmap_Draw.l0 k x y op h' j w h p w' h' s w h l) (L1 := fun k j i (l : List Int) => bitmap_Draw.l1 k x y op j h' j w' i w h p w' h' s w h l) (W := w') (H := h')
      (fun i j => x + i) (fun i j => y + j) (fun u t => u - x) (fun u t => t - y) (pix w h p) (fun u t => mixv op (pix w h p u t) (pix w' h' s (u - x) (t - y))) hw' hh' hw hh ?_ ?_ ?_ ?_ ?_ ?_ ?_
    · intro i j a b c d
      exact ⟨by show x + i - x = i; omega, by show y + j - y = j; omega⟩
    · intro u t a b c d e f g' h'
      exact ⟨by show x + (u - x) = u; omega, by show y + (t - y) = t; omega⟩
    · intro j l a b hk
      refine EvP.step (fun k => by rw [bitmap_Draw.l0]) ?_
      exact EvP.pos b hk
    · refine EvP.step (fun k => by rw [bitmap_Draw.l0]) ?_
      exact EvP.neg (by omega) (EvP.ret rfl)
    · intro i j g' a b c d p0 p1 q0 q1 e hk
      have p0 : 0 ≤ x + i := p0
      have p1 : x + i < w := p1
      have q0 : 0 ≤ y + j := q0
      have q1 : y + j < h := q1
      have e1 := v.pix01 (x + i) (y + j)
      have hf := flat_lt p0 p1 q0 q1
      refine EvP.step (fun k => by rw [bitmap_Draw.l1]) ?_
      refine EvP.pos b ?_
      rw [w64 (x := x + i) (by omega) (by omega), w64 (x := y + j) (by omega) (by omega)]
      refine EvP.pos p0 (EvP.pos q0 (EvP.pos p1 ?_))
      refine EvP.step (fun k => by rw [bitmap_Draw.j3]) ?_
      refine EvP.pos (decide_eq_true q1) ?_
      rw [w64 (x := (y + j) * w) (by omega) (by omega), w64 (x := (y + j) * w + (x + i)) (by omega) (by omega)]
      refine EvP.pos hf.2.1 (EvP.pos (by rw [tab_length]; omega) ?_)
      refine EvP.bindv (at_is v' i j) ?_
      have e2 : g' (x + i) (y + j) = pix w h p (x + i) (y + j) := e
      rw [rd_tab_at _ _ _ _ _ p0 p1 q0 q1, e2]
      have e3 := v'.pix01 i j
      refine EvP.bindv (combine_is h0 h1 e1.1 e1.2 e3.1 e3.2) ?_
      rw [set_tab hw hh p0 p1 q0 q1, w64 (x := i + 1) (by omega) (by omega)]
      have e5 : x + i - x = i := by omega
      have e6 : y + j - y = j := by omega
      simp only [e5, e6] at hk
      exact hk
    · intro i j g' a b c d q hk
      have q : ¬ (0 ≤ x + i ∧ x + i < w ∧ 0 ≤ y + j ∧ y + j < h) := q
      have skip : EvP (fun k => bitmap_Draw.j3 k x y op j i (x + i) (y + j) h' j w' i false w h p w' h' s w h (tab w h g')) (· = (w, h, tab w h (drawG (pix w h p) w' h' s x y op), 0)) := by
        refine EvP.step (fun k => by rw [bitmap_Draw.j3]) ?_
        refine EvP.neg (by simp) ?_
        rw [w64 (x := i + 1) (by omega) (by omega)]
        exact hk
      refine EvP.step (fun k => by rw [bitmap_Draw.l1]) ?_
      refine EvP.pos b ?_
      rw [w64 (x := x + i) (by omega) (by omega), w64 (x := y + j) (by omega) (by omega)]
      refine EvP.ite (fun q1 => EvP.ite (fun q2 => EvP.ite (fun q3 => ?_) (fun q3 => skip)) (fun q2 => skip)) (fun q1 => skip)
      rw [decide_eq_false (show ¬ y + j < h by omega)]
      exact skip
    · intro j l a b hk
      refine EvP.step (fun k => by rw [bitmap_Draw.l1]) ?_
      refine EvP.neg (by omega) ?_
      rw [w64 (x := j + 1) (by omega) (by omega)]
      exact hk
  rw [← v.tab] at ep
  exact ep
theorem Draw_is (w h : Int) (p : List Int) (w' h' : Int) (s : List Int) (x y op : Int) (hp : ∀ x ∈ p, 0 ≤ x) (hl : (p.length : Int) ≤ 9223372036854775807) (hp' : ∀ x ∈ s, 0 ≤ x) (hl' : (s.length : Int) ≤ 9223372036854775807) :
    EvP (fun k => bitmap_Draw.f k w h p w' h' s x y op) (· = drawR w h p w' h' s x y op) := by
  unfold bitmap_Draw.f
  refine EvP.bind (Valid_is w h p hp hl) ?_
  rintro _ rfl
  refine EvP.ite (fun h1 => ?_) (fun h1 => ?_)
  · refine EvP.bind (Valid_is w' h' s hp' hl') ?_
    rintro _ rfl
    have v : Val w h p := by simpa using h1
    refine EvP.step (fun k => by rw [bitmap_Draw.j0]) ?_
    refine EvP.ite (fun h2 => EvP.ret ?_) (fun h2 => ?_)
    · unfold drawR
      rw [if_pos (fun q => by simp [q.2] at h2)]
    · have v' : Val w' h' s := by simpa using h2
      have hlen : (p.length : Int) ≤ 8192 := by rw [v.2.2.2.2.2.1]; exact v.2.2.2.2.1
      unfold drawR
      rw [if_neg (c := ¬ (Val w h p ∧ Val w' h' s)) (fun q => q ⟨v, v'⟩)]
      refine EvP.ite (fun a => EvP.ret (by rw [if_pos (.inl a)])) (fun a => ?_)
      refine EvP.ite (fun b => EvP.ret (by rw [if_pos (.inr (.inl b))])) (fun b => ?_)
      refine EvP.bindv (isShift_is x y) ?_
      refine EvP.ite (fun c => ?_) (fun c => EvP.ret (by rw [if_pos (.inr (.inr (by simpa using c)))]))
      have hs : Shf x y := by simpa using c
      rw [if_neg (fun q => q.elim a (fun q => q.elim b (fun q => q hs)))]
      refine EvP.bindv (clone_is w h p (by omega)) ?_
      exact Draw_l0 v v' (by omega) (by omega) hs
  · have v : ¬ Val w h p := by simpa using h1
    refine EvP.step (fun k => by rw [bitmap_Draw.j0]) ?_
    refine EvP.pos rfl (EvP.ret ?_)
    unfold drawR
    rw [if_pos (fun q => v q.1)]

theorem nil_byt : Byt [] := fun x hx => by simp at hx
theorem drawR_val {w h : Int} {p : List Int} {w' h' : Int} {s : List Int} {x y op : Int} (e : (drawR w h p w' h' s x y op).2.2.2 = 0) :
    Val w h p ∧ Val w' h' s ∧ 0 ≤ op ∧ op ≤ 4 ∧ Shf x y ∧ drawR w h p w' h' s x y op = (w, h, tab w h (drawG (pix w h p) w' h' s x y op), 0) := by
  unfold drawR at e ⊢
  by_cases a : ¬ (Val w h p ∧ Val w' h' s)
  · rw [if_pos a] at e
    exact absurd e (by decide)
  · rw [if_neg a] at e ⊢
    by_cases b : op < 0 ∨ op > 4 ∨ ¬ Shf x y
    · rw [if_pos b] at e
      exact absurd e (by decide)
    · rw [if_neg b]
      have a := Classical.not_not.mp a
      exact ⟨a.1, a.2, by omega, by omega, Classical.not_not.mp (fun q => b (.inr (.inr q))), rfl⟩
theorem drawG_val {w h : Int} {p : List Int} {w' h' : Int} {s : List Int} {x y op : Int} (v : Val w h p) (v' : Val w' h' s) (h0 : 0 ≤ op) (h1 : op ≤ 4) : Val w h (tab w h (drawG (pix w h p) w' h' s x y op)) :=
  val_tab v.sid (fun u t _ _ _ _ => drawG_01 v' h0 h1 (v.pix01 u t))
theorem drawR_byt (w h : Int) (p : List Int) (w' h' : Int) (s : List Int) (x y op : Int) : Byt (drawR w h p w' h' s x y op).2.2.1 := by
  by_cases e : (drawR w h p w' h' s x y op).2.2.2 = 0
  · obtain ⟨v, v', h0, h1, _, q⟩ := drawR_val e
    rw [q]
    exact val_byt (drawG_val v v' h0 h1)
  · unfold drawR at e ⊢
    by_cases a : ¬ (Val w h p ∧ Val w' h' s)
    · rw [if_pos a]
      exact nil_byt
    · rw [if_neg a] at e ⊢
      by_cases b : op < 0 ∨ op > 4 ∨ ¬ Shf x y
      · rw [if_pos b]
        exact nil_byt
      · rw [if_neg b] at e
        exact absurd rfl e

theorem Blacks_is (w h : Int) (p : List Int) (hp : Byt p) (hl : (p.length : Int) ≤ 1000000000) : EvP (fun k => incunableref05_Blacks.f k w h p) (· = blk p) := by
  unfold incunableref05_Blacks.f
  refine EvP.up (L := fun k i (s : Int) => incunableref05_Blacks.l0 k s i w h p) (fun i s => 0 ≤ i ∧ s = sm i.toNat (fun j => rd p j)) p.length ?_ 0 0 (by omega) ⟨by omega, rfl⟩
  intro i s ⟨h0, hs⟩ hi ih
  refine EvP.step (fun k => by rw [incunableref05_Blacks.l0]) ?_
  refine EvP.ite (fun h1 => ?_) (fun h1 => ?_)
  · refine EvP.pos h0 ?_
    have hb := hp _ (rd_mem h0 h1)
    have hsm := sm_bound (n := i.toNat) (f := fun j => rd p j) (c := 255) (by omega) (fun j a b => hp _ (rd_mem a (by omega)))
    rw [w64 (x := rd p i) (by omega) (by omega), w64 (x := s + rd p i) (by omega) (by omega), w64 (x := i + 1) (by omega) (by omega)]
    refine ih _ h1 ⟨by omega, ?_⟩
    rw [hs, show (i + 1).toNat = i.toNat + 1 by omega, sm_s, show ((i.toNat : Nat) : Int) = i by omega]
  · refine EvP.ret ?_
    have : i.toNat = p.length := by omega
    rw [hs, this]
    rfl

theorem q4 (q : Int) (h0 : -9223372036854775808 ≤ q) (h1 : q ≤ 9223372036854775807) : Int.tmod (wrap64 (Int.tmod q 4 + 4)) 4 = q % 4 := by
  rcases Int.lt_or_le q 0 with h | h
  · have e : Int.tmod q 4 = -((-q) % 4) := by
      rw [show q = -(-q) by omega, Int.neg_tmod, tmod_pos (by omega)]
      omega
    rw [e, w64 (by omega) (by omega), tmod_pos (by omega)]
    omega
  · rw [tmod_pos h, w64 (by omega) (by omega), tmod_pos (by omega)]
    omega
/-- One quarter. -/
def t1 (b : Int × Int × List Int) : Int × Int × List Int := (b.2.1, b.1, tab b.2.1 b.1 (fun x y => pix b.1 b.2.1 b.2.2 y (b.2.1 - 1 - x)))
def turnR : Nat → Int × Int × List Int → Int × Int × List Int
  | 0, b => b
  | n + 1, b => turnR n (t1 b)
theorem sid_swap {w h : Int} (s : Sid w h) : Sid h w := ⟨s.2.1, s.1, s.2.2.2.1, s.2.2.1, by rw [Int.mul_comm]; exact s.2.2.2.2⟩
theorem val_t1 {w h : Int} {p : List Int} (v : Val w h p) : Val (t1 (w, h, p)).1 (t1 (w, h, p)).2.1 (t1 (w, h, p)).2.2 :=
  val_tab (g := fun x y => pix w h p y (h - 1 - x)) (sid_swap v.sid) (fun _ _ _ _ _ _ => v.pix01 _ _)
theorem Turn_l1 {P : Int × Int × List Int × Int → Prop} {w h : Int} {p : List Int} (v : Val w h p) (n i : Int)
    (hk : EvP (fun k => bitmap_Turn.l0 k n (wrap64 (i + 1)) h w (tab h w (fun x y => pix w h p y (h - 1 - x)))) P) :
    EvP (fun k => bitmap_Turn.l1 k n i ((List.replicate p.length (0 : Int)).length : Int) 0 w h p h w (List.replicate p.length 0)) P := by
  have hl : ((List.replicate p.length (0 : Int)).length : Int) = h * w := by rw [List.length_replicate, v.2.2.2.2.2.1, Int.mul_comm]
  have hm := v.2.2.2.2.1
  have hm2 : h * w = w * h := Int.mul_comm h w
  refine EvP.fillT (L := fun k j s => bitmap_Turn.l1 k n i ((List.replicate p.length (0 : Int)).length : Int) j w h p h w s) v.2.1 v.1 (List.replicate p.length 0) hl (fun x y => pix w h p y (h - 1 - x)) ?_ ?_
  · intro j s h0 h1 hs hw a b c d e f _ _ hk
    obtain ⟨_, _, h200, h200', _⟩ := v.sid
    refine EvP.step (fun k => by rw [bitmap_Turn.l1]) ?_
    refine EvP.pos h1 (EvP.neg (by omega) ?_)
    rw [e, f, w64 (x := j / h) (by omega) (by omega), w64 (x := h - 1) (by omega) (by omega), w64 (by omega) (by omega)]
    refine EvP.bindv (at_is v _ _) ?_
    refine EvP.pos h0 (EvP.pos (by omega) ?_)
    rw [w64 (by omega) (by omega)]
    exact hk
  · refine EvP.step (fun k => by rw [bitmap_Turn.l1]) ?_
    exact EvP.neg (by omega) hk
theorem Turn_l0 (n : Int) (hn : n ≤ 4) : ∀ (d : Nat) (i w h : Int) (p : List Int), Val w h p → 0 ≤ i → i ≤ n → (n - i).toNat = d →
    EvP (fun k => bitmap_Turn.l0 k n i w h p) (· = ((turnR d (w, h, p)).1, (turnR d (w, h, p)).2.1, (turnR d (w, h, p)).2.2, 0)) := by
  intro d
  induction d with
  | zero =>
    intro i w h p v h0 h1 hd
    refine EvP.step (fun k => by rw [bitmap_Turn.l0]) ?_
    exact EvP.neg (by omega) (EvP.ret rfl)
  | succ d ih =>
    intro i w h p v h0 h1 hd
    have hlen : (p.length : Int) ≤ 8192 := by rw [v.2.2.2.2.2.1]; exact v.2.2.2.2.1
    refine EvP.step (fun k => by rw [bitmap_Turn.l0]) ?_
    refine EvP.pos (by omega) (EvP.pos (by omega) (EvP.pos (by omega) ?_))
    refine EvP.bindv rfl ?_
    rw [Int.toNat_natCast]
    refine Turn_l1 v n i ?_
    rw [w64 (by omega) (by omega)]
    exact ih (i + 1) h w _ (val_t1 v) (by omega) (by omega) (by omega)
/-- What Turn returns. -/
def turnQ (w h : Int) (p : List Int) (q : Int) : Int × Int × List Int := turnR (q % 4).toNat (w, h, p)
theorem Turn_is {w h : Int} {p : List Int} (v : Val w h p) (q : Int) (h0 : -9223372036854775808 ≤ q) (h1 : q ≤ 9223372036854775807) :
    EvP (fun k => bitmap_Turn.f k w h p q) (· = ((turnQ w h p q).1, (turnQ w h p q).2.1, (turnQ w h p q).2.2, 0)) := by
  have hlen : (p.length : Int) ≤ 8192 := by rw [v.2.2.2.2.2.1]; exact v.2.2.2.2.1
  unfold bitmap_Turn.f
  refine EvP.bind (Valid_is w h p (fun x hx => (v.2.2.2.2.2.2 x hx).1) (by omega)) ?_
  rintro _ rfl
  refine EvP.pos (decide_eq_true v) ?_
  refine EvP.bindv (clone_is w h p (by omega)) ?_
  rw [q4 q h0 h1]
  exact Turn_l0 (q % 4) (by omega) _ 0 w h p v (by omega) (by omega) (by omega)
theorem Turn_bad {w h : Int} {p : List Int} (v : ¬ Val w h p) (hp : ∀ x ∈ p, 0 ≤ x) (hl : (p.length : Int) ≤ 9223372036854775807) (q : Int) : EvP (fun k => bitmap_Turn.f k w h p q) (· = (0, 0, [], 30)) := by
  unfold bitmap_Turn.f
  refine EvP.bind (Valid_is w h p hp hl) ?_
  rintro _ rfl
  exact EvP.neg (by simpa using v) (EvP.ret rfl)

theorem Sane_is : EvP (fun k => incunablelaw05_Sane.f k) (· = true) := by
  unfold incunablelaw05_Sane.f
  refine EvP.bind (Turn_is (w := 2) (h := 1) (p := [1, 0]) (by unfold Val; decide) 1 (by omega) (by omega)) ?_
  rintro _ rfl
  refine EvP.pos rfl ?_
  refine EvP.bindv (refSame_is _ _ _ _ _ _ ?_ ?_) (EvP.ret ?_)
  · unfold Byt
    decide
  · unfold Byt
    decide
  · decide

theorem Huge_is (w h : Int) (p : List Int) : incunablelaw05_Huge.f w h p = some (decide ((p.length : Int) > 20000)) := rfl

theorem Same_is (w h : Int) (p : List Int) (w' h' : Int) (p' : List Int) (hp : Byt p) (hp' : Byt p') : bitmap_Same.f w h p w' h' p' = some (decide (w = w' ∧ h = h' ∧ p = p')) := by
  unfold bitmap_Same.f bytes_Equal.f
  simp only [Option.bind_some]
  rw [strOfNums_eq hp hp']
  by_cases a : w = w'
  · by_cases b : h = h'
    · simp [a, b]
    · simp [a, b]
  · simp [a]
theorem xor_blk {w h : Int} {p q : List Int} (v : Val w h p) (v' : Val w h q) : blk (tab w h (drawG (pix w h p) w h q 0 0 3)) = cn p q := by
  have hm : 0 ≤ w * h := Int.mul_nonneg v.1 v.2.1
  unfold blk cn
  rw [tab_length, show (w * h).toNat = p.length by have := v.2.2.2.2.2.1; omega]
  refine sm_congr (fun i a b => ?_)
  have hl := v.2.2.2.2.2.1
  obtain ⟨_, c, d, e, f, g⟩ := flat_of v.1 a (show i < w * h by omega)
  rw [rd_tab _ _ _ _ a (by omega)]
  unfold drawG
  rw [Int.sub_zero, Int.sub_zero, if_pos ⟨c, d, e, f⟩]
  have b1 := v.pix01 (i % w) (i / w)
  have b2 := v'.pix01 (i % w) (i / w)
  rw [mix3_ne b1.1 b1.2 b2.1 b2.2, pix_in c d e f, pix_in c d e f, g]
theorem differs_j1 {w h : Int} {p : List Int} {w' h' : Int} {q : List Int} (hp : Byt p) (hq : Byt q) (hl : (p.length : Int) ≤ 20000) (hl' : (q.length : Int) ≤ 20000) :
    EvP (fun k => incunablelaw05_BitmapDiffers.j1 k (differR w h p w' h' q).1 (differR w h p w' h' q).2 false w h p w' h' q) (· = true) := by
  refine EvP.step (fun k => by rw [incunablelaw05_BitmapDiffers.j1]) ?_
  refine EvP.neg (by decide) ?_
  refine EvP.ite (fun e => ?_) (fun e => ?_)
  · unfold differR at e
    by_cases a : Val w h p ∧ Val w' h' q
    · rw [if_pos a] at e
      by_cases b : w = w' ∧ h = h'
      · obtain ⟨rfl, rfl⟩ := b
        obtain ⟨v, v'⟩ := a
        have e1 : differR w h p w h q = (cn p q, 0) := by
          unfold differR
          rw [if_pos ⟨v, v'⟩, if_pos ⟨rfl, rfl⟩]
        have e2 : drawR w h p w h q 0 0 3 = (w, h, tab w h (drawG (pix w h p) w h q 0 0 3), 0) := by
          unfold drawR
          rw [if_neg (c := ¬ (Val w h p ∧ Val w h q)) (fun x => x ⟨v, v'⟩), if_neg (by intro x; rcases x with x | x | x; omega; omega; exact x (by unfold Shf; omega))]
        have vd := drawG_val (x := 0) (y := 0) (op := 3) v v' (by omega) (by omega)
        refine EvP.bind (Draw_is w h p w h q 0 0 3 (fun z hz => (hp z hz).1) (by omega) (fun z hz => (hq z hz).1) (by omega)) ?_
        rintro _ rfl
        rw [e2, e1]
        refine EvP.pos rfl ?_
        have l2 : ((tab w h (drawG (pix w h p) w h q 0 0 3)).length : Int) ≤ 8192 := by rw [vd.2.2.2.2.2.1]; exact vd.2.2.2.2.1
        refine EvP.bind (Blacks_is _ _ _ (val_byt vd) (by show ((tab w h (drawG (pix w h p) w h q 0 0 3)).length : Int) ≤ _; omega)) ?_
        rintro _ rfl
        refine EvP.pos (xor_blk v v') ?_
        refine EvP.bindv (Same_is _ _ _ _ _ _ hp hq) ?_
        have el : p.length = q.length := by have h1 := v.2.2.2.2.2.1; have h2 := v'.2.2.2.2.2.1; omega
        refine EvP.pos ?_ ?_
        · have := cn_zero el
          by_cases c : p = q
          · rw [this.mpr c]
            simp [c]
          · have d : ¬ cn p q = 0 := fun x => c (this.mp x)
            simp [c, d]
        · refine EvP.bind Sane_is ?_
          rintro _ rfl
          exact EvP.ret rfl
      · rw [if_neg b] at e
        exact absurd e (by decide)
    · rw [if_neg a] at e
      exact absurd e (by decide)
  · refine EvP.bind Sane_is ?_
    rintro _ rfl
    exact EvP.ret rfl
theorem differs_j0 (w h : Int) (p : List Int) (w' h' : Int) (q : List Int) (hp : Byt p) (hq : Byt q) (b : Bool) (hb : b = false → (p.length : Int) ≤ 20000 ∧ (q.length : Int) ≤ 20000) :
    EvP (fun k => incunablelaw05_BitmapDiffers.j0 k b w h p w' h' q) (· = true) := by
  refine EvP.step (fun k => by rw [incunablelaw05_BitmapDiffers.j0]) ?_
  refine EvP.ite (fun a => ?_) (fun a => ?_)
  · refine EvP.bind Sane_is ?_
    rintro _ rfl
    exact EvP.ret rfl
  · obtain ⟨hl, hl'⟩ := hb (by simpa using a)
    refine EvP.bind (Differ_is w h p w' h' q (fun z hz => (hp z hz).1) (by omega) (fun z hz => (hq z hz).1) (by omega)) ?_
    rintro _ rfl
    refine EvP.bind (refDiffer_is w h p w' h' q (fun z hz => (hp z hz).1) (by omega) (fun z hz => (hq z hz).1) (by omega)) ?_
    rintro _ rfl
    refine EvP.bind (Differ_is w' h' q w h p (fun z hz => (hq z hz).1) (by omega) (fun z hz => (hp z hz).1) (by omega)) ?_
    rintro _ rfl
    rw [differR_swap (w := w') (h := h') (p := q)]
    refine EvP.pos rfl (EvP.pos rfl (EvP.pos rfl (EvP.pos rfl ?_)))
    refine EvP.bindv (Same_is _ _ _ _ _ _ hp hq) ?_
    refine EvP.bindv (refSame_is _ _ _ _ _ _ hp hq) ?_
    rw [bne_self_eq_false]
    exact differs_j1 hp hq hl hl'
theorem BitmapDiffers : incunablelaw05_BitmapDiffers.Pure := by
  intro w h p w' h' q _ _ hp _ _ hq
  refine EvP.rounds ?_
  unfold incunablelaw05_BitmapDiffers.f
  refine EvP.bindv (Huge_is w h p) ?_
  refine EvP.ite (fun a => differs_j0 w h p w' h' q (wf_byt hp.2.2) (wf_byt hq.2.2) true (by simp)) (fun a => ?_)
  refine EvP.bindv (Huge_is w' h' q) ?_
  refine differs_j0 w h p w' h' q (wf_byt hp.2.2) (wf_byt hq.2.2) _ (fun b => ?_)
  have a : ¬ (p.length : Int) > 20000 := by simpa using a
  have b : ¬ (q.length : Int) > 20000 := by simpa using b
  omega

end Go.Proofs.Ytgcjhpcegmblgaa.Pure
