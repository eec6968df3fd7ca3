/- The groups of bitmaps, their first ones, and how much is lost: at most the bound for each, and nothing with 0. No conditions beyond the statement's own. -/
import Derived.Test.YtaflekobfbgedaaPShapeGroupsx12
import Derived.Test.YtaflekobfbgedaaQBase
namespace Go.Proofs.Ytaflekobfbgedaa.Pure
open Go.RowKit Go.Proofs.Ytaflekobfbgedaa.PShapeGroups Go.Proofs.YtaflekobfbgedaaW.PrintWords Go.Proofs.YtaflekobfbgedaaW.PrintLast Go.Proofs.YtaflekobfbgedaaW.PrintMore Go.Proofs.YtaflekobfbgedaaW.Pu
set_option linter.unusedVariables false
set_option linter.unusedSimpArgs false
/-- The numbers of a list are those of bytes. -/
def Byt (p : List Int) : Prop := ∀ x ∈ p, 0 ≤ x ∧ x ≤ 255
theorem val_byt {w h : Int} {p : List Int} (v : Val w h p) : Byt p := fun x hx => ⟨(v.2.2.2.2.2.2 x hx).1, by have := (v.2.2.2.2.2.2 x hx).2; omega⟩

theorem wf_byt {p : List Int} (h : ∀ y ∈ p, (Lit.int .u8 y).wf = true) : Byt p := fun x hx => by
  have h1 : (decide (IntKind.u8.min ≤ x) && decide (x ≤ IntKind.u8.max)) = true := h x hx
  obtain ⟨a, b⟩ := Bool.and_eq_true_iff.mp h1
  exact ⟨of_decide_eq_true a, of_decide_eq_true b⟩
theorem wf_i64 {x : Int} (h : (Lit.int .i64 x).wf = true) : -9223372036854775808 ≤ x ∧ x ≤ 9223372036854775807 := by
  have h1 : (decide (IntKind.i64.min ≤ x) && decide (x ≤ IntKind.i64.max)) = true := h
  obtain ⟨a, b⟩ := Bool.and_eq_true_iff.mp h1
  exact ⟨of_decide_eq_true a, of_decide_eq_true b⟩

/-- The places of the groups' first ones, of the first n; none: no numbers of groups. -/
def hdS (g : List Int) : Nat → Option (List Int)
  | 0 => some []
  | n + 1 => match hdS g n with
    | none => none
    | some o => if rd g n < 0 ∨ rd g n > (o.length : Int) then none else some (if rd g n = (o.length : Int) then o ++ [(n : Int)] else o)
def hdQ (g : List Int) : List Int × Int := match hdS g g.length with
  | none => ([], 2)
  | some o => (o, 0)
theorem hdS_none {g : List Int} {n : Nat} (h : hdS g n = none) : ∀ m, hdS g (n + m) = none
  | 0 => h
  | m + 1 => by
    show hdS g ((n + m) + 1) = none
    unfold hdS
    rw [hdS_none h m]
theorem hdS_s {g : List Int} {n : Nat} {o : List Int} (h : hdS g n = some o) : hdS g (n + 1) = if rd g n < 0 ∨ rd g n > (o.length : Int) then none else some (if rd g n = (o.length : Int) then o ++ [(n : Int)] else o) := by
  show (match hdS g n with | none => none | some o => _) = _
  rw [h]
theorem hdQ_bad {g : List Int} {n : Nat} (h : hdS g n = none) (hn : n ≤ g.length) : hdQ g = ([], 2) := by
  unfold hdQ
  have := hdS_none h (g.length - n)
  rw [show n + (g.length - n) = g.length by omega] at this
  rw [this]
/-- What is known of the places: each number is that of a group, each place is below. -/
theorem hdS_ok (g : List Int) : ∀ (n : Nat) (o : List Int), hdS g n = some o → o.length ≤ n ∧ (∀ i : Int, 0 ≤ i → i < n → 0 ≤ rd g i ∧ rd g i < (o.length : Int)) ∧ ∀ j : Int, 0 ≤ j → j < (o.length : Int) → 0 ≤ rd o j ∧ rd o j < n
  | 0, o, h => by
    have : o = [] := (Option.some.inj h).symm
    subst this
    exact ⟨Nat.le_refl _, fun i a b => by omega, fun j a b => by simp at b; omega⟩
  | n + 1, o, h => by
    cases e : hdS g n with
    | none =>
      have := hdS_none e 1
      rw [this] at h
      cases h
    | some q =>
      obtain ⟨a, b, c⟩ := hdS_ok g n q e
      rw [hdS_s e] at h
      by_cases z : rd g n < 0 ∨ rd g n > (q.length : Int)
      · rw [if_pos z] at h
        cases h
      · rw [if_neg z] at h
        have h := Option.some.inj h
        by_cases y : rd g n = (q.length : Int)
        · rw [if_pos y] at h
          subst h
          have hl : (q ++ [(n : Int)]).length = q.length + 1 := by rw [List.length_append]; rfl
          refine ⟨by omega, fun i i0 i1 => ?_, fun j j0 j1 => ?_⟩
          · rw [hl]
            by_cases x : i = n
            · subst x; omega
            · have := b i i0 (by omega); omega
          · rw [rd_append _ _ _ j0]
            split
            · omega
            · have := c j j0 (by omega); omega
        · rw [if_neg y] at h
          subst h
          refine ⟨by omega, fun i i0 i1 => ?_, fun j j0 j1 => ?_⟩
          · by_cases x : i = n
            · subst x; omega
            · exact b i i0 (by omega)
          · have := c j j0 j1; omega

/-- The sum of the first numbers. -/
def sm : Nat → (Int → Int) → Int
  | 0, _ => 0
  | n + 1, f => sm n f + f (n : Int)
theorem sm_s (n : Nat) (f : Int → Int) : sm (n + 1) f = sm n f + f (n : Int) := rfl
theorem sm_0 (f : Int → Int) : sm 0 f = 0 := rfl
theorem sm_congr {f g : Int → Int} : ∀ {n : Nat}, (∀ i : Int, 0 ≤ i → i < n → f i = g i) → sm n f = sm n g
  | 0, _ => rfl
  | n + 1, h => by
    unfold sm
    rw [sm_congr (fun i h0 h1 => h i h0 (by omega)), h n (by omega) (by omega)]
theorem sm_bound {f : Int → Int} {c : Int} (hc : 0 ≤ c) : ∀ {n : Nat}, (∀ i : Int, 0 ≤ i → i < n → 0 ≤ f i ∧ f i ≤ c) → 0 ≤ sm n f ∧ sm n f ≤ n * c
  | 0, _ => by simp [sm]
  | n + 1, h => by
    have h1 := sm_bound hc (fun i h0 h1 => h i h0 (by omega)) (n := n)
    have h2 := h n (by omega) (by omega)
    unfold sm
    have e : ((n + 1 : Nat) : Int) * c = n * c + c := by rw [Int.natCast_add, Int.add_mul]; simp
    omega
theorem sm_zero {f : Int → Int} (h0 : ∀ i : Int, 0 ≤ i → 0 ≤ f i) : ∀ {n : Nat}, sm n f = 0 → ∀ i : Int, 0 ≤ i → i < n → f i = 0
  | 0, _, i, a, b => by omega
  | n + 1, h, i, a, b => by
    unfold sm at h
    have h1 : 0 ≤ sm n f := by
      have : ∀ m : Nat, 0 ≤ sm m f := by
        intro m
        induction m with
        | zero => simp [sm]
        | succ m ih => unfold sm; have := h0 m (by omega); omega
      exact this n
    have h2 := h0 n (by omega)
    rcases Int.lt_or_le i n with c | c
    · exact sm_zero h0 (show sm n f = 0 by omega) i a c
    · have : i = n := by omega
      subst this
      omega
theorem sm_const (c : Int) : ∀ n : Nat, sm n (fun _ => c) = n * c
  | 0 => by simp [sm]
  | n + 1 => by
    unfold sm
    rw [sm_const c n, Int.natCast_add, Int.add_mul]
    simp
theorem sm_add (f : Int → Int) (a : Nat) : ∀ b : Nat, sm (a + b) f = sm a f + sm b (fun i => f (a + i))
  | 0 => by simp [sm]
  | b + 1 => by
    rw [show a + (b + 1) = (a + b) + 1 from rfl, sm_s, sm_s, sm_add f a b]
    have e : ((a + b : Nat) : Int) = (a : Int) + (b : Int) := by omega
    rw [e]
    show sm a f + sm b (fun i => f (a + i)) + f (a + b) = sm a f + (sm b (fun i => f (a + i)) + f (a + b))
    omega
theorem sm_plus (f g : Int → Int) : ∀ n : Nat, sm n (fun i => f i + g i) = sm n f + sm n g
  | 0 => by simp [sm]
  | n + 1 => by
    rw [sm_s, sm_s, sm_s, sm_plus f g n]
    show sm n f + sm n g + (f n + g n) = sm n f + f n + (sm n g + g n)
    omega
theorem sm_swap (g : Int → Int → Int) (W : Nat) : ∀ H : Nat, sm H (fun y => sm W (fun x => g x y)) = sm W (fun x => sm H (fun y => g x y))
  | 0 => by
    have : sm W (fun x => sm 0 (fun y => g x y)) = sm W (fun _ => 0) := sm_congr (fun i _ _ => rfl)
    rw [this, sm_const 0 W, sm_0]
    simp
  | H + 1 => by
    rw [sm_s, sm_swap g W H]
    have : sm W (fun x => sm (H + 1) (fun y => g x y)) = sm W (fun x => sm H (fun y => g x y) + g x H) := sm_congr (fun i _ _ => rfl)
    rw [this, sm_plus]
theorem sm_front (f : Int → Int) : ∀ n : Nat, sm (n + 1) f = f 0 + sm n (fun i => f (i + 1))
  | 0 => by simp [sm]
  | n + 1 => by
    rw [show sm (n + 1 + 1) f = sm (n + 1) f + f ((n + 1 : Nat) : Int) from rfl, sm_front f n]
    rw [show sm (n + 1) (fun i => f (i + 1)) = sm n (fun i => f (i + 1)) + f ((n : Int) + 1) from rfl]
    have e : ((n + 1 : Nat) : Int) = (n : Int) + 1 := by omega
    rw [e]
    omega
theorem sm_mirror (f : Int → Int) : ∀ n : Nat, sm n (fun i => f ((n : Int) - 1 - i)) = sm n f
  | 0 => rfl
  | n + 1 => by
    rw [sm_front]
    have e : (((n + 1 : Nat) : Int) - 1 - 0) = (n : Int) := by omega
    rw [e]
    have e2 : sm n (fun i => f (((n + 1 : Nat) : Int) - 1 - (i + 1))) = sm n (fun i => f ((n : Int) - 1 - i)) := sm_congr (fun i _ _ => by
      have : ((n + 1 : Nat) : Int) - 1 - (i + 1) = (n : Int) - 1 - i := by omega
      rw [this])
    rw [e2, sm_mirror f n, sm_s]
    omega
/-- All pixels' sum. -/
def tot (w h : Int) (g : Int → Int → Int) : Int := sm h.toNat (fun y => sm w.toNat (fun x => g x y))
theorem sm_flat (g : Int → Int → Int) (W : Nat) : ∀ H : Nat, sm (W * H) (fun i => g (i % (W : Int)) (i / (W : Int))) = sm H (fun y => sm W (fun x => g x y))
  | 0 => rfl
  | H + 1 => by
    rw [Nat.mul_succ, sm_add, sm_flat g W H]
    rw [show sm (H + 1) (fun y => sm W (fun x => g x y)) = sm H (fun y => sm W (fun x => g x y)) + sm W (fun x => g x (H : Int)) from rfl]
    congr 1
    refine sm_congr (fun i h0 h1 => ?_)
    have e : ((W * H : Nat) : Int) + i = (H : Int) * (W : Int) + i := by rw [Int.natCast_mul, Int.mul_comm]
    rw [e, flat_mod h0 h1, flat_div h0 h1]
theorem sm_tab {w h : Int} (hw : 0 ≤ w) (hh : 0 ≤ h) (g : Int → Int → Int) : sm (tab w h g).length (fun i => rd (tab w h g) i) = tot w h g := by
  have h0 : 0 ≤ w * h := Int.mul_nonneg hw hh
  rw [tab_length]
  have e : (w * h).toNat = w.toNat * h.toNat := by
    have e1 : ((w.toNat * h.toNat : Nat) : Int) = w * h := by rw [Int.natCast_mul, Int.toNat_of_nonneg hw, Int.toNat_of_nonneg hh]
    omega
  have ew : ((w.toNat : Nat) : Int) = w := Int.toNat_of_nonneg hw
  unfold tot
  rw [← sm_flat g w.toNat h.toNat, e, ew]
  refine sm_congr (fun i a b => ?_)
  rw [rd_tab w h g i a (by omega)]
theorem tot_congr {w h : Int} {g g' : Int → Int → Int} (hg : ∀ x y, 0 ≤ x → x < w → 0 ≤ y → y < h → g x y = g' x y) : tot w h g = tot w h g' :=
  sm_congr (fun y a b => sm_congr (fun x c d => hg x y c (by omega) a (by omega)))
theorem tot_turn {w h : Int} (hw : 0 ≤ w) (hh : 0 ≤ h) (g : Int → Int → Int) : tot h w (fun x y => g y (h - 1 - x)) = tot w h g := by
  unfold tot
  have eh : ((h.toNat : Nat) : Int) = h := Int.toNat_of_nonneg hh
  rw [sm_swap (fun x y => g x y) w.toNat h.toNat]
  refine sm_congr (fun y a b => ?_)
  have := sm_mirror (fun i => g y i) h.toNat
  rw [eh] at this
  exact this
theorem tot_flip {w h : Int} (hw : 0 ≤ w) (hh : 0 ≤ h) (g : Int → Int → Int) : tot w h (fun x y => g (w - 1 - x) y) = tot w h g := by
  unfold tot
  have ew : ((w.toNat : Nat) : Int) = w := Int.toNat_of_nonneg hw
  refine sm_congr (fun y a b => ?_)
  have := sm_mirror (fun i => g i y) w.toNat
  rw [ew] at this
  exact this
/-- How many pixels are black. -/
def blk (p : List Int) : Int := sm p.length (fun i => rd p i)
theorem blk_val {w h : Int} {p : List Int} (v : Val w h p) : blk p = tot w h (pix w h p) := by
  unfold blk
  have e := sm_tab v.1 v.2.1 (pix w h p)
  rw [← v.tab] at e
  exact e

instance (w h : Int) (p : List Int) : Decidable (Val w h p) := by unfold Val; exact inferInstance
theorem sid_mul {w h : Int} (hw : 0 ≤ w) (hh : 0 ≤ h) (hw' : w ≤ 200) (hh' : h ≤ 200) : 0 ≤ w * h ∧ w * h ≤ 40000 := by
  have h1 : 0 ≤ w * h := Int.mul_nonneg hw hh
  have h2 : w * h ≤ 200 * h := Int.mul_le_mul_of_nonneg_right hw' hh
  omega

/-- How many numbers are unlike. -/
def cn (p q : List Int) : Int := sm p.length (fun i => if rd p i = rd q i then 0 else 1)
def differR (w h : Int) (p : List Int) (w' h' : Int) (q : List Int) : Int × Int := if Val w h p ∧ Val w' h' q then (if w = w' ∧ h = h' then (cn p q, 0) else (0, 2)) else (0, 30)
theorem differR_swap {w h : Int} {p : List Int} {w' h' : Int} {q : List Int} : differR w h p w' h' q = differR w' h' q w h p := by
  unfold differR
  by_cases a : Val w h p ∧ Val w' h' q
  · rw [if_pos a, if_pos (show Val w' h' q ∧ Val w h p from ⟨a.2, a.1⟩)]
    by_cases b : w = w' ∧ h = h'
    · rw [if_pos b, if_pos (show w' = w ∧ h' = h from ⟨b.1.symm, b.2.symm⟩)]
      have e : p.length = q.length := by
        have h1 := a.1.2.2.2.2.2.1
        have h2 := a.2.2.2.2.2.2.1
        rw [← b.1, ← b.2] at h2
        omega
      unfold cn
      rw [e]
      refine congrArg (fun z => (z, (0 : Int))) (sm_congr (fun i _ _ => ?_))
      by_cases c : rd p i = rd q i
      · rw [if_pos c, if_pos c.symm]
      · rw [if_neg c, if_neg (fun x => c x.symm)]
    · rw [if_neg b, if_neg (show ¬ (w' = w ∧ h' = h) from fun x => b ⟨x.1.symm, x.2.symm⟩)]
  · rw [if_neg a, if_neg (show ¬ (Val w' h' q ∧ Val w h p) from fun x => a ⟨x.2, x.1⟩)]
theorem cn_zero {p q : List Int} (e : p.length = q.length) : cn p q = 0 ↔ p = q := by
  constructor
  · intro h
    have h2 := sm_zero (f := fun i => if rd p i = rd q i then 0 else 1) (fun i _ => by show 0 ≤ (if rd p i = rd q i then (0 : Int) else 1); split <;> omega) h
    refine rd_ext e (fun i h0 h1 => ?_)
    have h3 : (if rd p i = rd q i then (0 : Int) else 1) = 0 := h2 i h0 h1
    by_cases c : rd p i = rd q i
    · exact c
    · rw [if_neg c] at h3
      omega
  · rintro rfl
    unfold cn
    have : sm p.length (fun i => if rd p i = rd p i then (0 : Int) else 1) = sm p.length (fun _ => 0) := sm_congr (fun i _ _ => if_pos rfl)
    rw [this, sm_const]
    simp

/-- A bitmap as it came in. -/
def Cam (b : S24) : Prop := (∀ z ∈ b.f2, 0 ≤ z) ∧ (b.f2.length : Int) ≤ 9223372036854775807
def bad15 (l : List S24) : Prop := ∃ i : Int, 0 ≤ i ∧ i < (l.length : Int) ∧ ¬ Val (rd_T24 l i).f0 (rd_T24 l i).f1 (rd_T24 l i).f2
def dfQ (a b : S24) : Int × Int := differR a.f0 a.f1 a.f2 b.f0 b.f1 b.f2
/-- How much is lost of the first n; none: sizes that are unlike. -/
def lsS (l : List S24) (g o : List Int) : Nat → Option Int
  | 0 => some 0
  | n + 1 => match lsS l g o n with
    | none => none
    | some s => if (dfQ (rd_T24 l (rd o (rd g n))) (rd_T24 l n)).2 = 0 then some (wrap64 (s + (dfQ (rd_T24 l (rd o (rd g n))) (rd_T24 l n)).1)) else none
theorem lsS_none {l : List S24} {g o : List Int} {n : Nat} (h : lsS l g o n = none) : ∀ m, lsS l g o (n + m) = none
  | 0 => h
  | m + 1 => by
    show lsS l g o ((n + m) + 1) = none
    unfold lsS
    rw [lsS_none h m]
theorem lsS_s {l : List S24} {g o : List Int} {n : Nat} {s : Int} (h : lsS l g o n = some s) : lsS l g o (n + 1) = if (dfQ (rd_T24 l (rd o (rd g n))) (rd_T24 l n)).2 = 0 then some (wrap64 (s + (dfQ (rd_T24 l (rd o (rd g n))) (rd_T24 l n)).1)) else none := by
  show (match lsS l g o n with | none => none | some s => _) = _
  rw [h]
def lsQ (l : List S24) (g o : List Int) : Int × Int := match lsS l g o l.length with
  | none => (0, 2)
  | some s => (s, 0)
theorem lsQ_bad {l : List S24} {g o : List Int} {n : Nat} (h : lsS l g o n = none) (hn : n ≤ l.length) : lsQ l g o = (0, 2) := by
  unfold lsQ
  have := lsS_none h (l.length - n)
  rw [show n + (l.length - n) = l.length by omega] at this
  rw [this]
def lossR (l : List S24) (g : List Int) (r : Int × Int) : Prop := (bad15 l → r = (0, 30)) ∧ (¬ bad15 l → r = if (hdQ g).2 = 0 ∧ g.length = l.length then lsQ l g (hdQ g).1 else (0, 2))
theorem lossR_eq {l : List S24} {g : List Int} {r s : Int × Int} (hr : lossR l g r) (hs : lossR l g s) : r = s := by
  by_cases b : bad15 l
  · rw [hr.1 b, hs.1 b]
  · rw [hr.2 b, hs.2 b]
theorem cam_at {l : List S24} (h : ∀ b ∈ l, Cam b) {i : Int} (i0 : 0 ≤ i) (i1 : i < (l.length : Int)) : Cam (rd_T24 l i) := by
  have h2 : i.toNat < l.length := by omega
  have e : rd_T24 l i = l[i.toNat] := by simp [rd_T24, List.getD, h2]
  rw [e]
  exact h _ (List.getElem_mem _)
theorem hdQ_ok {g : List Int} (h : (hdQ g).2 = 0) : hdS g g.length = some (hdQ g).1 := by
  unfold hdQ at h ⊢
  cases e : hdS g g.length with
  | none => rw [e] at h; exact absurd h (by decide)
  | some o => rfl

/-- The first place below n for which p is true; else n. -/
def fstN (p : Int → Bool) : Nat → Nat
  | 0 => 0
  | n + 1 => if fstN p n < n then fstN p n else if p n then n else n + 1
theorem fstN_ok (p : Int → Bool) : ∀ n, fstN p n ≤ n ∧ (fstN p n < n → p (fstN p n) = true) ∧ ∀ j : Nat, j < fstN p n → p j = false
  | 0 => ⟨Nat.le_refl _, fun h => absurd h (Nat.lt_irrefl 0), fun j h => absurd h (Nat.not_lt_zero j)⟩
  | n + 1 => by
    obtain ⟨a, b, c⟩ := fstN_ok p n
    unfold fstN
    by_cases e : fstN p n < n
    · rw [if_pos e]
      exact ⟨by omega, fun _ => b e, c⟩
    · rw [if_neg e]
      have e2 : fstN p n = n := by omega
      rw [e2] at c
      by_cases q : p n = true
      · rw [if_pos q]
        exact ⟨by omega, fun _ => q, c⟩
      · rw [if_neg q]
        refine ⟨Nat.le_refl _, fun h => absurd h (Nat.lt_irrefl _), fun j hj => ?_⟩
        by_cases z : j = n
        · subst z; simpa using q
        · exact c j (by omega)
theorem fstN_eq {p : Int → Bool} {n r : Nat} (h1 : r ≤ n) (h2 : r < n → p r = true) (h3 : ∀ j : Nat, j < r → p j = false) : r = fstN p n := by
  obtain ⟨a, b, c⟩ := fstN_ok p n
  rcases Nat.lt_trichotomy r (fstN p n) with h | h | h
  · have := c r h
    rw [h2 (by omega)] at this
    cases this
  · exact h
  · have := h3 _ h
    rw [b (by omega)] at this
    cases this
theorem fstN_congr {p q : Int → Bool} : ∀ {n : Nat}, (∀ j : Int, 0 ≤ j → j < n → p j = q j) → fstN p n = fstN q n
  | 0, _ => rfl
  | n + 1, h => by
    unfold fstN
    rw [fstN_congr (n := n) (fun j a b => h j a (by omega)), h n (by omega) (by omega)]
def near (l : List S24) (b : Int) (h i : Int) : Bool := decide ((dfQ (rd_T24 l h) (rd_T24 l i)).2 = 0) && decide ((dfQ (rd_T24 l h) (rd_T24 l i)).1 ≤ b)
/-- The groups of the first n: the places of the first ones, and the numbers. -/
def grS (l : List S24) (b : Int) : Nat → List Int × List Int
  | 0 => ([], [])
  | n + 1 => if fstN (fun j => near l b (rd (grS l b n).1 j) n) (grS l b n).1.length = (grS l b n).1.length then ((grS l b n).1 ++ [(n : Int)], (grS l b n).2 ++ [((grS l b n).1.length : Int)])
    else ((grS l b n).1, (grS l b n).2 ++ [(fstN (fun j => near l b (rd (grS l b n).1 j) n) (grS l b n).1.length : Int)])
theorem hdS_congr {g g' : List Int} : ∀ {n : Nat}, (∀ i : Int, 0 ≤ i → i < n → rd g i = rd g' i) → hdS g n = hdS g' n
  | 0, _ => rfl
  | n + 1, h => by
    unfold hdS
    rw [hdS_congr (n := n) (fun i a b => h i a (by omega)), h n (by omega) (by omega)]
theorem near_self {l : List S24} {b i : Int} (hb : 0 ≤ b) (nb : ¬ bad15 l) (i0 : 0 ≤ i) (i1 : i < (l.length : Int)) : near l b i i = true := by
  have v : Val (rd_T24 l i).f0 (rd_T24 l i).f1 (rd_T24 l i).f2 := Classical.not_not.mp (fun q => nb ⟨i, i0, i1, q⟩)
  have e : dfQ (rd_T24 l i) (rd_T24 l i) = (0, 0) := by
    unfold dfQ differR
    rw [if_pos ⟨v, v⟩, if_pos ⟨rfl, rfl⟩, (cn_zero rfl).mpr rfl]
  unfold near
  rw [e]
  simp [hb]
theorem grS_ok (l : List S24) (b : Int) (hb : 0 ≤ b) (nb : ¬ bad15 l) : ∀ n : Nat, n ≤ l.length → (grS l b n).2.length = n ∧ (grS l b n).1.length ≤ n ∧ hdS (grS l b n).2 n = some (grS l b n).1 ∧ ∀ i : Int, 0 ≤ i → i < n → near l b (rd (grS l b n).1 (rd (grS l b n).2 i)) i = true
  | 0, _ => ⟨rfl, Nat.le_refl _, rfl, fun i a c => by omega⟩
  | n + 1, hn => by
    obtain ⟨h1, h2, h3, h4⟩ := grS_ok l b hb nb n (by omega)
    obtain ⟨k1, k2, k3⟩ := hdS_ok _ _ _ h3
    obtain ⟨f1, f2, f3⟩ := fstN_ok (fun j => near l b (rd (grS l b n).1 j) n) (grS l b n).1.length
    unfold grS
    generalize hj : fstN (fun j => near l b (rd (grS l b n).1 j) n) (grS l b n).1.length = j at f1 f2 f3
    generalize (grS l b n).1 = o at *
    generalize (grS l b n).2 = g at *
    have ra : ∀ v i : Int, 0 ≤ i → i < n → rd (g ++ [v]) i = rd g i := fun v i a c => by rw [rd_append _ _ _ a, if_neg (by omega)]
    have rl : ∀ v : Int, rd (g ++ [v]) n = v := fun v => by rw [rd_append _ _ _ (by omega), if_pos (by omega)]
    have hs : ∀ v : Int, hdS (g ++ [v]) n = some o := fun v => by rw [hdS_congr (ra v), h3]
    by_cases e : j = o.length
    · rw [if_pos e]
      refine ⟨by rw [List.length_append, h1]; rfl, by rw [List.length_append]; simp; omega, ?_, fun i i0 i1 => ?_⟩
      · rw [hdS_s (hs _), rl, if_neg (by omega), if_pos rfl]
      · show near l b (rd (o ++ [(n : Int)]) (rd (g ++ [(o.length : Int)]) i)) i = true
        by_cases z : i = n
        · subst z
          rw [rl, rd_append _ _ _ (by omega), if_pos rfl]
          exact near_self hb nb (by omega) (by omega)
        · rw [ra _ i i0 (by omega)]
          have := k2 i i0 (by omega)
          rw [rd_append _ _ _ this.1, if_neg (by omega)]
          exact h4 i i0 (by omega)
    · rw [if_neg e]
      refine ⟨by rw [List.length_append, h1]; rfl, Nat.le_succ_of_le h2, ?_, fun i i0 i1 => ?_⟩
      · rw [hdS_s (hs _), rl, if_neg (by omega), if_neg (by omega)]
      · show near l b (rd o (rd (g ++ [(j : Int)]) i)) i = true
        by_cases z : i = n
        · subst z
          rw [rl]
          exact f2 (by omega)
        · rw [ra _ i i0 (by omega)]
          exact h4 i i0 (by omega)
def grR (l : List S24) (b : Int) (r : List Int × Int) : Prop := (bad15 l → r = ([], 30)) ∧ (¬ bad15 l → r = if b < 0 then ([], 2) else ((grS l b l.length).2, 0))
theorem grR_eq {l : List S24} {b : Int} {r s : List Int × Int} (hr : grR l b r) (hs : grR l b s) : r = s := by
  by_cases q : bad15 l
  · rw [hr.1 q, hs.1 q]
  · rw [hr.2 q, hs.2 q]
theorem rdT24_append (l : List S24) (v : S24) (j : Int) (hj : 0 ≤ j) : rd_T24 (l ++ [v]) j = if j = (l.length : Int) then v else rd_T24 l j := by
  unfold rd_T24
  by_cases e : j = (l.length : Int)
  · subst e
    simp [List.getD]
  · rw [if_neg e]
    by_cases h : j.toNat < l.length
    · simp [List.getD, List.getElem?_append_left h]
    · have h2 : l.length < j.toNat := by omega
      simp only [List.getD]
      rw [List.getElem?_eq_none (by simp; omega), List.getElem?_eq_none (by omega)]
/-- What is lost of groups: some number, and nothing with 0. -/
theorem lsS_grp {l : List S24} {b : Int} {o g : List Int} (hn : ∀ i : Int, 0 ≤ i → i < (l.length : Int) → near l b (rd o (rd g i)) i = true) : ∀ n : Nat, n ≤ l.length → ∃ s, lsS l g o n = some s ∧ (b = 0 → s = 0)
  | 0, _ => ⟨0, rfl, fun _ => rfl⟩
  | n + 1, h => by
    obtain ⟨s, e, z⟩ := lsS_grp hn n (by omega)
    have := hn n (by omega) (by omega)
    unfold near at this
    obtain ⟨q1, q2⟩ := Bool.and_eq_true_iff.mp this
    have q1 := of_decide_eq_true q1
    have q2 := of_decide_eq_true q2
    refine ⟨_, by rw [lsS_s e, if_pos q1], fun hb => ?_⟩
    have q3 : 0 ≤ (dfQ (rd_T24 l (rd o (rd g n))) (rd_T24 l n)).1 := by
      unfold dfQ differR
      split
      · split
        · exact (sm_bound (c := 1) (by omega) (fun i _ _ => by show 0 ≤ (if _ then (0 : Int) else 1) ∧ (if _ then (0 : Int) else 1) ≤ 1; split <;> omega)).1
        · exact Int.le_refl _
      · exact Int.le_refl _
    rw [z hb, show (dfQ (rd_T24 l (rd o (rd g n))) (rd_T24 l n)).1 = 0 by omega]
    exact w64 (by omega) (by omega)

theorem fits_is (w h : Int) : bitmap_fits.f w h = some (decide (Sid w h)) := by
  unfold bitmap_fits.f
  by_cases h1 : 0 ≤ w ∧ 0 ≤ h ∧ w ≤ 200 ∧ h ≤ 200
  · obtain ⟨a, b, c, d⟩ := h1
    have := sid_mul a b c d
    rw [if_pos (by omega), if_pos (by omega), if_pos c, if_pos d, w64 (by omega) (by omega)]
    simp [Sid, a, b, c, d]
  · have h2 : ¬ Sid w h := fun s => h1 ⟨s.1, s.2.1, s.2.2.1, s.2.2.2.1⟩
    simp only [h2, decide_false]
    split
    · split
      · split
        · split
          · omega
          · rfl
        · rfl
      · rfl
    · rfl

theorem Valid_l0 (p : List Int) (hl : (p.length : Int) ≤ 9223372036854775807) : EvP (fun k => bitmap_Valid.l0 k p (p.length : Int) 0) (· = decide (∀ x ∈ p, x ≤ 1)) := by
  refine EvP.up (L := fun k i (_ : Unit) => bitmap_Valid.l0 k p (p.length : Int) i) (fun i _ => 0 ≤ i ∧ ∀ j, 0 ≤ j → j < i → rd p j ≤ 1) p.length ?_ 0 () (by omega) ⟨by omega, fun j _ _ => by omega⟩
  intro i _ ⟨h0, hb⟩ hi ih
  refine EvP.step (fun k => by rw [bitmap_Valid.l0]) ?_
  refine EvP.ite (fun h1 => ?_) (fun h1 => ?_)
  · refine EvP.pos h0 (EvP.pos h1 (EvP.ite (fun h2 => EvP.ret ?_) (fun h2 => ?_)))
    · symm
      rw [decide_eq_false_iff_not]
      intro hall
      have := hall _ (rd_mem h0 h1)
      omega
    · rw [w64 (by omega) (by omega)]
      refine ih () h1 ⟨by omega, fun j hj hj' => ?_⟩
      rcases Int.lt_or_le j i with hji | hji
      · exact hb j hj hji
      · have : j = i := by omega
        subst this
        omega
  · refine EvP.ret ?_
    symm
    rw [decide_eq_true_iff]
    intro x hx
    obtain ⟨n, hn, rfl⟩ := List.getElem_of_mem hx
    have := hb (n : Int) (by omega) (by omega)
    rwa [rd_get p n hn] at this
theorem Valid_is (w h : Int) (p : List Int) (hp : ∀ x ∈ p, 0 ≤ x) (hl : (p.length : Int) ≤ 9223372036854775807) : EvP (fun k => bitmap_Valid.f k w h p) (· = decide (Val w h p)) := by
  unfold bitmap_Valid.f
  refine EvP.bindv (fits_is w h) ?_
  refine EvP.ite (fun h1 => ?_) (fun h1 => ?_)
  · rw [decide_eq_true_iff] at h1
    have hm := sid_mul h1.1 h1.2.1 h1.2.2.1 h1.2.2.2.1
    rw [w64 (by omega) (by omega)]
    refine EvP.step (fun k => by rw [bitmap_Valid.j0]) ?_
    refine EvP.ite (fun h2 => EvP.ret ?_) (fun h2 => ?_)
    · symm
      rw [decide_eq_false_iff_not]
      intro v
      simp [v.2.2.2.2.2.1] at h2
    · refine (Valid_l0 p hl).mono ?_
      rintro r rfl
      have e : (p.length : Int) = w * h := by simpa using h2
      apply decide_eq_decide.mpr
      constructor
      · intro hall
        exact ⟨h1.1, h1.2.1, h1.2.2.1, h1.2.2.2.1, h1.2.2.2.2, e, fun x hx => ⟨hp x hx, hall x hx⟩⟩
      · intro v x hx
        exact (v.2.2.2.2.2.2 x hx).2
  · refine EvP.step (fun k => by rw [bitmap_Valid.j0]) ?_
    refine EvP.pos rfl (EvP.ret ?_)
    symm
    rw [decide_eq_false_iff_not]
    intro v
    exact h1 (decide_eq_true v.sid)

theorem Differ_l0 (w h : Int) (p : List Int) (w' h' : Int) (q : List Int) (e : p.length = q.length) (hl : (p.length : Int) ≤ 1000000000) : EvP (fun k => bitmap_Differ.l0 k 0 (p.length : Int) 0 w h p w' h' q) (· = (cn p q, 0)) := by
  refine EvP.up (L := fun k i (s : Int) => bitmap_Differ.l0 k s (p.length : Int) i w h p w' h' q) (fun i s => 0 ≤ i ∧ s = sm i.toNat (fun j => if rd p j = rd q j then 0 else 1)) p.length ?_ 0 0 (by omega) ⟨by omega, rfl⟩
  intro i s ⟨h0, hs⟩ hi ih
  have hsm := sm_bound (n := i.toNat) (f := fun j => if rd p j = rd q j then (0 : Int) else 1) (c := 1) (by omega) (fun j a b => by show 0 ≤ (if rd p j = rd q j then (0 : Int) else 1) ∧ (if rd p j = rd q j then (0 : Int) else 1) ≤ 1; split <;> omega)
  refine EvP.step (fun k => by rw [bitmap_Differ.l0]) ?_
  refine EvP.ite (fun h1 => ?_) (fun h1 => ?_)
  · refine EvP.pos h0 (EvP.pos h1 (EvP.pos (by omega) ?_))
    have es : sm (i + 1).toNat (fun j => if rd p j = rd q j then (0 : Int) else 1) = sm i.toNat (fun j => if rd p j = rd q j then (0 : Int) else 1) + (if rd p i = rd q i then 0 else 1) := by
      rw [show (i + 1).toNat = i.toNat + 1 by omega]
      show sm i.toNat _ + (if rd p (i.toNat : Int) = rd q (i.toNat : Int) then (0 : Int) else 1) = _
      rw [show ((i.toNat : Nat) : Int) = i by omega]
    refine EvP.ite (fun h2 => ?_) (fun h2 => ?_)
    · rw [w64 (x := i + 1) (by omega) (by omega)]
      refine ih _ h1 ⟨by omega, ?_⟩
      rw [es, if_pos h2, hs]
      omega
    · rw [w64 (x := i + 1) (by omega) (by omega), w64 (x := s + 1) (by omega) (by omega)]
      refine ih _ h1 ⟨by omega, ?_⟩
      rw [es, if_neg h2, hs]
  · refine EvP.ret ?_
    have : i.toNat = p.length := by omega
    rw [hs, this]
    rfl
theorem Differ_is (w h : Int) (p : List Int) (w' h' : Int) (q : List Int) (hp : ∀ x ∈ p, 0 ≤ x) (hl : (p.length : Int) ≤ 9223372036854775807) (hp' : ∀ x ∈ q, 0 ≤ x) (hl' : (q.length : Int) ≤ 9223372036854775807) :
    EvP (fun k => bitmap_Differ.f k w h p w' h' q) (· = differR w h p w' h' q) := by
  unfold bitmap_Differ.f differR
  refine EvP.bind (Valid_is w h p hp hl) ?_
  rintro _ rfl
  refine EvP.ite (fun h1 => ?_) (fun h1 => ?_)
  · refine EvP.bind (Valid_is w' h' q hp' hl') ?_
    rintro _ rfl
    have v : Val w h p := by simpa using h1
    refine EvP.step (fun k => by rw [bitmap_Differ.j0]) ?_
    refine EvP.ite (fun h2 => EvP.ret ?_) (fun h2 => ?_)
    · rw [if_neg (fun x : Val w h p ∧ Val w' h' q => by simp [x.2] at h2)]
    · have v' : Val w' h' q := by simpa using h2
      rw [if_pos (show Val w h p ∧ Val w' h' q from ⟨v, v'⟩)]
      refine EvP.ite (fun a => ?_) (fun a => EvP.ret (by rw [if_neg (fun x : w = w' ∧ h = h' => a x.1)]))
      refine EvP.ite (fun b => ?_) (fun b => EvP.ret (by rw [if_neg (fun x : w = w' ∧ h = h' => b x.2)]))
      rw [if_pos (show w = w' ∧ h = h' from ⟨a, b⟩)]
      have e1 := v.2.2.2.2.2.1
      have e2 := v'.2.2.2.2.2.1
      rw [← a, ← b] at e2
      have e3 := v.2.2.2.2.1
      exact Differ_l0 w h p w' h' q (by omega) (by omega)
  · have v : ¬ Val w h p := by simpa using h1
    refine EvP.step (fun k => by rw [bitmap_Differ.j0]) ?_
    refine EvP.pos rfl (EvP.ret ?_)
    rw [if_neg (fun x : Val w h p ∧ Val w' h' q => v x.1)]

theorem GIndex_is (l : List S24) (hl : (l.length : Int) ≤ 9223372036854775807) (hc : ∀ b ∈ l, Cam b) : EvP (fun k => slices_IndexFunc_61.f k l) (fun r => 0 ≤ r ↔ bad15 l) := by
  unfold slices_IndexFunc_61.f
  refine EvP.up (L := fun k i (_ : Unit) => slices_IndexFunc_61.l0 k l (l.length : Int) i) (fun i _ => 0 ≤ i ∧ ∀ j, 0 ≤ j → j < i → Val (rd_T24 l j).f0 (rd_T24 l j).f1 (rd_T24 l j).f2) l.length ?_ 0 () (by omega) ⟨by omega, fun j _ _ => by omega⟩
  intro i s ⟨i0, hs⟩ hi ih
  refine EvP.step (fun k => by rw [slices_IndexFunc_61.l0]) ?_
  refine EvP.ite (fun i1 => ?_) (fun i1 => ?_)
  · have ci := cam_at hc i0 i1
    have e : EvP (fun k => shape_Group_1.f k (rd_T24 l i).f0 (rd_T24 l i).f1 (rd_T24 l i).f2) (· = !decide (Val (rd_T24 l i).f0 (rd_T24 l i).f1 (rd_T24 l i).f2)) := by
      unfold shape_Group_1.f
      refine EvP.bind (Valid_is _ _ _ ci.1 ci.2) ?_
      rintro _ rfl
      exact EvP.ret rfl
    refine EvP.pos i0 (EvP.pos i1 (EvP.bind e ?_))
    rintro _ rfl
    refine EvP.ite (fun c => EvP.ret ?_) (fun c => ?_)
    · have c : ¬ Val (rd_T24 l i).f0 (rd_T24 l i).f1 (rd_T24 l i).f2 := by simpa using c
      exact ⟨fun _ => ⟨i, i0, i1, c⟩, fun _ => i0⟩
    · have c : Val (rd_T24 l i).f0 (rd_T24 l i).f1 (rd_T24 l i).f2 := by simpa using c
      rw [w64 (by omega) (by omega)]
      refine ih () i1 ⟨by omega, fun j a b => ?_⟩
      by_cases z : j = i
      · subst z; exact c
      · exact hs j a (by omega)
  · refine EvP.ret ⟨fun h => by omega, fun ⟨j, a, b, c⟩ => absurd (hs j a (by omega)) c⟩
theorem GFind_is (l : List S24) (o : List Int) (hs : List S24) (b i : Int) (hl : (l.length : Int) ≤ 1000) (hc : ∀ b ∈ l, Cam b) (i0 : 0 ≤ i) (i1 : i < (l.length : Int)) (ho : ∀ j : Int, 0 ≤ j → j < (o.length : Int) → 0 ≤ rd o j ∧ rd o j < (l.length : Int)) (h1 : hs.length = o.length) (h2 : ∀ j : Int, 0 ≤ j → j < (o.length : Int) → rd_T24 hs j = rd_T24 l (rd o j)) (h3 : (o.length : Int) ≤ 1000) :
    EvP (fun k => slices_IndexFunc_63.f k hs (rd_T24 l i).f0 (rd_T24 l i).f1 (rd_T24 l i).f2 b) (fun r => r = if fstN (fun j => near l b (rd o j) i) o.length = o.length then -1 else (fstN (fun j => near l b (rd o j) i) o.length : Int)) := by
  unfold slices_IndexFunc_63.f
  obtain ⟨f1, f2, f3⟩ := fstN_ok (fun j => near l b (rd o j) i) o.length
  refine EvP.up (L := fun k x (_ : Unit) => slices_IndexFunc_63.l0 k hs (hs.length : Int) x (rd_T24 l i).f0 (rd_T24 l i).f1 (rd_T24 l i).f2 b) (fun x _ => 0 ≤ x ∧ ∀ j : Nat, (j : Int) < x → near l b (rd o j) i = false) hs.length ?_ 0 () (by omega) ⟨by omega, fun j hj => by omega⟩
  intro x s ⟨x0, hx⟩ hi ih
  refine EvP.step (fun k => by rw [slices_IndexFunc_63.l0]) ?_
  refine EvP.ite (fun x1 => ?_) (fun x1 => EvP.ret ?_)
  · refine EvP.pos x0 (EvP.pos x1 ?_)
    have r := ho x x0 (by omega)
    have c1 := cam_at hc r.1 r.2
    have c2 := cam_at hc i0 i1
    have e : EvP (fun k => shape_Group_2.f k (rd_T24 hs x).f0 (rd_T24 hs x).f1 (rd_T24 hs x).f2 (rd_T24 l i).f0 (rd_T24 l i).f1 (rd_T24 l i).f2 b) (· = near l b (rd o x) i) := by
      unfold shape_Group_2.f
      rw [h2 x x0 (by omega)]
      refine EvP.bind (Differ_is _ _ _ _ _ _ c1.1 c1.2 c2.1 c2.2) ?_
      rintro _ rfl
      show EvP (fun _ => if (dfQ (rd_T24 l (rd o x)) (rd_T24 l i)).2 = 0 then some (decide ((dfQ (rd_T24 l (rd o x)) (rd_T24 l i)).1 ≤ b)) else some false) _
      unfold near
      refine EvP.ite (fun q => EvP.ret ?_) (fun q => EvP.ret ?_)
      · rw [decide_eq_true q, Bool.true_and]
      · rw [decide_eq_false q, Bool.false_and]
    refine EvP.bind e ?_
    rintro _ rfl
    refine EvP.ite (fun c => EvP.ret ?_) (fun c => ?_)
    · have : x.toNat = fstN (fun j => near l b (rd o j) i) o.length := fstN_eq (by omega) (fun _ => by
        show near l b (rd o (x.toNat : Int)) i = true
        rw [show ((x.toNat : Nat) : Int) = x by omega]; exact c) (fun j hj => hx j (by omega))
      rw [← this, if_neg (by omega)]
      omega
    · rw [w64 (x := x + 1) (by omega) (by omega)]
      refine ih () x1 ⟨by omega, fun j hj => ?_⟩
      by_cases z : (j : Int) = x
      · rw [z]; simpa using c
      · exact hx j (by omega)
  · have : o.length = fstN (fun j => near l b (rd o j) i) o.length := fstN_eq (Nat.le_refl _) (fun h => absurd h (Nat.lt_irrefl _)) (fun j hj => hx j (by omega))
    rw [if_pos this.symm]
theorem Group_is (l : List S24) (b : Int) (hc : ∀ b ∈ l, Cam b) (hl : (l.length : Int) ≤ 1000) : EvP (fun k => shape_Group.f k l b) (grR l b) := by
  unfold shape_Group.f
  have hcon : EvP (fun k => slices_ContainsFunc_61.f k l) (fun r => r = true ↔ bad15 l) := by
    unfold slices_ContainsFunc_61.f
    refine EvP.bind (GIndex_is l (by omega) hc) (fun r hr => EvP.ret ?_)
    rw [decide_eq_true_iff]
    exact hr
  refine EvP.bind hcon (fun r hr => ?_)
  refine EvP.ite (fun c => EvP.ret ⟨fun _ => rfl, fun z => absurd (hr.mp c) z⟩) (fun c => ?_)
  have nb : ¬ bad15 l := fun z => c (hr.mpr z)
  refine EvP.ite (fun q => EvP.ret ⟨fun z => absurd z nb, fun _ => by rw [if_pos q]⟩) (fun q => ?_)
  have hb : 0 ≤ b := by omega
  refine EvP.up (L := fun k i (s : List S24 × List Int) => shape_Group.l0 k s.1 s.2 l (l.length : Int) i b) (fun i s => 0 ≤ i ∧ s.2 = (grS l b i.toNat).2 ∧ s.1.length = (grS l b i.toNat).1.length ∧ ∀ j : Int, 0 ≤ j → j < ((grS l b i.toNat).1.length : Int) → rd_T24 s.1 j = rd_T24 l (rd (grS l b i.toNat).1 j)) l.length ?_ 0 ([], []) (by omega) ⟨by omega, rfl, rfl, fun j a c => by simp [grS] at c; omega⟩
  rintro i ⟨hs, g⟩ ⟨i0, h1, h2, h3⟩ hi ih
  simp only at h1 h2 h3
  refine EvP.step (fun k => by simp only; rw [shape_Group.l0]) ?_
  obtain ⟨k1, k2, k3, k4⟩ := grS_ok l b hb nb i.toNat (by omega)
  obtain ⟨m1, m2, m3⟩ := hdS_ok _ _ _ k3
  refine EvP.ite (fun i1 => ?_) (fun i1 => EvP.ret ?_)
  · refine EvP.pos i0 (EvP.pos i1 ?_)
    refine EvP.bind (GFind_is l (grS l b i.toNat).1 hs b i hl hc i0 i1 (fun j a c => by have := m3 j a c; omega) h2 h3 (by omega)) ?_
    rintro _ rfl
    have es : grS l b (i.toNat + 1) = if fstN (fun j => near l b (rd (grS l b i.toNat).1 j) i) (grS l b i.toNat).1.length = (grS l b i.toNat).1.length then ((grS l b i.toNat).1 ++ [i], (grS l b i.toNat).2 ++ [((grS l b i.toNat).1.length : Int)])
        else ((grS l b i.toNat).1, (grS l b i.toNat).2 ++ [(fstN (fun j => near l b (rd (grS l b i.toNat).1 j) i) (grS l b i.toNat).1.length : Int)]) := by
      have ei : ((i.toNat : Nat) : Int) = i := by omega
      show (if fstN (fun j => near l b (rd (grS l b i.toNat).1 j) (i.toNat : Int)) _ = _ then _ else _) = _
      rw [ei]
    have hg : (g.length : Int) ≤ 1000 := by rw [h1, k1]; omega
    rw [w64 (x := i + 1) (by omega) (by omega)]
    by_cases z : fstN (fun j => near l b (rd (grS l b i.toNat).1 j) i) (grS l b i.toNat).1.length = (grS l b i.toNat).1.length
    · rw [if_pos z] at es
      rw [if_pos z]
      refine EvP.pos (by omega) (EvP.pos (by omega) (EvP.pos (by omega) (ih (hs ++ [rd_T24 l i], g ++ [(hs.length : Int)]) i1 ?_)))
      rw [show (i + 1).toNat = i.toNat + 1 by omega, es]
      refine ⟨by omega, by simp only; rw [h1, h2], by simp only; rw [List.length_append, List.length_append, h2]; rfl, fun j a c => ?_⟩
      simp only at c ⊢
      rw [List.length_append] at c
      rw [rdT24_append _ _ _ a, rd_append _ _ _ a, h2]
      by_cases y : j = ((grS l b i.toNat).1.length : Int)
      · rw [if_pos y, if_pos y]
      · rw [if_neg y, if_neg y]
        exact h3 j a (by simp at c; omega)
    · rw [if_neg z] at es
      rw [if_neg z]
      refine EvP.neg (by omega) (EvP.pos (by omega) (ih (hs, g ++ [(fstN (fun j => near l b (rd (grS l b i.toNat).1 j) i) (grS l b i.toNat).1.length : Int)]) i1 ?_))
      rw [show (i + 1).toNat = i.toNat + 1 by omega, es]
      exact ⟨by omega, by simp only; rw [h1], h2, h3⟩
  · refine ⟨fun z => absurd z nb, fun _ => ?_⟩
    rw [if_neg q, h1, show i.toNat = l.length by omega]

theorem Sides_is (w h : Int) : incunableref05_Sides.f w h = some (decide (Sid w h)) := by
  unfold incunableref05_Sides.f
  by_cases h1 : 0 ≤ w ∧ 0 ≤ h ∧ w ≤ 200 ∧ h ≤ 200
  · obtain ⟨a, b, c, d⟩ := h1
    have := sid_mul a b c d
    rw [if_pos (by omega), if_pos (by omega), if_pos c, if_pos d, w64 (by omega) (by omega)]
    simp [Sid, a, b, c, d]
  · have h2 : ¬ Sid w h := fun s => h1 ⟨s.1, s.2.1, s.2.2.1, s.2.2.2.1⟩
    simp only [h2, decide_false]
    split
    · split
      · split
        · split
          · omega
          · rfl
        · rfl
      · rfl
    · rfl

theorem refValid_l0 (w h : Int) (p : List Int) (hl : (p.length : Int) ≤ 9223372036854775807) : EvP (fun k => incunableref05_Valid.l0 k 0 w h p) (· = decide (∀ x ∈ p, x ≤ 1)) := by
  refine EvP.up (L := fun k i (_ : Unit) => incunableref05_Valid.l0 k i w h p) (fun i _ => 0 ≤ i ∧ ∀ j, 0 ≤ j → j < i → rd p j ≤ 1) p.length ?_ 0 () (by omega) ⟨by omega, fun j _ _ => by omega⟩
  intro i _ ⟨h0, hb⟩ hi ih
  refine EvP.step (fun k => by rw [incunableref05_Valid.l0]) ?_
  refine EvP.ite (fun h1 => ?_) (fun h1 => ?_)
  · refine EvP.pos h0 (EvP.ite (fun h2 => EvP.ret ?_) (fun h2 => ?_))
    · symm
      rw [decide_eq_false_iff_not]
      intro hall
      have := hall _ (rd_mem h0 h1)
      omega
    · rw [w64 (by omega) (by omega)]
      refine ih () h1 ⟨by omega, fun j hj hj' => ?_⟩
      rcases Int.lt_or_le j i with hji | hji
      · exact hb j hj hji
      · have : j = i := by omega
        subst this
        omega
  · refine EvP.ret ?_
    symm
    rw [decide_eq_true_iff]
    intro x hx
    obtain ⟨n, hn, rfl⟩ := List.getElem_of_mem hx
    have := hb (n : Int) (by omega) (by omega)
    rwa [rd_get p n hn] at this
theorem refValid_is (w h : Int) (p : List Int) (hp : ∀ x ∈ p, 0 ≤ x) (hl : (p.length : Int) ≤ 9223372036854775807) : EvP (fun k => incunableref05_Valid.f k w h p) (· = decide (Val w h p)) := by
  unfold incunableref05_Valid.f
  refine EvP.bindv (Sides_is w h) ?_
  refine EvP.ite (fun h1 => ?_) (fun h1 => ?_)
  · rw [decide_eq_true_iff] at h1
    have hm := sid_mul h1.1 h1.2.1 h1.2.2.1 h1.2.2.2.1
    rw [w64 (by omega) (by omega)]
    refine EvP.step (fun k => by rw [incunableref05_Valid.j0]) ?_
    refine EvP.ite (fun h2 => EvP.ret ?_) (fun h2 => ?_)
    · symm
      rw [decide_eq_false_iff_not]
      intro v
      simp [v.2.2.2.2.2.1] at h2
    · refine (refValid_l0 w h p hl).mono ?_
      rintro r rfl
      have e : (p.length : Int) = w * h := by simpa using h2
      apply decide_eq_decide.mpr
      constructor
      · intro hall
        exact ⟨h1.1, h1.2.1, h1.2.2.1, h1.2.2.2.1, h1.2.2.2.2, e, fun x hx => ⟨hp x hx, hall x hx⟩⟩
      · intro v x hx
        exact (v.2.2.2.2.2.2 x hx).2
  · refine EvP.step (fun k => by rw [incunableref05_Valid.j0]) ?_
    refine EvP.pos rfl (EvP.ret ?_)
    symm
    rw [decide_eq_false_iff_not]
    intro v
    exact h1 (decide_eq_true v.sid)

theorem refDiffer_l0 (w h : Int) (p : List Int) (w' h' : Int) (q : List Int) (e : p.length = q.length) (hl : (p.length : Int) ≤ 1000000000) : EvP (fun k => incunableref05_Differ.l0 k 0 0 w h p w' h' q) (· = (cn p q, 0)) := by
  refine EvP.up (L := fun k i (s : Int) => incunableref05_Differ.l0 k s i w h p w' h' q) (fun i s => 0 ≤ i ∧ s = sm i.toNat (fun j => if rd p j = rd q j then 0 else 1)) p.length ?_ 0 0 (by omega) ⟨by omega, rfl⟩
  intro i s ⟨h0, hs⟩ hi ih
  have hsm := sm_bound (n := i.toNat) (f := fun j => if rd p j = rd q j then (0 : Int) else 1) (c := 1) (by omega) (fun j a b => by show 0 ≤ (if rd p j = rd q j then (0 : Int) else 1) ∧ (if rd p j = rd q j then (0 : Int) else 1) ≤ 1; split <;> omega)
  refine EvP.step (fun k => by rw [incunableref05_Differ.l0]) ?_
  refine EvP.ite (fun h1 => ?_) (fun h1 => ?_)
  · refine EvP.pos h0 (EvP.pos (by omega) ?_)
    have es : sm (i + 1).toNat (fun j => if rd p j = rd q j then (0 : Int) else 1) = sm i.toNat (fun j => if rd p j = rd q j then (0 : Int) else 1) + (if rd p i = rd q i then 0 else 1) := by
      rw [show (i + 1).toNat = i.toNat + 1 by omega]
      show sm i.toNat _ + (if rd p (i.toNat : Int) = rd q (i.toNat : Int) then (0 : Int) else 1) = _
      rw [show ((i.toNat : Nat) : Int) = i by omega]
    refine EvP.ite (fun h2 => ?_) (fun h2 => ?_)
    · rw [w64 (x := i + 1) (by omega) (by omega)]
      refine ih _ h1 ⟨by omega, ?_⟩
      rw [es, if_pos h2, hs]
      omega
    · rw [w64 (x := i + 1) (by omega) (by omega), w64 (x := s + 1) (by omega) (by omega)]
      refine ih _ h1 ⟨by omega, ?_⟩
      rw [es, if_neg h2, hs]
  · refine EvP.ret ?_
    have : i.toNat = p.length := by omega
    rw [hs, this]
    rfl
theorem refDiffer_is (w h : Int) (p : List Int) (w' h' : Int) (q : List Int) (hp : ∀ x ∈ p, 0 ≤ x) (hl : (p.length : Int) ≤ 9223372036854775807) (hp' : ∀ x ∈ q, 0 ≤ x) (hl' : (q.length : Int) ≤ 9223372036854775807) :
    EvP (fun k => incunableref05_Differ.f k w h p w' h' q) (· = differR w h p w' h' q) := by
  unfold incunableref05_Differ.f differR
  refine EvP.bind (refValid_is w h p hp hl) ?_
  rintro _ rfl
  refine EvP.ite (fun h1 => ?_) (fun h1 => ?_)
  · refine EvP.bind (refValid_is w' h' q hp' hl') ?_
    rintro _ rfl
    have v : Val w h p := by simpa using h1
    refine EvP.step (fun k => by rw [incunableref05_Differ.j0]) ?_
    refine EvP.ite (fun h2 => EvP.ret ?_) (fun h2 => ?_)
    · rw [if_neg (fun x : Val w h p ∧ Val w' h' q => by simp [x.2] at h2)]
    · have v' : Val w' h' q := by simpa using h2
      rw [if_pos (show Val w h p ∧ Val w' h' q from ⟨v, v'⟩)]
      have e1 := v.2.2.2.2.2.1
      have e2 := v'.2.2.2.2.2.1
      have e3 := v.2.2.2.2.1
      refine EvP.ite (fun a => ?_) (fun a => ?_)
      · refine EvP.step (fun k => by rw [incunableref05_Differ.j1]) ?_
        refine EvP.ite (fun b => EvP.ret ?_) (fun b => ?_)
        · have b : ¬ h = h' := by simpa using b
          rw [if_neg (fun x : w = w' ∧ h = h' => b x.2)]
        · have b : h = h' := by simpa using b
          rw [if_pos (show w = w' ∧ h = h' from ⟨a, b⟩)]
          rw [← a, ← b] at e2
          exact refDiffer_l0 w h p w' h' q (by omega) (by omega)
      · refine EvP.step (fun k => by rw [incunableref05_Differ.j1]) ?_
        refine EvP.pos rfl (EvP.ret ?_)
        rw [if_neg (fun x : w = w' ∧ h = h' => a x.1)]
  · have v : ¬ Val w h p := by simpa using h1
    refine EvP.step (fun k => by rw [incunableref05_Differ.j0]) ?_
    refine EvP.pos rfl (EvP.ret ?_)
    rw [if_neg (fun x : Val w h p ∧ Val w' h' q => v x.1)]

theorem refGroup_l1 (l : List S24) (b : Int) (hc : ∀ b ∈ l, Cam b) (hl : (l.length : Int) ≤ 1000) (nb : ¬ bad15 l) (hb : 0 ≤ b) : EvP (fun k => incunableref15_Group.l1 k l b [] [] 0) (· = ((grS l b l.length).2, 0)) := by
  refine EvP.up (L := fun k i (s : List Int × List Int) => incunableref15_Group.l1 k l b s.1 s.2 i) (fun i s => 0 ≤ i ∧ s = grS l b i.toNat) l.length ?_ 0 ([], []) (by omega) ⟨by omega, rfl⟩
  rintro i _ ⟨i0, rfl⟩ hi ih
  refine EvP.step (fun k => by rw [incunableref15_Group.l1]) ?_
  obtain ⟨k1, k2, k3, k4⟩ := grS_ok l b hb nb i.toNat (by omega)
  obtain ⟨m1, m2, m3⟩ := hdS_ok _ _ _ k3
  refine EvP.ite (fun i1 => ?_) (fun i1 => EvP.ret ?_)
  · have es : grS l b (i.toNat + 1) = if fstN (fun j => near l b (rd (grS l b i.toNat).1 j) i) (grS l b i.toNat).1.length = (grS l b i.toNat).1.length then ((grS l b i.toNat).1 ++ [i], (grS l b i.toNat).2 ++ [((grS l b i.toNat).1.length : Int)])
        else ((grS l b i.toNat).1, (grS l b i.toNat).2 ++ [(fstN (fun j => near l b (rd (grS l b i.toNat).1 j) i) (grS l b i.toNat).1.length : Int)]) := by
      have ei : ((i.toNat : Nat) : Int) = i := by omega
      show (if fstN (fun j => near l b (rd (grS l b i.toNat).1 j) (i.toNat : Int)) _ = _ then _ else _) = _
      rw [ei]
    have ih2 := ih (grS l b (i + 1).toNat) i1 ⟨by omega, rfl⟩
    rw [show (i + 1).toNat = i.toNat + 1 by omega, es] at ih2
    obtain ⟨f1, f2, f3⟩ := fstN_ok (fun j => near l b (rd (grS l b i.toNat).1 j) i) (grS l b i.toNat).1.length
    generalize (grS l b i.toNat).1 = o at *
    generalize (grS l b i.toNat).2 = g at *
    rw [w64 (x := (o.length : Int) - 1) (by omega) (by omega)]
    refine EvP.loop (L := fun k (s : Int × Int) => incunableref15_Group.l2 k l b o g i s.1 s.2) (fun s => -1 ≤ s.2 ∧ s.2 < (o.length : Int) ∧ (∀ j : Int, s.2 < j → j < s.1 → near l b (rd o j) i = false) ∧ s.2 < s.1 ∧ s.1 ≤ (o.length : Int) ∧ (s.1 < (o.length : Int) → near l b (rd o s.1) i = true)) (fun s => (s.2 + 1).toNat) ?_ ((o.length : Int), (o.length : Int) - 1) ⟨by simp only; omega, by simp only; omega, fun j a c => by simp only at a c; omega, by simp only; omega, by simp only; omega, fun h => by simp only at h; omega⟩
    rintro ⟨x, y⟩ ⟨a1, a2, a3, a4, a5, a6⟩ ih3
    simp only at a1 a2 a3 a4 a5 a6
    refine EvP.step (fun k => by simp only; rw [incunableref15_Group.l2]) ?_
    refine EvP.ite (fun y0 => ?_) (fun y0 => ?_)
    · have r := m3 y y0 a2
      have c1 := cam_at hc r.1 (show rd o y < (l.length : Int) by omega)
      have c2 := cam_at hc i0 i1
      refine EvP.pos y0 (EvP.pos a2 (EvP.pos r.1 (EvP.pos (by omega) (EvP.pos i0 (EvP.pos i1 ?_)))))
      refine EvP.bind (refDiffer_is _ _ _ _ _ _ c1.1 c1.2 c2.1 c2.2) ?_
      rintro _ rfl
      show EvP (fun k => if (dfQ (rd_T24 l (rd o y)) (rd_T24 l i)).2 = 0 then (if (dfQ (rd_T24 l (rd o y)) (rd_T24 l i)).1 ≤ b then _ else _) else _) _
      rw [w64 (x := y - 1) (by omega) (by omega)]
      have no : near l b (rd o y) i = false → EvP (fun k => incunableref15_Group.l2 k l b o g i x (y - 1)) (· = ((grS l b l.length).2, 0)) := fun hn => ih3 (x, y - 1) ⟨by simp only; omega, by simp only; omega, fun j u v => by
        simp only at u v
        by_cases z : j = y
        · rw [z]; exact hn
        · exact a3 j (by omega) v, by simp only; omega, a5, a6⟩ (by simp only; omega)
      refine EvP.ite (fun q1 => EvP.ite (fun q2 => ?_) (fun q2 => no ?_)) (fun q1 => no ?_)
      · refine ih3 (y, y - 1) ⟨by simp only; omega, by simp only; omega, fun j u v => by simp only at u v; omega, by simp only; omega, by simp only; omega, fun _ => ?_⟩ (by simp only; omega)
        simp only
        unfold near
        rw [decide_eq_true q1, decide_eq_true q2]
        rfl
      · unfold near
        rw [decide_eq_false q2, Bool.and_false]
      · unfold near
        rw [decide_eq_false q1, Bool.false_and]
    · have e : x.toNat = fstN (fun j => near l b (rd o j) i) o.length := fstN_eq (by omega) (fun h => by
        show near l b (rd o (x.toNat : Int)) i = true
        rw [show ((x.toNat : Nat) : Int) = x by omega]; exact a6 (by omega)) (fun j hj => a3 j (by omega) (by omega))
      rw [← e, show ((x.toNat : Nat) : Int) = x by omega] at ih2
      rw [w64 (x := i + 1) (by omega) (by omega)]
      refine EvP.ite (fun z => ?_) (fun z => ?_)
      · rw [if_pos (by omega)] at ih2
        rw [z]
        exact EvP.pos (by omega) (EvP.pos (by omega) ih2)
      · rw [if_neg (by omega)] at ih2
        exact EvP.pos (by omega) ih2
  · rw [show i.toNat = l.length by omega]
theorem refGroup_is (l : List S24) (b : Int) (hc : ∀ b ∈ l, Cam b) (hl : (l.length : Int) ≤ 1000) : EvP (fun k => incunableref15_Group.f k l b) (grR l b) := by
  unfold incunableref15_Group.f
  refine EvP.up (L := fun k i (_ : Unit) => incunableref15_Group.l0 k l b i) (fun i _ => 0 ≤ i ∧ ∀ j, 0 ≤ j → j < i → Val (rd_T24 l j).f0 (rd_T24 l j).f1 (rd_T24 l j).f2) l.length ?_ 0 () (by omega) ⟨by omega, fun j _ _ => by omega⟩
  intro i s ⟨i0, hs⟩ hi ih
  refine EvP.step (fun k => by rw [incunableref15_Group.l0]) ?_
  refine EvP.ite (fun i1 => ?_) (fun i1 => ?_)
  · have ci := cam_at hc i0 i1
    refine EvP.pos i0 ?_
    refine EvP.bind (refValid_is _ _ _ ci.1 ci.2) ?_
    rintro _ rfl
    refine EvP.ite (fun c => ?_) (fun c => EvP.ret ⟨fun _ => rfl, fun z => absurd ⟨i, i0, i1, fun v => c (decide_eq_true v)⟩ z⟩)
    have c : Val (rd_T24 l i).f0 (rd_T24 l i).f1 (rd_T24 l i).f2 := by simpa using c
    rw [w64 (by omega) (by omega)]
    refine ih () i1 ⟨by omega, fun j a b => ?_⟩
    by_cases z : j = i
    · subst z; exact c
    · exact hs j a (by omega)
  · have nb : ¬ bad15 l := fun ⟨j, a, b, c⟩ => c (hs j a (by omega))
    refine EvP.ite (fun q => EvP.ret ⟨fun z => absurd z nb, fun _ => by rw [if_pos q]⟩) (fun q => ?_)
    refine (refGroup_l1 l b hc hl nb (by omega)).mono ?_
    rintro _ rfl
    exact ⟨fun z => absurd z nb, fun _ => by rw [if_neg q]⟩

theorem Heads15_is (g : List Int) (hl : (g.length : Int) ≤ 17592186044415) : EvP (fun k => shape_Heads.f k g) (· = hdQ g) := by
  unfold shape_Heads.f
  refine EvP.up (L := fun k i (s : List Int) => shape_Heads.l0 k s g (g.length : Int) i) (fun i s => 0 ≤ i ∧ hdS g i.toNat = some s) g.length ?_ 0 [] (by omega) ⟨by omega, rfl⟩
  intro i s ⟨i0, hs⟩ hi ih
  have ok := hdS_ok g _ _ hs
  refine EvP.step (fun k => by rw [shape_Heads.l0]) ?_
  refine EvP.ite (fun i1 => ?_) (fun i1 => ?_)
  · refine EvP.pos i0 (EvP.pos i1 ?_)
    have ec : ((i.toNat : Nat) : Int) = i := by omega
    have es := hdS_s hs
    rw [ec] at es
    have go : ∀ x : Bool, (x = true ↔ (rd g i < 0 ∨ rd g i > (s.length : Int))) → EvP (fun k => shape_Heads.j1 k s i (rd g i) g (g.length : Int) i x) (· = hdQ g) := by
      intro x hx
      refine EvP.step (fun k => by rw [shape_Heads.j1]) ?_
      refine EvP.ite (fun c => EvP.ret ?_) (fun c => ?_)
      · rw [if_pos (hx.mp c)] at es
        exact (hdQ_bad es (by omega)).symm
      · rw [if_neg (fun z => c (hx.mpr z))] at es
        rw [w64 (x := i + 1) (by omega) (by omega)]
        refine EvP.ite (fun y => EvP.pos (by omega) (ih _ i1 ⟨by omega, ?_⟩)) (fun y => ih _ i1 ⟨by omega, ?_⟩)
        · rw [show (i + 1).toNat = i.toNat + 1 by omega, es, if_pos y]
        · rw [show (i + 1).toNat = i.toNat + 1 by omega, es, if_neg y]
    refine EvP.ite (fun c => go true ⟨fun _ => .inl c, fun _ => rfl⟩) (fun c => go _ ?_)
    rw [decide_eq_true_iff]
    exact ⟨fun z => .inr z, fun z => z.resolve_left c⟩
  · refine EvP.ret ?_
    have e : i.toNat = g.length := by omega
    unfold hdQ
    rw [← e, hs]

theorem LIndex_is (l : List S24) (hl : (l.length : Int) ≤ 9223372036854775807) (hc : ∀ b ∈ l, Cam b) : EvP (fun k => slices_IndexFunc_49.f k l) (fun r => 0 ≤ r ↔ bad15 l) := by
  unfold slices_IndexFunc_49.f
  refine EvP.up (L := fun k i (_ : Unit) => slices_IndexFunc_49.l0 k l (l.length : Int) i) (fun i _ => 0 ≤ i ∧ ∀ j, 0 ≤ j → j < i → Val (rd_T24 l j).f0 (rd_T24 l j).f1 (rd_T24 l j).f2) l.length ?_ 0 () (by omega) ⟨by omega, fun j _ _ => by omega⟩
  intro i s ⟨i0, hs⟩ hi ih
  refine EvP.step (fun k => by rw [slices_IndexFunc_49.l0]) ?_
  refine EvP.ite (fun i1 => ?_) (fun i1 => ?_)
  · have ci := cam_at hc i0 i1
    have e : EvP (fun k => shape_Loss_1.f k (rd_T24 l i).f0 (rd_T24 l i).f1 (rd_T24 l i).f2) (· = !decide (Val (rd_T24 l i).f0 (rd_T24 l i).f1 (rd_T24 l i).f2)) := by
      unfold shape_Loss_1.f
      refine EvP.bind (Valid_is _ _ _ ci.1 ci.2) ?_
      rintro _ rfl
      exact EvP.ret rfl
    refine EvP.pos i0 (EvP.pos i1 (EvP.bind e ?_))
    rintro _ rfl
    refine EvP.ite (fun c => EvP.ret ?_) (fun c => ?_)
    · have c : ¬ Val (rd_T24 l i).f0 (rd_T24 l i).f1 (rd_T24 l i).f2 := by simpa using c
      exact ⟨fun _ => ⟨i, i0, i1, c⟩, fun _ => i0⟩
    · have c : Val (rd_T24 l i).f0 (rd_T24 l i).f1 (rd_T24 l i).f2 := by simpa using c
      rw [w64 (by omega) (by omega)]
      refine ih () i1 ⟨by omega, fun j a b => ?_⟩
      by_cases z : j = i
      · subst z; exact c
      · exact hs j a (by omega)
  · refine EvP.ret ⟨fun h => by omega, fun ⟨j, a, b, c⟩ => absurd (hs j a (by omega)) c⟩
theorem LContains_is (l : List S24) (hl : (l.length : Int) ≤ 9223372036854775807) (hc : ∀ b ∈ l, Cam b) : EvP (fun k => slices_ContainsFunc_49.f k l) (fun r => r = true ↔ bad15 l) := by
  unfold slices_ContainsFunc_49.f
  refine EvP.bind (LIndex_is l hl hc) (fun r hr => EvP.ret ?_)
  rw [decide_eq_true_iff]
  exact hr
theorem Loss_l0 (l : List S24) (g o : List Int) (hc : ∀ b ∈ l, Cam b) (he : g.length = l.length) (ho : hdS g g.length = some o) (hl : (l.length : Int) ≤ 9223372036854775807) : EvP (fun k => shape_Loss.l0 k l g o 0 l (l.length : Int) 0) (· = lsQ l g o) := by
  have ok := hdS_ok g _ _ ho
  refine EvP.up (L := fun k i (s : Int) => shape_Loss.l0 k l g o s l (l.length : Int) i) (fun i s => 0 ≤ i ∧ lsS l g o i.toNat = some s) l.length ?_ 0 0 (by omega) ⟨by omega, rfl⟩
  intro i s ⟨i0, hs⟩ hi ih
  refine EvP.step (fun k => by rw [shape_Loss.l0]) ?_
  refine EvP.ite (fun i1 => ?_) (fun i1 => ?_)
  · have h1 := ok.2.1 i i0 (by omega)
    have h2 := ok.2.2 (rd g i) h1.1 h1.2
    have c1 := cam_at hc i0 i1
    have c2 := cam_at hc (i := rd o (rd g i)) h2.1 (by omega)
    have es := lsS_s hs
    rw [show ((i.toNat : Nat) : Int) = i by omega] at es
    refine EvP.pos i0 (EvP.pos i1 (EvP.pos (by omega) (EvP.pos h1.1 (EvP.pos h1.2 (EvP.pos h2.1 (EvP.pos (by omega) ?_))))))
    refine EvP.bind (Differ_is _ _ _ _ _ _ c2.1 c2.2 c1.1 c1.2) ?_
    rintro _ rfl
    show EvP (fun k => if (dfQ (rd_T24 l (rd o (rd g i))) (rd_T24 l i)).2 = 0 then shape_Loss.l0 k l g o (wrap64 (s + (dfQ (rd_T24 l (rd o (rd g i))) (rd_T24 l i)).1)) l (l.length : Int) (wrap64 (i + 1)) else some (0, 2)) _
    rw [w64 (x := i + 1) (by omega) (by omega)]
    refine EvP.ite (fun c => ih _ i1 ⟨by omega, ?_⟩) (fun c => EvP.ret ?_)
    · rw [show (i + 1).toNat = i.toNat + 1 by omega, es, if_pos c]
    · rw [if_neg c] at es
      exact (lsQ_bad es (by omega)).symm
  · refine EvP.ret ?_
    have e : i.toNat = l.length := by omega
    unfold lsQ
    rw [← e, hs]
theorem Loss_is (l : List S24) (g : List Int) (hc : ∀ b ∈ l, Cam b) (hl : (l.length : Int) ≤ 9223372036854775807) (hg : (g.length : Int) ≤ 17592186044415) : EvP (fun k => shape_Loss.f k l g) (lossR l g) := by
  unfold shape_Loss.f
  refine EvP.bind (LContains_is l hl hc) (fun r hr => ?_)
  refine EvP.ite (fun c => EvP.ret ⟨fun _ => rfl, fun z => absurd (hr.mp c) z⟩) (fun c => ?_)
  have nb : ¬ bad15 l := fun z => c (hr.mpr z)
  refine EvP.bind (Heads15_is g hg) ?_
  rintro _ rfl
  have bad : ¬ ((hdQ g).2 = 0 ∧ g.length = l.length) → EvP (fun k => shape_Loss.j0 k l g (hdQ g).1 true) (lossR l g) := fun z =>
    EvP.step (fun k => by rw [shape_Loss.j0]) (EvP.pos rfl (EvP.ret ⟨fun y => absurd y nb, fun _ => by rw [if_neg z]⟩))
  refine EvP.ite (fun e => ?_) (fun e => bad (fun z => e z.1))
  by_cases he : g.length = l.length
  · have eb : ((g.length : Int) != (l.length : Int)) = false := by rw [he]; simp
    rw [eb]
    refine EvP.step (fun k => by rw [shape_Loss.j0]) ?_
    refine EvP.neg (by simp) ?_
    refine (Loss_l0 l g (hdQ g).1 hc he (hdQ_ok e) hl).mono ?_
    rintro _ rfl
    exact ⟨fun y => absurd y nb, fun _ => by rw [if_pos ⟨e, he⟩]⟩
  · have eb : ((g.length : Int) != (l.length : Int)) = true := by
      rw [bne_iff_ne]
      omega
    rw [eb]
    exact bad (fun z => he z.2)

theorem refHeads15_is (g : List Int) (hl : (g.length : Int) ≤ 17592186044415) : EvP (fun k => incunableref15_Heads.f k g) (· = hdQ g) := by
  unfold incunableref15_Heads.f
  refine EvP.up (L := fun k i (s : List Int) => incunableref15_Heads.l0 k g s i) (fun i s => 0 ≤ i ∧ hdS g i.toNat = some s) g.length ?_ 0 [] (by omega) ⟨by omega, rfl⟩
  intro i s ⟨i0, hs⟩ hi ih
  have ok := hdS_ok g _ _ hs
  refine EvP.step (fun k => by rw [incunableref15_Heads.l0]) ?_
  refine EvP.ite (fun i1 => ?_) (fun i1 => ?_)
  · refine EvP.pos i0 ?_
    have ec : ((i.toNat : Nat) : Int) = i := by omega
    have es := hdS_s hs
    rw [ec] at es
    have go : ∀ x : Bool, (x = true ↔ (rd g i < 0 ∨ rd g i > (s.length : Int))) → EvP (fun k => incunableref15_Heads.j1 k g s i x) (· = hdQ g) := by
      intro x hx
      refine EvP.step (fun k => by rw [incunableref15_Heads.j1]) ?_
      refine EvP.ite (fun c => EvP.ret ?_) (fun c => ?_)
      · rw [if_pos (hx.mp c)] at es
        exact (hdQ_bad es (by omega)).symm
      · rw [if_neg (fun z => c (hx.mpr z))] at es
        rw [w64 (x := i + 1) (by omega) (by omega)]
        refine EvP.pos i0 (EvP.pos i1 (EvP.ite (fun y => EvP.pos (by omega) (ih _ i1 ⟨by omega, ?_⟩)) (fun y => ih _ i1 ⟨by omega, ?_⟩)))
        · rw [show (i + 1).toNat = i.toNat + 1 by omega, es, if_pos y]
        · rw [show (i + 1).toNat = i.toNat + 1 by omega, es, if_neg y]
    refine EvP.ite (fun c => go true ⟨fun _ => .inl c, fun _ => rfl⟩) (fun c => go _ ?_)
    rw [decide_eq_true_iff]
    exact ⟨fun z => .inr z, fun z => z.resolve_left c⟩
  · refine EvP.ret ?_
    have e : i.toNat = g.length := by omega
    unfold hdQ
    rw [← e, hs]

theorem refLoss_l1 (l : List S24) (g o : List Int) (hc : ∀ b ∈ l, Cam b) (he : g.length = l.length) (ho : hdS g g.length = some o) (hl : (l.length : Int) ≤ 9223372036854775807) : EvP (fun k => incunableref15_Loss.l1 k l g o 0 0) (· = lsQ l g o) := by
  have ok := hdS_ok g _ _ ho
  refine EvP.up (L := fun k i (s : Int) => incunableref15_Loss.l1 k l g o s i) (fun i s => 0 ≤ i ∧ lsS l g o i.toNat = some s) l.length ?_ 0 0 (by omega) ⟨by omega, rfl⟩
  intro i s ⟨i0, hs⟩ hi ih
  refine EvP.step (fun k => by rw [incunableref15_Loss.l1]) ?_
  refine EvP.ite (fun i1 => ?_) (fun i1 => ?_)
  · have h1 := ok.2.1 i i0 (by omega)
    have h2 := ok.2.2 (rd g i) h1.1 h1.2
    have c1 := cam_at hc i0 i1
    have c2 := cam_at hc (i := rd o (rd g i)) h2.1 (by omega)
    have es := lsS_s hs
    rw [show ((i.toNat : Nat) : Int) = i by omega] at es
    refine EvP.pos i0 (EvP.pos (by omega) (EvP.pos h1.1 (EvP.pos h1.2 (EvP.pos h2.1 (EvP.pos (by omega) ?_)))))
    refine EvP.bind (refDiffer_is _ _ _ _ _ _ c2.1 c2.2 c1.1 c1.2) ?_
    rintro _ rfl
    show EvP (fun k => if (dfQ (rd_T24 l (rd o (rd g i))) (rd_T24 l i)).2 = 0 then incunableref15_Loss.l1 k l g o (wrap64 (s + (dfQ (rd_T24 l (rd o (rd g i))) (rd_T24 l i)).1)) (wrap64 (i + 1)) else some (0, 2)) _
    rw [w64 (x := i + 1) (by omega) (by omega)]
    refine EvP.ite (fun c => ih _ i1 ⟨by omega, ?_⟩) (fun c => EvP.ret ?_)
    · rw [show (i + 1).toNat = i.toNat + 1 by omega, es, if_pos c]
    · rw [if_neg c] at es
      exact (lsQ_bad es (by omega)).symm
  · refine EvP.ret ?_
    have e : i.toNat = l.length := by omega
    unfold lsQ
    rw [← e, hs]
theorem refLoss_is (l : List S24) (g : List Int) (hc : ∀ b ∈ l, Cam b) (hl : (l.length : Int) ≤ 9223372036854775807) (hg : (g.length : Int) ≤ 17592186044415) : EvP (fun k => incunableref15_Loss.f k l g) (lossR l g) := by
  unfold incunableref15_Loss.f
  refine EvP.up (L := fun k i (_ : Unit) => incunableref15_Loss.l0 k l g i) (fun i _ => 0 ≤ i ∧ ∀ j, 0 ≤ j → j < i → Val (rd_T24 l j).f0 (rd_T24 l j).f1 (rd_T24 l j).f2) l.length ?_ 0 () (by omega) ⟨by omega, fun j _ _ => by omega⟩
  intro i s ⟨i0, hs⟩ hi ih
  refine EvP.step (fun k => by rw [incunableref15_Loss.l0]) ?_
  refine EvP.ite (fun i1 => ?_) (fun i1 => ?_)
  · have ci := cam_at hc i0 i1
    refine EvP.pos i0 ?_
    refine EvP.bind (refValid_is _ _ _ ci.1 ci.2) ?_
    rintro _ rfl
    refine EvP.ite (fun c => ?_) (fun c => EvP.ret ⟨fun _ => rfl, fun z => absurd ⟨i, i0, i1, fun v => c (decide_eq_true v)⟩ z⟩)
    have c : Val (rd_T24 l i).f0 (rd_T24 l i).f1 (rd_T24 l i).f2 := by simpa using c
    rw [w64 (by omega) (by omega)]
    refine ih () i1 ⟨by omega, fun j a b => ?_⟩
    by_cases z : j = i
    · subst z; exact c
    · exact hs j a (by omega)
  · have nb : ¬ bad15 l := fun ⟨j, a, b, c⟩ => c (hs j a (by omega))
    refine EvP.bind (refHeads15_is g hg) ?_
    rintro _ rfl
    have bad : ¬ ((hdQ g).2 = 0 ∧ g.length = l.length) → EvP (fun k => incunableref15_Loss.j1 k l g (hdQ g).1 true) (lossR l g) := fun z =>
      EvP.step (fun k => by rw [incunableref15_Loss.j1]) (EvP.pos rfl (EvP.ret ⟨fun y => absurd y nb, fun _ => by rw [if_neg z]⟩))
    refine EvP.ite (fun e => ?_) (fun e => bad (fun z => e z.1))
    by_cases he : g.length = l.length
    · have eb : ((g.length : Int) != (l.length : Int)) = false := by rw [he]; simp
      rw [eb]
      refine EvP.step (fun k => by rw [incunableref15_Loss.j1]) ?_
      refine EvP.neg (by simp) ?_
      refine (refLoss_l1 l g (hdQ g).1 hc he (hdQ_ok e) hl).mono ?_
      rintro _ rfl
      exact ⟨fun y => absurd y nb, fun _ => by rw [if_pos ⟨e, he⟩]⟩
    · have eb : ((g.length : Int) != (l.length : Int)) = true := by
        rw [bne_iff_ne]
        omega
      rw [eb]
      exact bad (fun z => he z.2)

theorem SameInts_self (l : List Int) (hl : (l.length : Int) ≤ 9223372036854775806) : EvP (fun k => incunableref01_SameInts.f k l l) (· = true) := by
  unfold incunableref01_SameInts.f
  refine EvP.pos rfl ?_
  refine EvP.up (L := fun k i (_ : Unit) => incunableref01_SameInts.l0 k l l i) (fun i _ => 0 ≤ i) l.length ?_ 0 () (by omega) (by omega)
  intro i _ i0 hi ih
  refine EvP.step (fun k => by rw [incunableref01_SameInts.l0]) ?_
  refine EvP.ite (fun c => ?_) (fun c => EvP.ret rfl)
  refine EvP.pos i0 (EvP.pos c (EvP.pos rfl ?_))
  rw [w64 (x := i + 1) (by omega) (by omega)]
  exact ih () c (by omega)

theorem Sane15_is : EvP (fun k => incunablelaw15_Sane.f k) (· = true) :=
  ⟨true, Ev.of (fun k => incunablelaw15_Sane.mono k) (k := 60) (by decide +kernel), rfl⟩

theorem ShapeGroups : incunablelaw15_ShapeGroups.Pure := by
  intro l b hl hb
  have hc : ∀ b ∈ l, Cam b := fun b hb => by
    obtain ⟨_, _, h3⟩ := hl.2.2 b hb
    exact ⟨fun z hz => (wf_byt h3.2.2 z hz).1, by have := h3.1; omega⟩
  have hl2 : (l.length : Int) ≤ 9223372036854775807 := by have := hl.1; omega
  have sane : EvP (fun k => (incunablelaw15_Sane.f k).bind fun t => some t) (· = true) := by
    refine EvP.bind Sane15_is ?_
    rintro _ rfl
    exact EvP.ret rfl
  refine EvP.rounds ?_
  unfold incunablelaw15_ShapeGroups.f
  refine EvP.up (L := fun k i (s : Int) => incunablelaw15_ShapeGroups.l0 k l b s i) (fun i _ => 0 ≤ i) l.length ?_ 0 _ (by omega) (by omega)
  intro i s i0 hi ih
  refine EvP.step (fun k => by rw [incunablelaw15_ShapeGroups.l0]) ?_
  refine EvP.ite (fun i1 => ?_) (fun i1 => ?_)
  · refine EvP.pos i0 ?_
    rw [w64 (x := i + 1) (by omega) (by omega)]
    exact ih _ i1 (by omega)
  refine EvP.ite (fun _ => EvP.step (fun k => by rw [incunablelaw15_ShapeGroups.j1]) (EvP.pos rfl sane)) (fun _ => ?_)
  refine EvP.step (fun k => by rw [incunablelaw15_ShapeGroups.j1]) ?_
  refine EvP.ite (fun _ => sane) (fun c => ?_)
  have c : ¬ (l.length : Int) > 60 := by simpa using c
  refine EvP.bind (Group_is l b hc (by omega)) (fun r hr => ?_)
  refine EvP.bind (refGroup_is l b hc (by omega)) (fun r' hr' => ?_)
  have e := grR_eq hr' hr
  subst e
  refine EvP.pos rfl ?_
  have hlen : ((r'.1).length : Int) ≤ 1000 := by
    by_cases q : bad15 l
    · rw [hr.1 q]; simp
    · rw [hr.2 q]
      split
      · simp
      · have := (grS_ok l b (by omega) q l.length (Nat.le_refl _)).1
        show (((grS l b l.length).2.length : Nat) : Int) ≤ 1000
        rw [this]; omega
  refine EvP.bind (SameInts_self _ (by omega)) ?_
  rintro _ rfl
  refine EvP.step (fun k => by rw [incunablelaw15_ShapeGroups.j2]) ?_
  refine EvP.neg (by simp) ?_
  refine EvP.ite (fun ok => ?_) (fun _ => sane)
  have nb : ¬ bad15 l := fun q => by rw [hr.1 q] at ok; exact absurd ok (by decide)
  have hr2 := hr.2 nb
  have b0 : ¬ b < 0 := fun q => by rw [hr2, if_pos q] at ok; exact absurd ok (by decide)
  rw [if_neg b0] at hr2
  subst hr2
  obtain ⟨k1, k2, k3, k4⟩ := grS_ok l b (by omega) nb l.length (Nat.le_refl _)
  generalize (grS l b l.length).1 = o at *
  generalize (grS l b l.length).2 = g at *
  obtain ⟨m1, m2, m3⟩ := hdS_ok _ _ _ k3
  have eq : hdQ g = (o, 0) := by
    unfold hdQ
    rw [k1, k3]
  refine EvP.bind (Heads15_is g (by omega)) ?_
  rintro _ rfl
  refine EvP.bind (refHeads15_is g (by omega)) ?_
  rintro _ rfl
  refine EvP.bind (Loss_is l g hc hl2 (by omega)) (fun r hr => ?_)
  refine EvP.bind (refLoss_is l g hc hl2 (by omega)) (fun s hs => ?_)
  have e := lossR_eq hr hs
  subst e
  rw [eq]
  refine EvP.pos rfl (EvP.pos rfl (EvP.pos rfl ?_))
  refine EvP.bind (SameInts_self _ (by show (o.length : Int) ≤ _; omega)) ?_
  rintro _ rfl
  refine EvP.step (fun k => by rw [incunablelaw15_ShapeGroups.j3]) ?_
  refine EvP.neg (by simp) ?_
  obtain ⟨t, et, ez⟩ := lsS_grp (o := o) (g := g) k4 l.length (Nat.le_refl _)
  have er := hr.2 nb
  rw [eq, if_pos ⟨rfl, k1⟩] at er
  have er2 : r = (t, 0) := by
    rw [er]
    unfold lsQ
    rw [et]
  subst er2
  show EvP (fun k => incunablelaw15_ShapeGroups.l1 k l b g o t 0) _
  refine EvP.up (L := fun k i (_ : Unit) => incunablelaw15_ShapeGroups.l1 k l b g o t i) (fun i _ => 0 ≤ i) l.length ?_ 0 () (by omega) (by omega)
  intro j _ j0 hj ih2
  refine EvP.step (fun k => by rw [incunablelaw15_ShapeGroups.l1]) ?_
  refine EvP.ite (fun j1 => ?_) (fun j1 => ?_)
  · have h1 := m2 j j0 (by omega)
    have h2 := m3 (rd g j) h1.1 h1.2
    have c1 := cam_at hc h2.1 (show rd o (rd g j) < (l.length : Int) by omega)
    have c2 := cam_at hc j0 j1
    refine EvP.pos j0 (EvP.pos (by omega) (EvP.pos h1.1 (EvP.pos h1.2 (EvP.pos h2.1 (EvP.pos (by omega) ?_)))))
    refine EvP.bind (refDiffer_is _ _ _ _ _ _ c1.1 c1.2 c2.1 c2.2) ?_
    rintro _ rfl
    have hn := k4 j j0 (by omega)
    unfold near at hn
    have q2 := of_decide_eq_true (Bool.and_eq_true_iff.mp hn).2
    show EvP (fun k => if (dfQ (rd_T24 l (rd o (rd g j))) (rd_T24 l j)).1 > b then _ else _) _
    rw [w64 (x := j + 1) (by omega) (by omega)]
    exact EvP.neg (by omega) (ih2 () j1 (by omega))
  · refine EvP.ite (fun _ => sane) (fun q => EvP.pos (ez (by omega)) sane)

end Go.Proofs.Ytaflekobfbgedaa.Pure
