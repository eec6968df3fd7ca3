/- The distance of bitmaps, and as which letter one is read. No conditions beyond the statement's own. -/
import Derived.Test.YtmggeebpbacoiaaPLetterOnesx9
import Derived.Test.YtmggeebpbacoiaaQBase
namespace Go.Proofs.Ytmggeebpbacoiaa.Pure
open Go.RowKit Go.Proofs.Ytmggeebpbacoiaa.PLetterOnes Go.Proofs.YtmggeebpbacoiaaW.PrintWords Go.Proofs.YtmggeebpbacoiaaW.PrintLast Go.Proofs.YtmggeebpbacoiaaW.PrintMore Go.Proofs.YtmggeebpbacoiaaW.Pu
set_option linter.unusedVariables false
set_option linter.unusedSimpArgs false
/-- The numbers of a list are those of bytes. -/
def Byt (p : List Int) : Prop := ∀ x ∈ p, 0 ≤ x ∧ x ≤ 255
theorem val_byt {w h : Int} {p : List Int} (v : Val w h p) : Byt p := fun x hx => ⟨(v.2.2.2.2.2.2 x hx).1, by have := (v.2.2.2.2.2.2 x hx).2; omega⟩

theorem wf_byt {p : List Int} (h : ∀ y ∈ p, (Lit.int .u8 y).wf = true) : Byt p := fun x hx => by
  have h1 : (decide (IntKind.u8.min ≤ x) && decide (x ≤ IntKind.u8.max)) = true := h x hx
  obtain ⟨a, b⟩ := Bool.and_eq_true_iff.mp h1
  exact ⟨of_decide_eq_true a, of_decide_eq_true b⟩
theorem wf_i64 {x : Int} (h : (Lit.int .i64 x).wf = true) : -9223372036854775808 ≤ x ∧ x ≤ 9223372036854775807 := by
  have h1 : (decide (IntKind.i64.min ≤ x) && decide (x ≤ IntKind.i64.max)) = true := h
  obtain ⟨a, b⟩ := Bool.and_eq_true_iff.mp h1
  exact ⟨of_decide_eq_true a, of_decide_eq_true b⟩

/-- The sum of the first numbers. -/
def sm : Nat → (Int → Int) → Int
  | 0, _ => 0
  | n + 1, f => sm n f + f (n : Int)
theorem sm_s (n : Nat) (f : Int → Int) : sm (n + 1) f = sm n f + f (n : Int) := rfl
theorem sm_0 (f : Int → Int) : sm 0 f = 0 := rfl
theorem sm_congr {f g : Int → Int} : ∀ {n : Nat}, (∀ i : Int, 0 ≤ i → i < n → f i = g i) → sm n f = sm n g
  | 0, _ => rfl
  | n + 1, h => by
    unfold sm
    rw [sm_congr (fun i h0 h1 => h i h0 (by omega)), h n (by omega) (by omega)]
theorem sm_bound {f : Int → Int} {c : Int} (hc : 0 ≤ c) : ∀ {n : Nat}, (∀ i : Int, 0 ≤ i → i < n → 0 ≤ f i ∧ f i ≤ c) → 0 ≤ sm n f ∧ sm n f ≤ n * c
  | 0, _ => by simp [sm]
  | n + 1, h => by
    have h1 := sm_bound hc (fun i h0 h1 => h i h0 (by omega)) (n := n)
    have h2 := h n (by omega) (by omega)
    unfold sm
    have e : ((n + 1 : Nat) : Int) * c = n * c + c := by rw [Int.natCast_add, Int.add_mul]; simp
    omega
theorem sm_zero {f : Int → Int} (h0 : ∀ i : Int, 0 ≤ i → 0 ≤ f i) : ∀ {n : Nat}, sm n f = 0 → ∀ i : Int, 0 ≤ i → i < n → f i = 0
  | 0, _, i, a, b => by omega
  | n + 1, h, i, a, b => by
    unfold sm at h
    have h1 : 0 ≤ sm n f := by
      have : ∀ m : Nat, 0 ≤ sm m f := by
        intro m
        induction m with
        | zero => simp [sm]
        | succ m ih => unfold sm; have := h0 m (by omega); omega
      exact this n
    have h2 := h0 n (by omega)
    rcases Int.lt_or_le i n with c | c
    · exact sm_zero h0 (show sm n f = 0 by omega) i a c
    · have : i = n := by omega
      subst this
      omega
theorem sm_const (c : Int) : ∀ n : Nat, sm n (fun _ => c) = n * c
  | 0 => by simp [sm]
  | n + 1 => by
    unfold sm
    rw [sm_const c n, Int.natCast_add, Int.add_mul]
    simp
theorem sm_add (f : Int → Int) (a : Nat) : ∀ b : Nat, sm (a + b) f = sm a f + sm b (fun i => f (a + i))
  | 0 => by simp [sm]
  | b + 1 => by
    rw [show a + (b + 1) = (a + b) + 1 from rfl, sm_s, sm_s, sm_add f a b]
    have e : ((a + b : Nat) : Int) = (a : Int) + (b : Int) := by omega
    rw [e]
    show sm a f + sm b (fun i => f (a + i)) + f (a + b) = sm a f + (sm b (fun i => f (a + i)) + f (a + b))
    omega
theorem sm_plus (f g : Int → Int) : ∀ n : Nat, sm n (fun i => f i + g i) = sm n f + sm n g
  | 0 => by simp [sm]
  | n + 1 => by
    rw [sm_s, sm_s, sm_s, sm_plus f g n]
    show sm n f + sm n g + (f n + g n) = sm n f + f n + (sm n g + g n)
    omega
theorem sm_swap (g : Int → Int → Int) (W : Nat) : ∀ H : Nat, sm H (fun y => sm W (fun x => g x y)) = sm W (fun x => sm H (fun y => g x y))
  | 0 => by
    have : sm W (fun x => sm 0 (fun y => g x y)) = sm W (fun _ => 0) := sm_congr (fun i _ _ => rfl)
    rw [this, sm_const 0 W, sm_0]
    simp
  | H + 1 => by
    rw [sm_s, sm_swap g W H]
    have : sm W (fun x => sm (H + 1) (fun y => g x y)) = sm W (fun x => sm H (fun y => g x y) + g x H) := sm_congr (fun i _ _ => rfl)
    rw [this, sm_plus]
theorem sm_front (f : Int → Int) : ∀ n : Nat, sm (n + 1) f = f 0 + sm n (fun i => f (i + 1))
  | 0 => by simp [sm]
  | n + 1 => by
    rw [show sm (n + 1 + 1) f = sm (n + 1) f + f ((n + 1 : Nat) : Int) from rfl, sm_front f n]
    rw [show sm (n + 1) (fun i => f (i + 1)) = sm n (fun i => f (i + 1)) + f ((n : Int) + 1) from rfl]
    have e : ((n + 1 : Nat) : Int) = (n : Int) + 1 := by omega
    rw [e]
    omega
theorem sm_mirror (f : Int → Int) : ∀ n : Nat, sm n (fun i => f ((n : Int) - 1 - i)) = sm n f
  | 0 => rfl
  | n + 1 => by
    rw [sm_front]
    have e : (((n + 1 : Nat) : Int) - 1 - 0) = (n : Int) := by omega
    rw [e]
    have e2 : sm n (fun i => f (((n + 1 : Nat) : Int) - 1 - (i + 1))) = sm n (fun i => f ((n : Int) - 1 - i)) := sm_congr (fun i _ _ => by
      have : ((n + 1 : Nat) : Int) - 1 - (i + 1) = (n : Int) - 1 - i := by omega
      rw [this])
    rw [e2, sm_mirror f n, sm_s]
    omega
/-- All pixels' sum. -/
def tot (w h : Int) (g : Int → Int → Int) : Int := sm h.toNat (fun y => sm w.toNat (fun x => g x y))
theorem sm_flat (g : Int → Int → Int) (W : Nat) : ∀ H : Nat, sm (W * H) (fun i => g (i % (W : Int)) (i / (W : Int))) = sm H (fun y => sm W (fun x => g x y))
  | 0 => rfl
  | H + 1 => by
    rw [Nat.mul_succ, sm_add, sm_flat g W H]
    rw [show sm (H + 1) (fun y => sm W (fun x => g x y)) = sm H (fun y => sm W (fun x => g x y)) + sm W (fun x => g x (H : Int)) from rfl]
    congr 1
    refine sm_congr (fun i h0 h1 => ?_)
    have e : ((W * H : Nat) : Int) + i = (H : Int) * (W : Int) + i := by rw [Int.natCast_mul, Int.mul_comm]
    rw [e, flat_mod h0 h1, flat_div h0 h1]
theorem sm_tab {w h : Int} (hw : 0 ≤ w) (hh : 0 ≤ h) (g : Int → Int → Int) : sm (tab w h g).length (fun i => rd (tab w h g) i) = tot w h g := by
  have h0 : 0 ≤ w * h := Int.mul_nonneg hw hh
  rw [tab_length]
  have e : (w * h).toNat = w.toNat * h.toNat := by
    have e1 : ((w.toNat * h.toNat : Nat) : Int) = w * h := by rw [Int.natCast_mul, Int.toNat_of_nonneg hw, Int.toNat_of_nonneg hh]
    omega
  have ew : ((w.toNat : Nat) : Int) = w := Int.toNat_of_nonneg hw
  unfold tot
  rw [← sm_flat g w.toNat h.toNat, e, ew]
  refine sm_congr (fun i a b => ?_)
  rw [rd_tab w h g i a (by omega)]
theorem tot_congr {w h : Int} {g g' : Int → Int → Int} (hg : ∀ x y, 0 ≤ x → x < w → 0 ≤ y → y < h → g x y = g' x y) : tot w h g = tot w h g' :=
  sm_congr (fun y a b => sm_congr (fun x c d => hg x y c (by omega) a (by omega)))
theorem tot_turn {w h : Int} (hw : 0 ≤ w) (hh : 0 ≤ h) (g : Int → Int → Int) : tot h w (fun x y => g y (h - 1 - x)) = tot w h g := by
  unfold tot
  have eh : ((h.toNat : Nat) : Int) = h := Int.toNat_of_nonneg hh
  rw [sm_swap (fun x y => g x y) w.toNat h.toNat]
  refine sm_congr (fun y a b => ?_)
  have := sm_mirror (fun i => g y i) h.toNat
  rw [eh] at this
  exact this
theorem tot_flip {w h : Int} (hw : 0 ≤ w) (hh : 0 ≤ h) (g : Int → Int → Int) : tot w h (fun x y => g (w - 1 - x) y) = tot w h g := by
  unfold tot
  have ew : ((w.toNat : Nat) : Int) = w := Int.toNat_of_nonneg hw
  refine sm_congr (fun y a b => ?_)
  have := sm_mirror (fun i => g i y) w.toNat
  rw [ew] at this
  exact this
/-- How many pixels are black. -/
def blk (p : List Int) : Int := sm p.length (fun i => rd p i)
theorem blk_val {w h : Int} {p : List Int} (v : Val w h p) : blk p = tot w h (pix w h p) := by
  unfold blk
  have e := sm_tab v.1 v.2.1 (pix w h p)
  rw [← v.tab] at e
  exact e

theorem sm_out {f : Int → Int} : ∀ {n : Nat}, (∀ i : Int, 0 ≤ i → i < n → f i = 0) → sm n f = 0
  | 0, _ => rfl
  | n + 1, h => by
    rw [sm_s, sm_out (fun i a b => h i a (by omega)), h n (by omega) (by omega)]
    rfl

theorem sm_mid {f : Int → Int} (l W r : Nat) (hf : ∀ i : Int, i < l ∨ (l : Int) + W ≤ i → f i = 0) : sm (l + (W + r)) f = sm W (fun u => f ((l : Int) + u)) := by
  rw [sm_add, sm_out (n := l) (fun i a b => hf i (.inl b)), sm_add, sm_out (n := r) (fun i a b => hf _ (.inr (by omega)))]
  omega
theorem tot_mid {w h l t W H : Int} {g : Int → Int → Int} (l0 : 0 ≤ l) (t0 : 0 ≤ t) (W0 : 0 ≤ W) (H0 : 0 ≤ H) (hw : l + W ≤ w) (hh : t + H ≤ h) (hg : ∀ x y, ¬ (l ≤ x ∧ x < l + W ∧ t ≤ y ∧ y < t + H) → g x y = 0) : tot w h g = tot W H (fun u v => g (l + u) (t + v)) := by
  unfold tot
  rw [show h.toNat = t.toNat + (H.toNat + (h - t - H).toNat) by omega, sm_mid _ _ _ (fun i hi => sm_out (fun j _ _ => hg j i (by omega)))]
  refine sm_congr (fun v _ _ => ?_)
  rw [show ((t.toNat : Nat) : Int) = t by omega, show w.toNat = l.toNat + (W.toNat + (w - l - W).toNat) by omega, sm_mid _ _ _ (fun i hi => hg i _ (by omega)), show ((l.toNat : Nat) : Int) = l by omega]
theorem tot_plus {w h : Int} (f g : Int → Int → Int) : tot w h (fun x y => f x y + g x y) = tot w h f + tot w h g := by
  unfold tot
  rw [← sm_plus]
  exact sm_congr (fun y _ _ => sm_plus _ _ _)
theorem tot_in {w h : Int} {g : Int → Int → Int} (hw : 0 ≤ w) (hh : 0 ≤ h) (hw2 : w ≤ 200) (hh2 : h ≤ 200) (hg : ∀ x y, 0 ≤ g x y ∧ g x y ≤ 1) : 0 ≤ tot w h g ∧ tot w h g ≤ 40000 := by
  have a : ∀ y : Int, 0 ≤ sm w.toNat (fun x => g x y) ∧ sm w.toNat (fun x => g x y) ≤ 200 := fun y => by
    have := sm_bound (n := w.toNat) (f := fun x => g x y) (c := 1) (by omega) (fun i _ _ => hg i y)
    omega
  have := sm_bound (n := h.toNat) (f := fun y => sm w.toNat (fun x => g x y)) (c := 200) (by omega) (fun i _ _ => a i)
  unfold tot
  omega

def mixv (op a b : Int) : Int := if op = 0 then b else if op = 1 then (if a < b then b else a) else if op = 2 then (if b < a then b else a) else if op = 3 then (a + b) % 2 else (a + b + 1) % 2
theorem five {op : Int} (h0 : 0 ≤ op) (h1 : op ≤ 4) : op = 0 ∨ op = 1 ∨ op = 2 ∨ op = 3 ∨ op = 4 := by omega
theorem bit {a : Int} (h0 : 0 ≤ a) (h1 : a ≤ 1) : a = 0 ∨ a = 1 := by omega
theorem mix_01 {op a b : Int} (h0 : 0 ≤ op) (h1 : op ≤ 4) (a0 : 0 ≤ a) (a1 : a ≤ 1) (b0 : 0 ≤ b) (b1 : b ≤ 1) : 0 ≤ mixv op a b ∧ mixv op a b ≤ 1 := by
  rcases five h0 h1 with rfl | rfl | rfl | rfl | rfl <;> rcases bit a0 a1 with rfl | rfl <;> rcases bit b0 b1 with rfl | rfl <;> decide +kernel
theorem mix3 {a b : Int} (a0 : 0 ≤ a) (a1 : a ≤ 1) (b0 : 0 ≤ b) (b1 : b ≤ 1) : mixv 3 (mixv 3 a b) b = a := by
  rcases bit a0 a1 with rfl | rfl <;> rcases bit b0 b1 with rfl | rfl <;> decide +kernel
theorem mix3_ne {a b : Int} (a0 : 0 ≤ a) (a1 : a ≤ 1) (b0 : 0 ≤ b) (b1 : b ≤ 1) : mixv 3 a b = if a = b then 0 else 1 := by
  rcases bit a0 a1 with rfl | rfl <;> rcases bit b0 b1 with rfl | rfl <;> decide +kernel
theorem mix1_zero {b : Int} (b0 : 0 ≤ b) (b1 : b ≤ 1) : mixv 1 0 b = b := by
  rcases bit b0 b1 with rfl | rfl <;> decide +kernel
theorem mix0 (a b : Int) : mixv 0 a b = b := rfl

instance (w h : Int) (p : List Int) : Decidable (Val w h p) := by unfold Val; exact inferInstance
theorem sid_mul {w h : Int} (hw : 0 ≤ w) (hh : 0 ≤ h) (hw' : w ≤ 200) (hh' : h ≤ 200) : 0 ≤ w * h ∧ w * h ≤ 40000 := by
  have h1 : 0 ≤ w * h := Int.mul_nonneg hw hh
  have h2 : w * h ≤ 200 * h := Int.mul_le_mul_of_nonneg_right hw' hh
  omega

/-- What is drawn. -/
def drawG (g : Int → Int → Int) (w' h' : Int) (s : List Int) (x y op : Int) : Int → Int → Int := fun u t => if 0 ≤ u - x ∧ u - x < w' ∧ 0 ≤ t - y ∧ t - y < h' then mixv op (g u t) (pix w' h' s (u - x) (t - y)) else g u t
def Shf (x y : Int) : Prop := -100000 ≤ x ∧ x ≤ 100000 ∧ -100000 ≤ y ∧ y ≤ 100000
instance (x y : Int) : Decidable (Shf x y) := by unfold Shf; exact inferInstance
def drawR (w h : Int) (p : List Int) (w' h' : Int) (s : List Int) (x y op : Int) : Int × Int × List Int × Int :=
  if ¬ (Val w h p ∧ Val w' h' s) then (0, 0, [], 30) else if op < 0 ∨ op > 4 ∨ ¬ Shf x y then (0, 0, [], 2) else (w, h, tab w h (drawG (pix w h p) w' h' s x y op), 0)
theorem drawG_01 {g : Int → Int → Int} {w' h' : Int} {s : List Int} {x y op : Int} (v : Val w' h' s) (h0 : 0 ≤ op) (h1 : op ≤ 4) {u t : Int} (hg : 0 ≤ g u t ∧ g u t ≤ 1) : 0 ≤ drawG g w' h' s x y op u t ∧ drawG g w' h' s x y op u t ≤ 1 := by
  unfold drawG
  split
  · have b := v.pix01 (u - x) (t - y)
    exact mix_01 h0 h1 hg.1 hg.2 b.1 b.2
  · exact hg

/-- A part of a bitmap. -/
def partG (w h : Int) (p : List Int) (x y : Int) : Int → Int → Int := fun u t => pix w h p (x + u) (y + t)
def cutR (w h : Int) (p : List Int) (x y w' h' : Int) : Int × Int × List Int × Int :=
  if ¬ Val w h p then (0, 0, [], 30) else if w' < 0 ∨ h' < 0 ∨ ¬ Shf x y then (0, 0, [], 2) else if Sid w' h' then (w', h', tab w' h' (partG w h p x y), 0) else (0, 0, [], 4)
theorem part_val {w h : Int} {p : List Int} {x y w' h' : Int} (v : Val w h p) (s : Sid w' h') : Val w' h' (tab w' h' (partG w h p x y)) := val_tab s (fun _ _ _ _ _ _ => v.pix01 _ _)
theorem nil_byt' : Byt [] := fun x hx => by simp at hx
theorem cutR_byt (w h : Int) (p : List Int) (x y w' h' : Int) : Byt (cutR w h p x y w' h').2.2.1 := by
  unfold cutR
  by_cases a : Val w h p
  · rw [if_neg (c := ¬ Val w h p) (fun q => q a)]
    split
    · exact nil_byt'
    · split
      · rename_i s
        exact val_byt (part_val a s)
      · exact nil_byt'
  · rw [if_pos a]
    exact nil_byt'
theorem cutR_ok {w h : Int} {p : List Int} {x y w' h' : Int} (e : (cutR w h p x y w' h').2.2.2 = 0) : Val w h p ∧ Shf x y ∧ Sid w' h' ∧ cutR w h p x y w' h' = (w', h', tab w' h' (partG w h p x y), 0) := by
  unfold cutR at e ⊢
  by_cases a : Val w h p
  · rw [if_neg (c := ¬ Val w h p) (fun q => q a)] at e ⊢
    by_cases b : w' < 0 ∨ h' < 0 ∨ ¬ Shf x y
    · rw [if_pos b] at e
      exact absurd e (by decide)
    · rw [if_neg b] at e ⊢
      by_cases c : Sid w' h'
      · rw [if_pos c]
        exact ⟨a, Classical.not_not.mp (fun q => b (.inr (.inr q))), c, rfl⟩
      · rw [if_neg c] at e
        exact absurd e (by decide)
  · rw [if_pos a] at e
    exact absurd e (by decide)
theorem cutR_all {w h : Int} {p : List Int} (v : Val w h p) : cutR w h p 0 0 w h = (w, h, p, 0) := by
  unfold cutR
  rw [if_neg (c := ¬ Val w h p) (fun q => q v), if_neg (by intro q; rcases q with q | q | q; exact absurd v.1 (by omega); exact absurd v.2.1 (by omega); exact q (by unfold Shf; omega)), if_pos v.sid]
  have e : tab w h (partG w h p 0 0) = p := by
    refine Eq.trans (tab_congr v.1 v.2.1 (fun u t a b c d => ?_)) v.tab.symm
    unfold partG
    rw [Int.zero_add, Int.zero_add]
  rw [e]

/-- In how many places two bitmaps are unlike, white outside. -/
def neqT (w h : Int) (p : List Int) (w' h' : Int) (q : List Int) : Int := tot (mx w w') (mx h h') (fun x y => if pix w h p x y = pix w' h' q x y then 0 else 1)
def bothT (w h : Int) (p : List Int) (w' h' : Int) (q : List Int) : Int := tot (mn w w') (mn h h') (fun x y => pix w h p x y * pix w' h' q x y)
theorem mul01 {a b : Int} (a0 : 0 ≤ a) (a1 : a ≤ 1) (b0 : 0 ≤ b) (b1 : b ≤ 1) : 0 ≤ a * b ∧ a * b ≤ 1 := by
  have ha : a = 0 ∨ a = 1 := by omega
  have hb : b = 0 ∨ b = 1 := by omega
  rcases ha with rfl | rfl <;> rcases hb with rfl | rfl <;> decide
theorem neq_both {w h : Int} {p : List Int} {w' h' : Int} {q : List Int} (v : Val w h p) (v' : Val w' h' q) : neqT w h p w' h' q + 2 * bothT w h p w' h' q = blk p + blk q := by
  have hw := v.1
  have hh := v.2.1
  have hw' := v'.1
  have hh' := v'.2.1
  have W : w ≤ mx w w' ∧ w' ≤ mx w w' ∧ mn w w' ≤ mx w w' ∧ 0 ≤ mn w w' := by unfold mx mn; split <;> split <;> omega
  have H : h ≤ mx h h' ∧ h' ≤ mx h h' ∧ mn h h' ≤ mx h h' ∧ 0 ≤ mn h h' := by unfold mx mn; split <;> split <;> omega
  have e1 : tot (mx w w') (mx h h') (pix w h p) = blk p := by
    rw [blk_val v]
    refine (tot_mid (l := 0) (t := 0) (by omega) (by omega) hw hh (by omega) (by omega) (fun x y c => pix_out (by omega))).trans (tot_congr (fun x y _ _ _ _ => by rw [Int.zero_add, Int.zero_add]))
  have e2 : tot (mx w w') (mx h h') (pix w' h' q) = blk q := by
    rw [blk_val v']
    refine (tot_mid (l := 0) (t := 0) (by omega) (by omega) hw' hh' (by omega) (by omega) (fun x y c => pix_out (by omega))).trans (tot_congr (fun x y _ _ _ _ => by rw [Int.zero_add, Int.zero_add]))
  have e3 : tot (mx w w') (mx h h') (fun x y => pix w h p x y * pix w' h' q x y) = bothT w h p w' h' q := by
    refine (tot_mid (l := 0) (t := 0) (by omega) (by omega) W.2.2.2 H.2.2.2 (by omega) (by omega) (fun x y c => ?_)).trans (tot_congr (fun x y _ _ _ _ => by rw [Int.zero_add, Int.zero_add]))
    by_cases z : 0 ≤ x ∧ x < w ∧ 0 ≤ y ∧ y < h
    · rw [pix_out (w := w') (h := h') (by unfold mn at c; split at c <;> split at c <;> omega), Int.mul_zero]
    · rw [pix_out z, Int.zero_mul]
  have e4 : tot (mx w w') (mx h h') (fun x y => (if pix w h p x y = pix w' h' q x y then (0 : Int) else 1) + (pix w h p x y * pix w' h' q x y + pix w h p x y * pix w' h' q x y)) = tot (mx w w') (mx h h') (fun x y => pix w h p x y + pix w' h' q x y) := tot_congr (fun x y _ _ _ _ => by
    have a := v.pix01 x y
    have b := v'.pix01 x y
    generalize pix w h p x y = s at *
    generalize pix w' h' q x y = t at *
    have hs : s = 0 ∨ s = 1 := by omega
    have ht : t = 0 ∨ t = 1 := by omega
    rcases hs with rfl | rfl <;> rcases ht with rfl | rfl <;> decide)
  rw [tot_plus, tot_plus (fun x y => pix w h p x y) (fun x y => pix w' h' q x y), tot_plus] at e4
  unfold neqT
  rw [e3] at e4
  have e1' : tot (mx w w') (mx h h') (fun x y => pix w h p x y) = blk p := e1
  have e2' : tot (mx w w') (mx h h') (fun x y => pix w' h' q x y) = blk q := e2
  rw [e1', e2'] at e4
  omega
/-- The distance of two bitmaps. -/
def dsQ (w h : Int) (p : List Int) (w' h' : Int) (q : List Int) : Int := 4 * ((mx w w' - mn w w') + (mx h h' - mn h h')) + neqT w h p w' h' q
theorem dsQ_in {w h : Int} {p : List Int} {w' h' : Int} {q : List Int} (v : Val w h p) (v' : Val w' h' q) : 0 ≤ dsQ w h p w' h' q ∧ dsQ w h p w' h' q ≤ 50000 ∧ 0 ≤ neqT w h p w' h' q ∧ neqT w h p w' h' q ≤ 40000 ∧ 0 ≤ bothT w h p w' h' q ∧ bothT w h p w' h' q ≤ 40000 := by
  obtain ⟨hw, hh, hw2, hh2, _⟩ := v.sid
  obtain ⟨hw', hh', hw2', hh2', _⟩ := v'.sid
  have a := tot_in (w := mx w w') (h := mx h h') (g := fun x y => if pix w h p x y = pix w' h' q x y then 0 else 1) (by unfold mx; split <;> omega) (by unfold mx; split <;> omega) (by unfold mx; split <;> omega) (by unfold mx; split <;> omega) (fun x y => by split <;> omega)
  have b := tot_in (w := mn w w') (h := mn h h') (g := fun x y => pix w h p x y * pix w' h' q x y) (by unfold mn; split <;> omega) (by unfold mn; split <;> omega) (by unfold mn; split <;> omega) (by unfold mn; split <;> omega) (fun x y => mul01 (v.pix01 x y).1 (v.pix01 x y).2 (v'.pix01 x y).1 (v'.pix01 x y).2)
  have c : 0 ≤ mx w w' - mn w w' ∧ mx w w' - mn w w' ≤ 200 := by unfold mx mn; split <;> split <;> omega
  have d : 0 ≤ mx h h' - mn h h' ∧ mx h h' - mn h h' ≤ 200 := by unfold mx mn; split <;> split <;> omega
  have e : neqT w h p w' h' q = tot (mx w w') (mx h h') (fun x y => if pix w h p x y = pix w' h' q x y then 0 else 1) := rfl
  have f : bothT w h p w' h' q = tot (mn w w') (mn h h') (fun x y => pix w h p x y * pix w' h' q x y) := rfl
  unfold dsQ
  omega
theorem blk_in {w h : Int} {p : List Int} (v : Val w h p) : 0 ≤ blk p ∧ blk p ≤ 40000 := by
  rw [blk_val v]
  obtain ⟨hw, hh, hw2, hh2, _⟩ := v.sid
  exact tot_in hw hh hw2 hh2 (fun x y => v.pix01 x y)

/-- Every letter before i is such. -/
def allT (Q : S45 → Prop) (l : List S45) (i : Int) : Prop := ∀ j, 0 ≤ j → j < i → Q (rd_T45 l j)
theorem rdT_mem {l : List S45} {i : Int} (a : 0 ≤ i) (b : i < (l.length : Int)) : rd_T45 l i ∈ l := by
  have h : i.toNat < l.length := by omega
  have e : rd_T45 l i = l[i.toNat] := by simp [rd_T45, List.getD, h]
  rw [e]
  exact List.getElem_mem _
theorem allT_zero (Q : S45 → Prop) (l : List S45) : allT Q l 0 := fun j a b => by omega
theorem allT_succ {Q : S45 → Prop} {l : List S45} {i : Int} (i0 : 0 ≤ i) : allT Q l (i + 1) ↔ allT Q l i ∧ Q (rd_T45 l i) := by
  refine ⟨fun h => ⟨fun j a b => h j a (by omega), h i i0 (by omega)⟩, fun h j a b => ?_⟩
  by_cases e : j = i
  · rw [e]; exact h.2
  · exact h.1 j a (by omega)
theorem allT_end {Q : S45 → Prop} {l : List S45} : allT Q l (l.length : Int) ↔ ∀ a ∈ l, Q a := by
  refine ⟨fun h a ha => ?_, fun h j a b => h _ (rdT_mem a b)⟩
  obtain ⟨n, hn, rfl⟩ := List.getElem_of_mem ha
  have := h n (by omega) (by omega)
  have e : rd_T45 l (n : Int) = l[n] := by simp [rd_T45, List.getD, hn]
  rw [e] at this
  exact this
/-- A bitmap that a letter may have, and a byte that it may stand for. -/
def lOk (a : S45) : Prop := Val a.f0.f0 a.f0.f1 a.f0.f2 ∧ 1 ≤ a.f0.f0 ∧ a.f0.f0 ≤ 40 ∧ 1 ≤ a.f0.f1 ∧ a.f0.f1 ≤ 40
def bOk (a : S45) : Prop := 33 ≤ a.f1 ∧ a.f1 ≤ 126
/-- What the kit holds that is asked. -/
def lByt (a : S45) : Prop := (∀ x ∈ a.f0.f2, 0 ≤ x) ∧ (a.f0.f2.length : Int) ≤ 140737488351232
instance (a : S45) : Decidable (lOk a) := by unfold lOk; infer_instance
instance (a : S45) : Decidable (bOk a) := by unfold bOk; infer_instance
def askR (l : List S45) (w h : Int) (p : List Int) (b : Int) : Int := if Val w h p ∧ ∀ a ∈ l, lOk a then (if (l.length : Int) ≤ 100 ∧ (∀ a ∈ l, bOk a) ∧ 0 ≤ b then 0 else 2) else 30

theorem fits_is (w h : Int) : bitmap_fits.f w h = some (decide (Sid w h)) := by
  unfold bitmap_fits.f
  by_cases h1 : 0 ≤ w ∧ 0 ≤ h ∧ w ≤ 200 ∧ h ≤ 200
  · obtain ⟨a, b, c, d⟩ := h1
    have := sid_mul a b c d
    rw [if_pos (by omega), if_pos (by omega), if_pos c, if_pos d, w64 (by omega) (by omega)]
    simp [Sid, a, b, c, d]
  · have h2 : ¬ Sid w h := fun s => h1 ⟨s.1, s.2.1, s.2.2.1, s.2.2.2.1⟩
    simp only [h2, decide_false]
    split
    · split
      · split
        · split
          · omega
          · rfl
        · rfl
      · rfl
    · rfl

theorem Valid_l0 (p : List Int) (hl : (p.length : Int) ≤ 9223372036854775807) : EvP (fun k => bitmap_Valid.l0 k p (p.length : Int) 0) (· = decide (∀ x ∈ p, x ≤ 1)) := by
  refine EvP.up (L := fun k i (_ : Unit) => bitmap_Valid.l0 k p (p.length : Int) i) (fun i _ => 0 ≤ i ∧ ∀ j, 0 ≤ j → j < i → rd p j ≤ 1) p.length ?_ 0 () (by omega) ⟨by omega, fun j _ _ => by omega⟩
  intro i _ ⟨h0, hb⟩ hi ih
  refine EvP.step (fun k => by rw [bitmap_Valid.l0]) ?_
  refine EvP.ite (fun h1 => ?_) (fun h1 => ?_)
  · refine EvP.pos h0 (EvP.pos h1 (EvP.ite (fun h2 => EvP.ret ?_) (fun h2 => ?_)))
    · symm
      rw [decide_eq_false_iff_not]
      intro hall
      have := hall _ (rd_mem h0 h1)
      omega
    · rw [w64 (by omega) (by omega)]
      refine ih () h1 ⟨by omega, fun j hj hj' => ?_⟩
      rcases Int.lt_or_le j i with hji | hji
      · exact hb j hj hji
      · have : j = i := by omega
        subst this
        omega
  · refine EvP.ret ?_
    symm
    rw [decide_eq_true_iff]
    intro x hx
    obtain ⟨n, hn, rfl⟩ := List.getElem_of_mem hx
    have := hb (n : Int) (by omega) (by omega)
    rwa [rd_get p n hn] at this
theorem Valid_is (w h : Int) (p : List Int) (hp : ∀ x ∈ p, 0 ≤ x) (hl : (p.length : Int) ≤ 9223372036854775807) : EvP (fun k => bitmap_Valid.f k w h p) (· = decide (Val w h p)) := by
  unfold bitmap_Valid.f
  refine EvP.bindv (fits_is w h) ?_
  refine EvP.ite (fun h1 => ?_) (fun h1 => ?_)
  · rw [decide_eq_true_iff] at h1
    have hm := sid_mul h1.1 h1.2.1 h1.2.2.1 h1.2.2.2.1
    rw [w64 (by omega) (by omega)]
    refine EvP.step (fun k => by rw [bitmap_Valid.j0]) ?_
    refine EvP.ite (fun h2 => EvP.ret ?_) (fun h2 => ?_)
    · symm
      rw [decide_eq_false_iff_not]
      intro v
      simp [v.2.2.2.2.2.1] at h2
    · refine (Valid_l0 p hl).mono ?_
      rintro r rfl
      have e : (p.length : Int) = w * h := by simpa using h2
      apply decide_eq_decide.mpr
      constructor
      · intro hall
        exact ⟨h1.1, h1.2.1, h1.2.2.1, h1.2.2.2.1, h1.2.2.2.2, e, fun x hx => ⟨hp x hx, hall x hx⟩⟩
      · intro v x hx
        exact (v.2.2.2.2.2.2 x hx).2
  · refine EvP.step (fun k => by rw [bitmap_Valid.j0]) ?_
    refine EvP.pos rfl (EvP.ret ?_)
    symm
    rw [decide_eq_false_iff_not]
    intro v
    exact h1 (decide_eq_true v.sid)

theorem count_blk : ∀ l : List Int, (∀ x ∈ l, 0 ≤ x ∧ x ≤ 1) → ((Lib.countByte (Lib.bytesOf l) (1 : Int).toNat.toUInt8 : Nat) : Int) = sm l.length (fun i => rd l i)
  | [], _ => rfl
  | x :: xs, h => by
    have ih := count_blk xs (fun y hy => h y (List.mem_cons_of_mem _ hy))
    have hx := h x (List.mem_cons_self ..)
    have e1 : sm (x :: xs).length (fun i => rd (x :: xs) i) = x + sm xs.length (fun i => rd xs i) := by
      show sm (xs.length + 1) _ = _
      rw [sm_front]
      have e2 : rd (x :: xs) 0 = x := rfl
      rw [e2]
      congr 1
      refine sm_congr (fun i a b => ?_)
      have : (i + 1).toNat = i.toNat + 1 := by omega
      unfold rd
      rw [this]
      rfl
    rw [e1, ← ih]
    have e3 : Lib.countByte (Lib.bytesOf (x :: xs)) (1 : Int).toNat.toUInt8 = Lib.countByte (Lib.bytesOf xs) (1 : Int).toNat.toUInt8 + if (UInt8.ofNat x.toNat == (1 : Int).toNat.toUInt8) = true then 1 else 0 := List.count_cons
    rw [e3]
    rcases (show x = 0 ∨ x = 1 by omega) with rfl | rfl
    · rw [if_neg (by decide)]
      omega
    · rw [if_pos (by decide)]
      omega
def cntR (w h : Int) (p : List Int) : Int × Int := if Val w h p then (blk p, 0) else (0, 30)
theorem Count_is (w h : Int) (p : List Int) (hp : ∀ x ∈ p, 0 ≤ x) (hl : (p.length : Int) ≤ 9223372036854775807) : EvP (fun k => bitmap_Count.f k w h p) (· = cntR w h p) := by
  unfold bitmap_Count.f cntR
  refine EvP.bind (Valid_is w h p hp hl) ?_
  rintro _ rfl
  refine EvP.ite (fun q => ?_) (fun q => EvP.ret (by rw [if_neg (by simpa using q)]))
  have v : Val w h p := by simpa using q
  rw [if_pos v]
  have e : bytes_Count.f p [1] = some (blk p) := by
    unfold bytes_Count.f
    rw [if_pos (show ([1] : List Int).length = 1 from rfl)]
    exact congrArg some (count_blk p v.2.2.2.2.2.2)
  exact EvP.bindv e (EvP.ret rfl)

theorem and01 {a b : Int} (a0 : 0 ≤ a) (a1 : a ≤ 1) (b0 : 0 ≤ b) (b1 : b ≤ 1) : wrap64 (Go.bits .and .u8 a b) = a * b := by
  have ha : a = 0 ∨ a = 1 := by omega
  have hb : b = 0 ∨ b = 1 := by omega
  rcases ha with rfl | rfl <;> rcases hb with rfl | rfl <;> decide +kernel
theorem letdist_is {w h : Int} {p : List Int} {w' h' : Int} {q : List Int} (v : Val w h p) (v' : Val w' h' q) : EvP (fun k => letter_distance.f k w h p w' h' q (blk p) (blk q)) (· = dsQ w h p w' h' q) := by
  obtain ⟨hw, hh, hw2, hh2, hm⟩ := v.sid
  obtain ⟨hw', hh', hw2', hh2', hm'⟩ := v'.sid
  have hl := v.2.2.2.2.2.1
  have hl' := v'.2.2.2.2.2.1
  have nb := neq_both v v'
  have ds := dsQ_in v v'
  have bp := blk_in v
  have bq := blk_in v'
  have mnw : 0 ≤ mn w w' ∧ mn w w' ≤ w ∧ mn w w' ≤ w' ∧ mn w w' ≤ mx w w' ∧ mx w w' ≤ 200 := by unfold mn mx; split <;> split <;> omega
  have mnh : 0 ≤ mn h h' ∧ mn h h' ≤ h ∧ mn h h' ≤ h' ∧ mn h h' ≤ mx h h' ∧ mx h h' ≤ 200 := by unfold mn mx; split <;> split <;> omega
  unfold letter_distance.f
  have row01 : ∀ (y : Int) (n : Nat), (n : Int) ≤ 200 → 0 ≤ sm n (fun x => pix w h p x y * pix w' h' q x y) ∧ sm n (fun x => pix w h p x y * pix w' h' q x y) ≤ 200 := fun y n hn => by
    have := sm_bound (n := n) (f := fun x => pix w h p x y * pix w' h' q x y) (c := 1) (by omega) (fun i _ _ => mul01 (v.pix01 i y).1 (v.pix01 i y).2 (v'.pix01 i y).1 (v'.pix01 i y).2)
    omega
  have col01 : ∀ (n : Nat), (n : Int) ≤ 200 → 0 ≤ sm n (fun y => sm (mn w w').toNat (fun x => pix w h p x y * pix w' h' q x y)) ∧ sm n (fun y => sm (mn w w').toNat (fun x => pix w h p x y * pix w' h' q x y)) ≤ 40000 := fun n hn => by
    have := sm_bound (n := n) (f := fun y => sm (mn w w').toNat (fun x => pix w h p x y * pix w' h' q x y)) (c := 200) (by omega) (fun i _ _ => row01 i _ (by omega))
    omega
  refine EvP.raster (L0 := fun k y (s : Int) => letter_distance.l0 k (blk p) (blk q) (mn w w') (mn h h') s (mn h h') y w h p w' h' q) (L1 := fun k y x (s : Int) => letter_distance.l1 k (blk p) (blk q) (mn w w') (mn h h') s y (mn h h') y (mn w w') x w h p w' h' q)
    (fun y x s => s = sm y.toNat (fun y => sm (mn w w').toNat (fun x => pix w h p x y * pix w' h' q x y)) + sm x.toNat (fun x => pix w h p x y * pix w' h' q x y)) (mn w w') (mn h h') mnw.1 mnh.1 ?_ ?_ ?_ ?_ 0 rfl
  · intro y s a b _ hk
    refine EvP.step (fun k => by rw [letter_distance.l0]) ?_
    exact EvP.pos b hk
  · intro s hs
    have es : s = bothT w h p w' h' q := by
      rw [hs]
      show _ + 0 = _
      rw [Int.add_zero]
      rfl
    subst es
    refine EvP.step (fun k => by rw [letter_distance.l0]) ?_
    refine EvP.neg (by omega) (EvP.ret ?_)
    rw [w64 (x := blk p + blk q) (by omega) (by omega), w64 (x := 2 * bothT w h p w' h' q) (by omega) (by omega), w64 (x := blk p + blk q - 2 * bothT w h p w' h' q) (by omega) (by omega), w64 (x := mx w w' - mn w w') (by omega) (by omega), w64 (x := mx w w' - mn w w' + mx h h') (by omega) (by omega), w64 (x := mx w w' - mn w w' + mx h h' - mn h h') (by omega) (by omega), w64 (x := 4 * (mx w w' - mn w w' + mx h h' - mn h h')) (by omega) (by omega), w64 (by omega) (by omega)]
    unfold dsQ
    omega
  · intro y x s a b c d hs
    have pa := v.pix01 x y
    have pb := v'.pix01 x y
    have hf := flat_lt (w := w) (h := h) c (by omega) a (by omega)
    have hf' := flat_lt (w := w') (h := h') c (by omega) a (by omega)
    have ep : rd p (y * w + x) = pix w h p x y := (pix_in c (by omega) a (by omega)).symm
    have eq' : rd q (y * w' + x) = pix w' h' q x y := (pix_in c (by omega) a (by omega)).symm
    have m01 := mul01 pa.1 pa.2 pb.1 pb.2
    have c1 := col01 y.toNat (by omega)
    have r1 := row01 y x.toNat (by omega)
    refine ⟨s + pix w h p x y * pix w' h' q x y, ?_, fun hk => ?_⟩
    · rw [show (x + 1).toNat = x.toNat + 1 by omega, sm_s, show ((x.toNat : Nat) : Int) = x by omega, hs]
      omega
    · refine EvP.step (fun k => by rw [letter_distance.l1]) ?_
      rw [w64 (x := y * w) (by omega) (by omega), w64 (x := y * w + x) (by omega) (by omega), w64 (x := y * w') (by omega) (by omega), w64 (x := y * w' + x) (by omega) (by omega), ep, eq', and01 pa.1 pa.2 pb.1 pb.2, w64 (x := s + pix w h p x y * pix w' h' q x y) (by omega) (by omega), w64 (x := x + 1) (by omega) (by omega)]
      exact EvP.pos d (EvP.pos hf.2.1 (EvP.pos (by omega) (EvP.pos hf'.2.1 (EvP.pos (by omega) hk))))
  · intro y s a b hs
    refine ⟨?_, fun hk => ?_⟩
    · rw [hs, show (y + 1).toNat = y.toNat + 1 by omega, sm_s, show ((y.toNat : Nat) : Int) = y by omega]
      show _ = _ + 0
      omega
    · refine EvP.step (fun k => by rw [letter_distance.l1]) ?_
      refine EvP.neg (by omega) ?_
      rw [w64 (x := y + 1) (by omega) (by omega)]
      exact hk
def black (p : List Int) : Int := blk p
theorem black_is (w h : Int) (p : List Int) (v : Val w h p) : EvP (fun k => letter_black.f k w h p) (· = blk p) := by
  have hl : (p.length : Int) ≤ 8192 := by rw [v.2.2.2.2.2.1]; exact v.2.2.2.2.1
  unfold letter_black.f
  refine EvP.bind (Count_is w h p (fun z hz => (val_byt v z hz).1) (by omega)) ?_
  rintro _ rfl
  unfold cntR
  rw [if_pos v]
  exact EvP.ret rfl
def disR (w h : Int) (p : List Int) (w' h' : Int) (q : List Int) : Int × Int := if Val w h p ∧ Val w' h' q then (dsQ w h p w' h' q, 0) else (0, 30)
theorem Distance_is (w h : Int) (p : List Int) (w' h' : Int) (q : List Int) (hp : ∀ x ∈ p, 0 ≤ x) (hl : (p.length : Int) ≤ 9223372036854775807) (hq : ∀ x ∈ q, 0 ≤ x) (hl' : (q.length : Int) ≤ 9223372036854775807) : EvP (fun k => letter_Distance.f k w h p w' h' q) (· = disR w h p w' h' q) := by
  unfold letter_Distance.f disR
  have bad : ¬ (Val w h p ∧ Val w' h' q) → EvP (fun k => letter_Distance.j0 k true w h p w' h' q) (· = (if Val w h p ∧ Val w' h' q then (dsQ w h p w' h' q, 0) else (0, 30) : Int × Int)) := fun z => by
    rw [if_neg z]
    exact EvP.step (fun k => by rw [letter_Distance.j0]) (EvP.pos rfl (EvP.ret rfl))
  refine EvP.bind (Valid_is w h p hp hl) ?_
  rintro _ rfl
  refine EvP.ite (fun a => ?_) (fun a => bad (fun z => a (decide_eq_true z.1)))
  refine EvP.bind (Valid_is w' h' q hq hl') ?_
  rintro _ rfl
  by_cases b : Val w' h' q
  · have v : Val w h p := of_decide_eq_true a
    rw [decide_eq_true b, if_pos ⟨v, b⟩]
    refine EvP.step (fun k => by rw [letter_Distance.j0]) (EvP.neg (by decide) ?_)
    refine EvP.bind (black_is w h p v) ?_
    rintro _ rfl
    refine EvP.bind (black_is w' h' q b) ?_
    rintro _ rfl
    refine EvP.bind (letdist_is v b) ?_
    rintro _ rfl
    exact EvP.ret rfl
  · rw [decide_eq_false b]
    exact bad (fun z => b z.2)

theorem contains_is (b : Int) : EvP (fun k => slices_ContainsFunc_int_int_38.f k [b]) (· = decide (b < 0)) := by
  unfold slices_ContainsFunc_int_int_38.f slices_IndexFunc_int_int_38.f
  have e : rd [b] 0 = b := rfl
  by_cases c : b < 0
  · refine EvP.bind (Q := (· = 0)) ?_ ?_
    · refine EvP.step (fun k => by rw [slices_IndexFunc_int_int_38.l0]) ?_
      refine EvP.pos (show (0 : Int) < 1 by decide) (EvP.pos (by decide) (EvP.pos (show (0 : Int) < 1 by decide) ?_))
      refine EvP.bindv (letter_asked_1.f.eq_1 _) ?_
      rw [e]
      exact EvP.pos (decide_eq_true c) (EvP.ret rfl)
    · rintro _ rfl
      exact EvP.ret (by rw [decide_eq_true c]; rfl)
  · refine EvP.bind (Q := (· = -1)) ?_ ?_
    · refine EvP.step (fun k => by rw [slices_IndexFunc_int_int_38.l0]) ?_
      refine EvP.pos (show (0 : Int) < 1 by decide) (EvP.pos (by decide) (EvP.pos (show (0 : Int) < 1 by decide) ?_))
      refine EvP.bindv (letter_asked_1.f.eq_1 _) ?_
      rw [e]
      refine EvP.neg (by simpa using c) ?_
      refine EvP.step (fun k => by rw [slices_IndexFunc_int_int_38.l0]) ?_
      exact EvP.neg (show ¬ wrap64 (0 + 1) < (1 : Int) by unfold wrap64; decide) (EvP.ret rfl)
    · rintro _ rfl
      exact EvP.ret (by rw [decide_eq_false c]; rfl)
theorem isByte_is (a : S45) : ∃ r, letter_isByte.f a.f1 = some r ∧ (r = true ↔ bOk a) := by
  unfold letter_isByte.f bOk
  by_cases c : a.f1 ≥ 33
  · exact ⟨_, if_pos c, by rw [decide_eq_true_iff]; omega⟩
  · exact ⟨_, if_neg c, by simp; omega⟩
theorem asked_is (l : List S45) (w h : Int) (p : List Int) (b : Int) (hl : (l.length : Int) ≤ 9223372036854775806) (hb : ∀ a ∈ l, lByt a) (hp : ∀ x ∈ p, 0 ≤ x) (hpl : (p.length : Int) ≤ 9223372036854775807) :
    EvP (fun k => letter_asked.f k l w h p [b]) (· = askR l w h p b) := by
  unfold letter_asked.f
  refine EvP.bind (Valid_is w h p hp hpl) ?_
  rintro _ rfl
  refine EvP.ite (fun v => ?_) (fun v => EvP.ret (by unfold askR; rw [if_neg (fun z => v (decide_eq_true z.1))]))
  have v : Val w h p := of_decide_eq_true v
  refine EvP.up (L := fun k i (s : Bool) => letter_asked.l0 k [b] s l (l.length : Int) i) (fun i s => 0 ≤ i ∧ allT lOk l i ∧ (s = false ↔ (l.length : Int) ≤ 100 ∧ allT bOk l i)) l.length ?_ 0 _ (by omega) ⟨by omega, allT_zero _ _, by rw [decide_eq_false_iff_not]; exact ⟨fun z => ⟨by omega, allT_zero _ _⟩, fun z => by have := z.1; omega⟩⟩
  intro i s ⟨i0, hi, hs⟩ hn ih
  refine EvP.step (fun k => by rw [letter_asked.l0]) ?_
  refine EvP.ite (fun i1 => EvP.pos i0 (EvP.pos i1 ?_)) (fun i1 => ?_)
  · have m := hb _ (rdT_mem i0 i1)
    have mm := rdT_mem i0 i1
    refine EvP.bind (Valid_is _ _ _ m.1 (by have := m.2; omega)) ?_
    rintro _ rfl
    have bad : ¬ lOk (rd_T45 l i) → EvP (fun _ => some (30 : Int)) (· = askR l w h p b) := fun z => EvP.ret (by unfold askR; rw [if_neg (fun y => z (y.2 _ mm))])
    refine EvP.ite (fun c => ?_) (fun c => bad (fun z => c (decide_eq_true z.1)))
    have c : Val _ _ _ := of_decide_eq_true c
    refine EvP.ite (fun d => bad (fun z => ?_)) (fun d => ?_)
    · have := z.2.1; have := z.2.2.2.1
      unfold mn at d
      split at d <;> omega
    refine EvP.ite (fun e => bad (fun z => ?_)) (fun e => ?_)
    · have := z.2.2.1; have := z.2.2.2.2
      unfold mx at e
      split at e <;> omega
    have ok : lOk (rd_T45 l i) := by
      unfold mn at d
      unfold mx at e
      refine ⟨c, ?_⟩
      split at d <;> split at e <;> omega
    rw [w64 (x := i + 1) (by omega) (by omega)]
    have ok1 := (allT_succ i0).mpr ⟨hi, ok⟩
    refine EvP.ite (fun f => ih true i1 ⟨by omega, ok1, ?_⟩) (fun f => ?_)
    · refine ⟨fun z => by simp at z, fun z => ?_⟩
      have := hs.mpr ⟨z.1, ((allT_succ i0).mp z.2).1⟩
      rw [f] at this
      exact absurd this (by decide)
    · obtain ⟨r, hr, hr2⟩ := isByte_is (rd_T45 l i)
      refine EvP.bindv hr (ih (!r) i1 ⟨by omega, ok1, ?_⟩)
      have f : s = false := by simpa using f
      have f2 := hs.mp f
      cases r with
      | true => exact ⟨fun _ => ⟨f2.1, (allT_succ i0).mpr ⟨f2.2, hr2.mp rfl⟩⟩, fun _ => rfl⟩
      | false => exact ⟨fun z => absurd z (by decide), fun z => absurd (hr2.mpr ((allT_succ i0).mp z.2).2) (by decide)⟩
  · have e : i = (l.length : Int) := by omega
    subst e
    have i2 := allT_end.mp hi
    have e2 : ∀ c, c = (if (l.length : Int) ≤ 100 ∧ (∀ a ∈ l, bOk a) ∧ 0 ≤ b then (0 : Int) else 2) → c = askR l w h p b := fun c hc => by unfold askR; rw [if_pos ⟨v, i2⟩]; rw [hc]
    refine EvP.ite (fun f => EvP.ret (e2 _ ?_)) (fun f => ?_)
    · rw [if_neg (fun z => by have := hs.mpr ⟨z.1, allT_end.mpr z.2.1⟩; rw [f] at this; exact absurd this (by decide))]
    · have f2 := hs.mp (by simpa using f)
      refine EvP.bind (contains_is b) ?_
      rintro _ rfl
      refine EvP.ite (fun g => EvP.ret (e2 _ ?_)) (fun g => EvP.ret (e2 _ ?_))
      · have g : b < 0 := of_decide_eq_true g
        rw [if_neg (fun z => by have := z.2.2; omega)]
      · have g : ¬ b < 0 := by simpa using g
        rw [if_pos ⟨f2.1, allT_end.mp f2.2, by omega⟩]

/-- The first least of the first n. -/
def bst (d : Int → Int) : Nat → Int
  | 0 => -1
  | n + 1 => if bst d n < 0 ∨ d n < d (bst d n) then n else bst d n
theorem bst_in (d : Int → Int) : ∀ n : Nat, -1 ≤ bst d n ∧ bst d n < n ∧ (0 < n → 0 ≤ bst d n)
  | 0 => ⟨Int.le_refl _, (by decide : (-1 : Int) < 0), fun h => absurd h (by decide)⟩
  | n + 1 => by
    have ih := bst_in d n
    unfold bst
    split <;> omega
/-- How far a letter is from a bitmap. -/
def lDis (l : List S45) (w h : Int) (p : List Int) (j : Int) : Int := dsQ (rd_T45 l j).f0.f0 (rd_T45 l j).f0.f1 (rd_T45 l j).f0.f2 w h p
def oneR (l : List S45) (w h : Int) (p : List Int) (b : Int) : Int × Int :=
  if bst (lDis l w h p) l.length < 0 then (63, 0) else (if lDis l w h p (bst (lDis l w h p) l.length) > b then (63, lDis l w h p (bst (lDis l w h p) l.length)) else ((rd_T45 l (bst (lDis l w h p) l.length)).f1, lDis l w h p (bst (lDis l w h p) l.length)))
theorem newReader_is (l : List S45) (b : Int) (hl : (l.length : Int) ≤ 100) (ok : ∀ a ∈ l, lOk a) : EvP (fun k => letter_newReader.f k l b) (fun r => r.1 = l ∧ r.2.2 = b ∧ r.2.1.length = l.length ∧ ∀ j, 0 ≤ j → j < (l.length : Int) → rd r.2.1 j = blk (rd_T45 l j).f0.f2) := by
  unfold letter_newReader.f
  refine EvP.up (L := fun k i (s : List Int) => letter_newReader.l0 k l (l.length : Int) i l s b) (fun i s => 0 ≤ i ∧ (s.length : Int) = i ∧ ∀ j, 0 ≤ j → j < i → rd s j = blk (rd_T45 l j).f0.f2) l.length ?_ 0 _ (by omega) ⟨by omega, rfl, fun j a b => by omega⟩
  intro i s ⟨i0, hs, hr⟩ hn ih
  refine EvP.step (fun k => by rw [letter_newReader.l0]) ?_
  refine EvP.ite (fun i1 => EvP.pos i0 (EvP.pos i1 ?_)) (fun i1 => EvP.ret ⟨rfl, rfl, ?_, ?_⟩)
  · refine EvP.bind (black_is _ _ _ (ok _ (rdT_mem i0 i1)).1) ?_
    rintro _ rfl
    refine EvP.pos (by omega) ?_
    rw [w64 (x := i + 1) (by omega) (by omega)]
    refine ih _ i1 ⟨by omega, ?_, fun j a c => ?_⟩
    · rw [List.length_append]
      show ((s.length + 1 : Nat) : Int) = _
      omega
    · rw [rd_append _ _ _ a]
      split
      · next e => rw [e, hs]
      · exact hr j a (by omega)
  · show s.length = l.length
    omega
  · intro j a c
    exact hr j a (by omega)
theorem one_b_is (l : List S45) (c : List Int) (w h : Int) (p : List Int) (b : Int) (hl : (l.length : Int) ≤ 100) (ok : ∀ a ∈ l, lOk a) (v : Val w h p) (hb : 0 ≤ b) (cl : c.length = l.length) (hc : ∀ j, 0 ≤ j → j < (l.length : Int) → rd c j = blk (rd_T45 l j).f0.f2) :
    EvP (fun k => letter_reader_one_b.f k l c b w h p) (· = oneR l w h p b) := by
  unfold letter_reader_one_b.f
  refine EvP.bind (black_is w h p v) ?_
  rintro _ rfl
  refine EvP.up (L := fun k i (s : Int × Int) => letter_reader_one_b.l0 k (blk p) s.1 s.2 l (l.length : Int) i l c b w h p) (fun i s => 0 ≤ i ∧ (i = 0 → s = (63, 0)) ∧ (0 < i → s = ((rd_T45 l (bst (lDis l w h p) i.toNat)).f1, lDis l w h p (bst (lDis l w h p) i.toNat)))) l.length ?_ 0 (63, 0) (by omega) ⟨by omega, fun _ => rfl, fun z => absurd z (by decide)⟩
  intro i s ⟨i0, hs0, hs1⟩ hn ih
  refine EvP.step (fun k => by rw [letter_reader_one_b.l0]) ?_
  refine EvP.ite (fun i1 => EvP.pos i0 (EvP.pos i1 (EvP.pos (by omega) ?_))) (fun i1 => ?_)
  · rw [hc i i0 i1]
    refine EvP.bind (letdist_is (ok _ (rdT_mem i0 i1)).1 v) ?_
    rintro _ rfl
    have tn : (i + 1).toNat = i.toNat + 1 := by omega
    have ti : ((i.toNat : Nat) : Int) = i := by omega
    have bi := bst_in (lDis l w h p) i.toNat
    have eb : bst (lDis l w h p) (i + 1).toNat = if bst (lDis l w h p) i.toNat < 0 ∨ lDis l w h p i < lDis l w h p (bst (lDis l w h p) i.toNat) then i else bst (lDis l w h p) i.toNat := by
      rw [tn]
      show (if _ then _ else _) = _
      rw [ti]
    rw [w64 (x := i + 1) (by omega) (by omega)]
    refine EvP.ite (fun z => ih ((rd_T45 l i).f1, lDis l w h p i) i1 ⟨by omega, fun y => by omega, fun _ => ?_⟩) (fun z => ?_)
    · rw [eb, if_pos (.inl (by subst z; exact (by decide : (-1 : Int) < 0)))]
    · have hs := hs1 (by omega)
      subst hs
      have b0 := bi.2.2 (by omega)
      refine EvP.ite (fun y => ih ((rd_T45 l i).f1, lDis l w h p i) i1 ⟨by omega, fun y => by omega, fun _ => ?_⟩) (fun y => ih _ i1 ⟨by omega, fun y => by omega, fun _ => ?_⟩)
      · rw [eb, if_pos (.inr y)]
      · rw [eb, if_neg (fun x => x.elim (fun x => by omega) y)]
  · have e : i = (l.length : Int) := by omega
    subst e
    have bi := bst_in (lDis l w h p) l.length
    have tn : ((l.length : Int)).toNat = l.length := by omega
    rw [tn] at hs1
    unfold oneR
    by_cases z : l.length = 0
    · have hs := hs0 (by omega)
      subst hs
      refine EvP.neg (by show ¬ (0 : Int) > b; omega) (EvP.ret ?_)
      rw [if_pos (by omega)]
    · have hs := hs1 (by omega)
      subst hs
      have b0 := bi.2.2 (by omega)
      rw [if_neg (show ¬ bst (lDis l w h p) l.length < 0 by omega)]
      refine EvP.ite (fun y => EvP.ret ?_) (fun y => EvP.ret ?_)
      · rw [if_pos y]
      · rw [if_neg y]
def oneQ (l : List S45) (w h : Int) (p : List Int) (b : Int) : Int × Int × Int := if askR l w h p b = 0 then ((oneR l w h p b).1, (oneR l w h p b).2, 0) else (0, 0, askR l w h p b)
theorem askR_zero {l : List S45} {w h : Int} {p : List Int} {b : Int} (e : askR l w h p b = 0) : Val w h p ∧ (∀ a ∈ l, lOk a) ∧ (l.length : Int) ≤ 100 ∧ 0 ≤ b := by
  unfold askR at e
  split at e
  · next a =>
    split at e
    · next c => exact ⟨a.1, a.2, c.1, c.2.2⟩
    · exact absurd e (by decide)
  · exact absurd e (by decide)
theorem One_is (l : List S45) (w h : Int) (p : List Int) (b : Int) (hl : (l.length : Int) ≤ 9223372036854775806) (hb : ∀ a ∈ l, lByt a) (hp : ∀ x ∈ p, 0 ≤ x) (hpl : (p.length : Int) ≤ 9223372036854775807) :
    EvP (fun k => letter_One.f k l w h p b) (· = oneQ l w h p b) := by
  unfold letter_One.f oneQ
  refine EvP.bind (asked_is l w h p b hl hb hp hpl) ?_
  rintro _ rfl
  refine EvP.ite (fun e => ?_) (fun e => EvP.ret (by rw [if_neg e]))
  rw [if_pos e]
  obtain ⟨v, ok, hl1, b0⟩ := askR_zero e
  refine EvP.bind (newReader_is l b hl1 ok) ?_
  rintro ⟨l', c, b'⟩ ⟨e1, e2, e3, e4⟩
  dsimp only at e1 e2 e3 e4
  subst e1
  subst e2
  unfold letter_reader_one.f
  refine EvP.bind (Q := (· = ((oneR l' w h p b').1, (oneR l' w h p b').2, b'))) ?_ ?_
  · refine EvP.bind (one_b_is l' c w h p b' hl1 ok v b0 e3 e4) ?_
    rintro _ rfl
    exact EvP.ret rfl
  · rintro _ rfl
    exact EvP.ret rfl

theorem Pix_is {w h : Int} {p : List Int} (v : Val w h p) (x y : Int) : incunableref06_Pix.f w h p x y = some (pix w h p x y) := by
  unfold incunableref06_Pix.f
  by_cases hc : 0 ≤ x ∧ x < w ∧ 0 ≤ y ∧ y < h
  · have hf := flat_lt hc.1 hc.2.1 hc.2.2.1 hc.2.2.2
    have hm := v.2.2.2.2.1
    have hl := v.2.2.2.2.2.1
    rw [if_neg (by omega), if_neg (by omega), if_neg (by omega), if_neg (by omega)]
    have e : wrap64 (y * w) = y * w := w64 (by omega) (by omega)
    rw [e, w64 (by omega) (by omega), if_pos hf.2.1, if_pos (by omega), pix_in hc.1 hc.2.1 hc.2.2.1 hc.2.2.2]
  · rw [pix_out hc]
    by_cases a : x < 0
    · rw [if_pos a]
    rw [if_neg a]
    by_cases b : y < 0
    · rw [if_pos b]
    rw [if_neg b]
    by_cases c : x ≥ w
    · rw [if_pos c]
    rw [if_neg c, if_pos (by omega)]
theorem IsBitmap_is (w h : Int) (p : List Int) (hp : ∀ x ∈ p, 0 ≤ x) (hl : (p.length : Int) ≤ 9223372036854775806) : EvP (fun k => incunableref06_IsBitmap.f k w h p) (· = decide (Val w h p)) := by
  unfold incunableref06_IsBitmap.f
  have e1 : incunableref06_IsSize.f w h = some (decide (Sid w h)) := by
    unfold incunableref06_IsSize.f
    by_cases a : w ≥ 0
    · rw [if_pos a]
      by_cases b : w ≤ 200
      · rw [if_pos b]
        by_cases c : h ≥ 0
        · rw [if_pos c]
          by_cases d : h ≤ 200
          · have := sid_mul a c b d
            rw [if_pos d, w64 (by omega) (by omega)]
            exact congrArg some (decide_eq_decide.mpr ⟨fun z => ⟨a, c, b, d, z⟩, fun z => z.2.2.2.2⟩)
          · rw [if_neg d]; exact congrArg some (decide_eq_false (fun z => d z.2.2.2.1)).symm
        · rw [if_neg c]; exact congrArg some (decide_eq_false (fun z => c z.2.1)).symm
      · rw [if_neg b]; exact congrArg some (decide_eq_false (fun z => b z.2.2.1)).symm
    · rw [if_neg a]; exact congrArg some (decide_eq_false (fun z => a z.1)).symm
  refine EvP.bindv e1 ?_
  refine EvP.ite (fun s => ?_) (fun s => EvP.ret (decide_eq_false (fun z => s (decide_eq_true z.sid))).symm)
  have s : Sid w h := of_decide_eq_true s
  have := sid_mul s.1 s.2.1 s.2.2.1 s.2.2.2.1
  rw [show wrap64 (w * h) = w * h from w64 (by omega) (by omega)]
  refine EvP.ite (fun e => ?_) (fun e => EvP.ret (decide_eq_false (fun z => e z.2.2.2.2.2.1)).symm)
  have row : EvP (fun k => incunableref06_IsRow.f k p) (· = decide (∀ x ∈ p, 0 ≤ x ∧ x ≤ 1)) := by
    unfold incunableref06_IsRow.f
    refine EvP.up (L := fun k i (_ : Unit) => incunableref06_IsRow.l0 k p (p.length : Int) i) (fun i _ => 0 ≤ i ∧ ∀ j, 0 ≤ j → j < i → rd p j ≤ 1) p.length ?_ 0 () (by omega) ⟨by omega, fun j a b => by omega⟩
    intro i _ ⟨i0, hi⟩ hn ih
    refine EvP.step (fun k => by rw [incunableref06_IsRow.l0]) ?_
    refine EvP.ite (fun i1 => EvP.pos i0 (EvP.pos i1 (EvP.ite (fun c => EvP.ret ?_) (fun c => ?_)))) (fun i1 => EvP.ret ?_)
    · exact (decide_eq_false (fun z => by have := (z _ (rd_mem i0 i1)).2; omega)).symm
    · rw [w64 (x := i + 1) (by omega) (by omega)]
      refine ih () i1 ⟨by omega, fun j a b => ?_⟩
      by_cases z : j = i
      · subst z; omega
      · exact hi j a (by omega)
    · refine (decide_eq_true (fun x hx => ⟨hp x hx, ?_⟩)).symm
      obtain ⟨n, hn', rfl⟩ := List.getElem_of_mem hx
      have := hi n (by omega) (by omega)
      rw [rd_get p n hn'] at this
      exact this
  refine EvP.bind row ?_
  rintro _ rfl
  refine EvP.ret (decide_eq_decide.mpr ⟨fun z => ⟨s.1, s.2.1, s.2.2.1, s.2.2.2.1, s.2.2.2.2, e, z⟩, fun z => z.2.2.2.2.2.2⟩)
theorem refdist_is {w h : Int} {p : List Int} {w' h' : Int} {q : List Int} (v : Val w h p) (v' : Val w' h' q) : EvP (fun k => incunableref30_distance.f k w h p w' h' q) (· = dsQ w h p w' h' q) := by
  obtain ⟨hw, hh, hw2, hh2, hm⟩ := v.sid
  obtain ⟨hw', hh', hw2', hh2', hm'⟩ := v'.sid
  have ds := dsQ_in v v'
  have mxw : 0 ≤ mx w w' ∧ mx w w' ≤ 200 := by unfold mx; split <;> omega
  have mxh : 0 ≤ mx h h' ∧ mx h h' ≤ 200 := by unfold mx; split <;> omega
  have aw : mx (w - w') (-(w - w')) = mx w w' - mn w w' := by unfold mx mn; split <;> split <;> split <;> omega
  have ah : mx (h - h') (-(h - h')) = mx h h' - mn h h' := by unfold mx mn; split <;> split <;> split <;> omega
  have dw : 0 ≤ mx w w' - mn w w' ∧ mx w w' - mn w w' ≤ 200 := by unfold mx mn; split <;> split <;> omega
  have dh : 0 ≤ mx h h' - mn h h' ∧ mx h h' - mn h h' ≤ 200 := by unfold mx mn; split <;> split <;> omega
  unfold incunableref30_distance.f incunableref30_abs.f
  simp only [Option.bind_some]
  rw [w64 (x := w - w') (by omega) (by omega), w64 (x := -(w - w')) (by omega) (by omega), w64 (x := h - h') (by omega) (by omega), w64 (x := -(h - h')) (by omega) (by omega), aw, ah, w64 (x := mx w w' - mn w w' + (mx h h' - mn h h')) (by omega) (by omega), w64 (by omega) (by omega)]
  have n01 : ∀ x y : Int, 0 ≤ (if pix w h p x y = pix w' h' q x y then (0 : Int) else 1) ∧ (if pix w h p x y = pix w' h' q x y then (0 : Int) else 1) ≤ 1 := fun x y => by split <;> omega
  have row01 : ∀ (y : Int) (n : Nat), (n : Int) ≤ 200 → 0 ≤ sm n (fun x => if pix w h p x y = pix w' h' q x y then (0 : Int) else 1) ∧ sm n (fun x => if pix w h p x y = pix w' h' q x y then (0 : Int) else 1) ≤ 200 := fun y n hn => by
    have := sm_bound (n := n) (f := fun x => if pix w h p x y = pix w' h' q x y then (0 : Int) else 1) (c := 1) (by omega) (fun i _ _ => n01 i y)
    omega
  have col01 : ∀ (n : Nat), (n : Int) ≤ 200 → 0 ≤ sm n (fun y => sm (mx w w').toNat (fun x => if pix w h p x y = pix w' h' q x y then (0 : Int) else 1)) ∧ sm n (fun y => sm (mx w w').toNat (fun x => if pix w h p x y = pix w' h' q x y then (0 : Int) else 1)) ≤ 40000 := fun n hn => by
    have := sm_bound (n := n) (f := fun y => sm (mx w w').toNat (fun x => if pix w h p x y = pix w' h' q x y then (0 : Int) else 1)) (c := 200) (by omega) (fun i _ _ => row01 i _ (by omega))
    omega
  refine EvP.raster (L0 := fun k y (s : Int) => incunableref30_distance.l0 k s y w h p w' h' q) (L1 := fun k y x (s : Int) => incunableref30_distance.l1 k s y x w h p w' h' q)
    (fun y x s => s = 4 * (mx w w' - mn w w' + (mx h h' - mn h h')) + sm y.toNat (fun y => sm (mx w w').toNat (fun x => if pix w h p x y = pix w' h' q x y then (0 : Int) else 1)) + sm x.toNat (fun x => if pix w h p x y = pix w' h' q x y then (0 : Int) else 1)) (mx w w') (mx h h') mxw.1 mxh.1 ?_ ?_ ?_ ?_ _ (by show _ = _ + 0 + 0; omega)
  · intro y s a b _ hk
    refine EvP.step (fun k => by rw [incunableref30_distance.l0]) ?_
    exact EvP.pos b hk
  · intro s hs
    refine EvP.step (fun k => by rw [incunableref30_distance.l0]) ?_
    refine EvP.neg (by omega) (EvP.ret ?_)
    rw [hs]
    show _ + 0 = _
    rw [Int.add_zero]
    rfl
  · intro y x s a b c d hs
    have c1 := col01 y.toNat (by omega)
    have r1 := row01 y x.toNat (by omega)
    refine ⟨s + (if pix w h p x y = pix w' h' q x y then (0 : Int) else 1), ?_, fun hk => ?_⟩
    · rw [show (x + 1).toNat = x.toNat + 1 by omega, sm_s, show ((x.toNat : Nat) : Int) = x by omega, hs]
      omega
    · refine EvP.step (fun k => by rw [incunableref30_distance.l1]) ?_
      refine EvP.pos d (EvP.bindv (Pix_is v x y) (EvP.bindv (Pix_is v' x y) ?_))
      rw [w64 (x := x + 1) (by omega) (by omega)]
      refine EvP.ite (fun e => ?_) (fun e => ?_)
      · rw [if_pos e, Int.add_zero] at hk
        exact hk
      · rw [if_neg e] at hk
        rw [w64 (x := s + 1) (by omega) (by omega)]
        exact hk
  · intro y s a b hs
    refine ⟨?_, fun hk => ?_⟩
    · rw [hs, show (y + 1).toNat = y.toNat + 1 by omega, sm_s, show ((y.toNat : Nat) : Int) = y by omega]
      show _ = _ + 0
      omega
    · refine EvP.step (fun k => by rw [incunableref30_distance.l1]) ?_
      refine EvP.neg (by omega) ?_
      rw [w64 (x := y + 1) (by omega) (by omega)]
      exact hk
theorem refDistance_is (w h : Int) (p : List Int) (w' h' : Int) (q : List Int) (hp : ∀ x ∈ p, 0 ≤ x) (hl : (p.length : Int) ≤ 9223372036854775806) (hq : ∀ x ∈ q, 0 ≤ x) (hl' : (q.length : Int) ≤ 9223372036854775806) : EvP (fun k => incunableref30_Distance.f k w h p w' h' q) (· = disR w h p w' h' q) := by
  unfold incunableref30_Distance.f disR
  refine EvP.bind (IsBitmap_is w h p hp hl) ?_
  rintro _ rfl
  refine EvP.ite (fun a => ?_) (fun a => EvP.ret (by rw [if_neg (fun z => a (decide_eq_true z.1))]))
  refine EvP.bind (IsBitmap_is w' h' q hq hl') ?_
  rintro _ rfl
  refine EvP.ite (fun b => ?_) (fun b => EvP.ret (by rw [if_neg (fun z => b (decide_eq_true z.2))]))
  have v : Val w h p := of_decide_eq_true a
  have v' : Val w' h' q := of_decide_eq_true b
  rw [if_pos ⟨v, v'⟩]
  refine EvP.bind (refdist_is v v') ?_
  rintro _ rfl
  exact EvP.ret rfl

theorem refAsked_is (l : List S45) (w h : Int) (p : List Int) (b : Int) (hl : (l.length : Int) ≤ 9223372036854775806) (hb : ∀ a ∈ l, lByt a) :
    EvP (fun k => incunableref30_asked.f k l (decide (Val w h p)) (decide (b ≥ 0))) (· = askR l w h p b) := by
  unfold incunableref30_asked.f
  refine EvP.up (L := fun k i (s : Bool × Bool) => incunableref30_asked.l0 k l s.1 s.2 l (l.length : Int) i) (fun i s => 0 ≤ i ∧ (s.1 = true ↔ Val w h p ∧ allT lOk l i) ∧ (s.2 = true ↔ 0 ≤ b ∧ allT bOk l i)) l.length ?_ 0 (decide (Val w h p), decide (b ≥ 0)) (by omega) ⟨by omega, ⟨fun z => ⟨of_decide_eq_true z, allT_zero _ _⟩, fun z => decide_eq_true z.1⟩, ⟨fun z => ⟨of_decide_eq_true z, allT_zero _ _⟩, fun z => decide_eq_true z.1⟩⟩
  intro i ⟨s, t⟩ ⟨i0, hs, ht⟩ hn ih
  dsimp only at hs ht
  refine EvP.step (fun k => by rw [incunableref30_asked.l0]) ?_
  refine EvP.ite (fun i1 => EvP.pos i0 (EvP.pos i1 ?_)) (fun i1 => ?_)
  · have m := hb _ (rdT_mem i0 i1)
    generalize ea : rd_T45 l i = a at *
    have fin : ∀ S T : Bool, (S = true ↔ s = true ∧ lOk a) → (T = true ↔ t = true ∧ bOk a) → EvP (fun k => incunableref30_asked.l0 k l S T l (l.length : Int) (wrap64 (i + 1))) (· = askR l w h p b) := fun S T hS hT => by
      rw [w64 (x := i + 1) (by omega) (by omega)]
      refine ih (S, T) i1 ⟨by omega, ?_, ?_⟩
      · show S = true ↔ _
        rw [allT_succ i0, ea, hS, hs, and_assoc]
      · show T = true ↔ _
        rw [allT_succ i0, ea, hT, ht, and_assoc]
    have two : ∀ S : Bool, (S = true ↔ s = true ∧ lOk a) → EvP (fun k => if t = true then (if a.f1 ≥ 33 then incunableref30_asked.l0 k l S (decide (a.f1 ≤ 126)) l (l.length : Int) (wrap64 (i + 1)) else incunableref30_asked.l0 k l S false l (l.length : Int) (wrap64 (i + 1))) else incunableref30_asked.l0 k l S false l (l.length : Int) (wrap64 (i + 1))) (· = askR l w h p b) := fun S hS => by
      refine EvP.ite (fun c => EvP.ite (fun d => fin _ _ hS ?_) (fun d => fin _ _ hS ?_)) (fun c => fin _ _ hS ?_)
      · exact ⟨fun z => ⟨c, d, of_decide_eq_true z⟩, fun z => decide_eq_true z.2.2⟩
      · exact ⟨fun z => absurd z (by decide), fun z => absurd z.2.1 d⟩
      · exact ⟨fun z => absurd z (by decide), fun z => absurd z.1 c⟩
    have no : ¬ (s = true ∧ lOk a) → (false = true ↔ s = true ∧ lOk a) := fun z => ⟨fun y => absurd y (by decide), fun y => absurd y z⟩
    refine EvP.ite (fun c => ?_) (fun c => two _ (no (fun z => c z.1)))
    refine EvP.bind (IsBitmap_is _ _ _ m.1 (by have := m.2; omega)) ?_
    rintro _ rfl
    refine EvP.ite (fun d => ?_) (fun d => two _ (no (fun z => d (decide_eq_true z.2.1))))
    have d : Val _ _ _ := of_decide_eq_true d
    refine EvP.ite (fun e => ?_) (fun e => two _ (no (fun z => e z.2.2.1)))
    refine EvP.ite (fun f => ?_) (fun f => two _ (no (fun z => f z.2.2.2.1)))
    refine EvP.ite (fun g => ?_) (fun g => two _ (no (fun z => g z.2.2.2.2.1)))
    exact two _ ⟨fun z => ⟨c, d, e, f, g, of_decide_eq_true z⟩, fun z => decide_eq_true z.2.2.2.2.2⟩
  · have e : i = (l.length : Int) := by omega
    subst e
    rw [allT_end] at hs ht
    unfold askR
    refine EvP.ite (fun c => ?_) (fun c => EvP.ret ?_)
    · rw [if_pos (hs.mp c)]
      refine EvP.ite (fun d => ?_) (fun d => EvP.ret ?_)
      · refine EvP.ite (fun e => EvP.ret ?_) (fun e => EvP.ret ?_)
        · rw [if_neg (fun z => by have := z.1; omega)]
        · rw [if_pos ⟨by omega, (ht.mp d).2, (ht.mp d).1⟩]
      · rw [if_neg (fun z => d (ht.mpr ⟨z.2.2, z.2.1⟩))]
    · rw [if_neg (fun z => c (hs.mpr z))]

theorem refone_is (l : List S45) (w h : Int) (p : List Int) (b : Int) (hl : (l.length : Int) ≤ 100) (ok : ∀ a ∈ l, lOk a) (v : Val w h p) : EvP (fun k => incunableref30_one.f k l w h p b) (· = oneR l w h p b) := by
  unfold incunableref30_one.f
  refine EvP.up (L := fun k i (s : Int) => incunableref30_one.l0 k l b s l (l.length : Int) i w h p) (fun i s => 0 ≤ i ∧ s = bst (lDis l w h p) i.toNat) l.length ?_ 0 (-1) (by omega) ⟨by omega, rfl⟩
  rintro i _ ⟨i0, rfl⟩ hn ih
  have bi := bst_in (lDis l w h p) i.toNat
  refine EvP.step (fun k => by rw [incunableref30_one.l0]) ?_
  refine EvP.ite (fun i1 => EvP.pos i0 (EvP.pos i1 ?_)) (fun i1 => ?_)
  · have tn : (i + 1).toNat = i.toNat + 1 := by omega
    have ti : ((i.toNat : Nat) : Int) = i := by omega
    have eb : bst (lDis l w h p) (i + 1).toNat = if bst (lDis l w h p) i.toNat < 0 ∨ lDis l w h p i < lDis l w h p (bst (lDis l w h p) i.toNat) then i else bst (lDis l w h p) i.toNat := by
      rw [tn]
      show (if _ then _ else _) = _
      rw [ti]
    rw [w64 (x := i + 1) (by omega) (by omega)]
    refine EvP.ite (fun z => ih i i1 ⟨by omega, ?_⟩) (fun z => ?_)
    · rw [eb, if_pos (.inl z)]
    · have b1 : bst (lDis l w h p) i.toNat < (l.length : Int) := by omega
      have b0 : 0 ≤ bst (lDis l w h p) i.toNat := by omega
      refine EvP.bind (refdist_is (ok _ (rdT_mem i0 i1)).1 v) ?_
      rintro _ rfl
      refine EvP.pos b0 (EvP.pos b1 ?_)
      refine EvP.bind (refdist_is (ok _ (rdT_mem b0 b1)).1 v) ?_
      rintro _ rfl
      refine EvP.ite (fun y => ih i i1 ⟨by omega, ?_⟩) (fun y => ih _ i1 ⟨by omega, ?_⟩)
      · rw [eb, if_pos (.inr y)]
      · rw [eb, if_neg (fun x => x.elim z y)]
  · have e : i = (l.length : Int) := by omega
    subst e
    have tn : ((l.length : Int)).toNat = l.length := by omega
    rw [tn] at bi ⊢
    unfold oneR
    refine EvP.ite (fun z => EvP.ret (by rw [if_pos z])) (fun z => ?_)
    have b1 : bst (lDis l w h p) l.length < (l.length : Int) := by omega
    have b0 : 0 ≤ bst (lDis l w h p) l.length := by omega
    refine EvP.pos b0 (EvP.pos b1 ?_)
    refine EvP.bind (refdist_is (ok _ (rdT_mem b0 b1)).1 v) ?_
    rintro _ rfl
    rw [if_neg z]
    refine EvP.ite (fun y => EvP.ret ?_) (fun y => EvP.ret ?_)
    · rw [show lDis l w h p (bst (lDis l w h p) l.length) = dsQ _ _ _ w h p from rfl, if_pos y]
    · rw [show lDis l w h p (bst (lDis l w h p) l.length) = dsQ _ _ _ w h p from rfl, if_neg y]
theorem refOne_is (l : List S45) (w h : Int) (p : List Int) (b : Int) (hl : (l.length : Int) ≤ 9223372036854775806) (hb : ∀ a ∈ l, lByt a) (hp : ∀ x ∈ p, 0 ≤ x) (hpl : (p.length : Int) ≤ 9223372036854775806) :
    EvP (fun k => incunableref30_One.f k l w h p b) (· = oneQ l w h p b) := by
  unfold incunableref30_One.f oneQ
  refine EvP.bind (IsBitmap_is w h p hp hpl) ?_
  rintro _ rfl
  refine EvP.bind (refAsked_is l w h p b hl hb) ?_
  rintro _ rfl
  refine EvP.ite (fun e => ?_) (fun e => EvP.ret (by rw [if_neg e]))
  rw [if_pos e]
  obtain ⟨v, ok, hl1, b0⟩ := askR_zero e
  refine EvP.bind (refone_is l w h p b hl1 ok v) ?_
  rintro _ rfl
  exact EvP.ret rfl

/-- The next row of distances. -/
def nxt (r : Nat → Nat) (i : Nat) (e : Nat → Nat) : Nat → Nat
  | 0 => i + 1
  | j + 1 => min (min (r j + e j) (r (j + 1) + 1)) (nxt r i e j + 1)
def un (x y : Int) : Nat := if x = y then 0 else 1
/-- The distance of the first i of a and the first j of b. -/
def lv (a b : Nat → Int) : Nat → Nat → Nat
  | 0 => fun j => j
  | i + 1 => nxt (lv a b i) i (fun j => un (a i) (b j))
theorem lv_0 (a b : Nat → Int) (j : Nat) : lv a b 0 j = j := rfl
theorem lv_s0 (a b : Nat → Int) (i : Nat) : lv a b (i + 1) 0 = i + 1 := rfl
theorem lv_i0 (a b : Nat → Int) (i : Nat) : lv a b i 0 = i := by cases i <;> rfl
theorem lv_ss (a b : Nat → Int) (i j : Nat) : lv a b (i + 1) (j + 1) = min (min (lv a b i j + un (a i) (b j)) (lv a b i (j + 1) + 1)) (lv a b (i + 1) j + 1) := rfl
theorem un_swap (x y : Int) : un x y = un y x := by
  unfold un
  by_cases h : x = y
  · rw [if_pos h, if_pos h.symm]
  · rw [if_neg h, if_neg (fun e => h e.symm)]
theorem un_tri (x y z : Int) : un x z ≤ un x y + un y z := by
  unfold un
  by_cases h : x = y
  · subst h
    simp
  · rw [if_neg h]
    split <;> omega
theorem un_01 (x y : Int) : un x y ≤ 1 := by
  unfold un
  split <;> omega
theorem lv_swap (a b : Nat → Int) : ∀ (n i j : Nat), i + j ≤ n → lv a b i j = lv b a j i
  | 0, i, j, h => by
    have h1 : i = 0 := by omega
    have h2 : j = 0 := by omega
    subst h1 h2
    rfl
  | n + 1, 0, j, h => by rw [lv_0, lv_i0]
  | n + 1, i + 1, 0, h => by rw [lv_s0, lv_0]
  | n + 1, i + 1, j + 1, h => by
    rw [lv_ss, lv_ss, lv_swap a b n i j (by omega), lv_swap a b n i (j + 1) (by omega), lv_swap a b n (i + 1) j (by omega), un_swap]
    omega
theorem lv_le (a b : Nat → Int) : ∀ (n i j : Nat), i + j ≤ n → lv a b i j ≤ i + j
  | 0, i, j, h => by
    have h1 : i = 0 := by omega
    subst h1
    rw [lv_0]
    omega
  | n + 1, 0, j, h => by rw [lv_0]; omega
  | n + 1, i + 1, 0, h => by rw [lv_s0]; omega
  | n + 1, i + 1, j + 1, h => by
    rw [lv_ss]
    have := lv_le a b n i (j + 1) (by omega)
    omega
theorem lv_del (a b : Nat → Int) (i j : Nat) : lv a b (i + 1) j ≤ lv a b i j + 1 := by
  cases j with
  | zero => rw [lv_s0, lv_i0]; omega
  | succ j => rw [lv_ss]; omega
theorem lv_ins (a b : Nat → Int) (i j : Nat) : lv a b i (j + 1) ≤ lv a b i j + 1 := by
  cases i with
  | zero => rw [lv_0, lv_0]; omega
  | succ i => rw [lv_ss]; omega
theorem lv_way (a b : Nat → Int) (i k : Nat) : (∃ i', i = i' + 1 ∧ lv a b i (k + 1) = lv a b i' k + un (a i') (b k)) ∨ (∃ i', i = i' + 1 ∧ lv a b i (k + 1) = lv a b i' (k + 1) + 1) ∨ lv a b i (k + 1) = lv a b i k + 1 := by
  cases i with
  | zero => right; right; rfl
  | succ i =>
    have h := lv_ss a b i k
    rcases (show lv a b (i + 1) (k + 1) = lv a b i k + un (a i) (b k) ∨ lv a b (i + 1) (k + 1) = lv a b i (k + 1) + 1 ∨ lv a b (i + 1) (k + 1) = lv a b (i + 1) k + 1 by omega) with q | q | q
    · exact .inl ⟨i, rfl, q⟩
    · exact .inr (.inl ⟨i, rfl, q⟩)
    · exact .inr (.inr q)
theorem lv_way' (a b : Nat → Int) (k j : Nat) : (∃ j', j = j' + 1 ∧ lv a b (k + 1) j = lv a b k j' + un (a k) (b j')) ∨ (∃ j', j = j' + 1 ∧ lv a b (k + 1) j = lv a b (k + 1) j' + 1) ∨ lv a b (k + 1) j = lv a b k j + 1 := by
  cases j with
  | zero => right; right; rw [lv_s0, lv_i0]
  | succ j =>
    have h := lv_ss a b k j
    rcases (show lv a b (k + 1) (j + 1) = lv a b k j + un (a k) (b j) ∨ lv a b (k + 1) (j + 1) = lv a b k (j + 1) + 1 ∨ lv a b (k + 1) (j + 1) = lv a b (k + 1) j + 1 by omega) with q | q | q
    · exact .inl ⟨j, rfl, q⟩
    · exact .inr (.inr q)
    · exact .inr (.inl ⟨j, rfl, q⟩)
theorem lv_tri (a b c : Nat → Int) : ∀ (n i k j : Nat), i + k + j ≤ n → lv a b i j ≤ lv a c i k + lv c b k j
  | n, i, 0, j, _ => by
    rw [lv_i0, lv_0]
    exact lv_le a b _ i j (Nat.le_refl _)
  | 0, i, k + 1, j, h => by omega
  | n + 1, i, k + 1, j, h => by
    rcases lv_way a c i k with ⟨i', rfl, q⟩ | ⟨i', rfl, q⟩ | q
    · rcases lv_way' c b k j with ⟨j', rfl, r⟩ | ⟨j', rfl, r⟩ | r
      · have ih := lv_tri a b c n i' k j' (by omega)
        have t := un_tri (a i') (c k) (b j')
        rw [lv_ss]
        omega
      · have ih := lv_tri a b c n (i' + 1) (k + 1) j' (by omega)
        have t := lv_ins a b (i' + 1) j'
        omega
      · have ih := lv_tri a b c n i' k j (by omega)
        have t := lv_del a b i' j
        omega
    · have ih := lv_tri a b c n i' (k + 1) j (by omega)
      have t := lv_del a b i' j
      omega
    · rcases lv_way' c b k j with ⟨j', rfl, r⟩ | ⟨j', rfl, r⟩ | r
      · have ih := lv_tri a b c n i k j' (by omega)
        have t := lv_ins a b i j'
        omega
      · have ih := lv_tri a b c n i (k + 1) j' (by omega)
        have t := lv_ins a b i j'
        omega
      · have ih := lv_tri a b c n i k j (by omega)
        omega
theorem lv_zero (a b : Nat → Int) : ∀ (n i j : Nat), i + j ≤ n → lv a b i j = 0 → i = j ∧ ∀ t, t < i → a t = b t
  | 0, i, j, h, _ => ⟨by omega, fun t ht => by omega⟩
  | n + 1, 0, j, h, e => by
    rw [lv_0] at e
    exact ⟨e.symm, fun t ht => by omega⟩
  | n + 1, i + 1, 0, h, e => by
    rw [lv_s0] at e
    omega
  | n + 1, i + 1, j + 1, h, e => by
    rw [lv_ss] at e
    have e1 : lv a b i j = 0 ∧ un (a i) (b j) = 0 := by omega
    obtain ⟨q1, q2⟩ := lv_zero a b n i j (by omega) e1.1
    subst q1
    refine ⟨rfl, fun t ht => ?_⟩
    rcases Nat.lt_or_ge t i with z | z
    · exact q2 t z
    · have : t = i := by omega
      subst this
      have := e1.2
      unfold un at this
      split at this
      · assumption
      · omega
theorem lv_same (a b : Nat → Int) : ∀ n : Nat, (∀ t, t < n → a t = b t) → lv a b n n = 0
  | 0, _ => rfl
  | n + 1, h => by
    have e := lv_same a b n (fun t ht => h t (by omega))
    have u : un (a n) (b n) = 0 := by
      unfold un
      rw [if_pos (h n (by omega))]
    rw [lv_ss, e, u]
    omega
/-- The bytes of a string, by index. -/
def by' (s : ByteArray) (i : Nat) : Int := bt s (i : Int)
def lvw (a b : ByteArray) : Int := ((lv (by' a) (by' b) a.size b.size : Nat) : Int)
def wordsR (a b : ByteArray) : Int × Int := if a.size > 100 ∨ b.size > 100 then (0, 2) else (lvw a b, 0)
theorem size_list (s : ByteArray) : s.toList.length = s.size := by
  have : s.toList = s.data.toList := ByteArray.toList_eq s
  rw [this, Array.length_toList]
  rfl
theorem bt_list (s : ByteArray) (i : Nat) (h : i < s.size) : ∃ h2 : i < s.toList.length, bt s (i : Int) = ((s.toList[i]'h2).toNat : Int) := by
  have e : s.toList = s.data.toList := ByteArray.toList_eq s
  refine ⟨by rw [size_list]; exact h, ?_⟩
  rw [← bt_at s (i : Int) (by simpa using h)]
  simp only [e]
  rfl
theorem lvw_zero (a b : ByteArray) : lvw a b = 0 ↔ a.toList = b.toList := by
  unfold lvw
  constructor
  · intro h
    have h : lv (by' a) (by' b) a.size b.size = 0 := by omega
    obtain ⟨e, q⟩ := lv_zero _ _ _ a.size b.size (Nat.le_refl _) h
    refine List.ext_getElem (by rw [size_list, size_list, e]) (fun i h1 h2 => ?_)
    rw [size_list] at h1
    have := q i h1
    unfold by' at this
    obtain ⟨_, e1⟩ := bt_list a i h1
    obtain ⟨_, e2⟩ := bt_list b i (by omega)
    rw [e1, e2] at this
    exact UInt8.toNat_inj.mp (by omega)
  · intro h
    have e : a.size = b.size := by rw [← size_list, ← size_list, h]
    have : lv (by' a) (by' b) a.size b.size = 0 := by
      rw [← e]
      refine lv_same _ _ _ (fun t ht => ?_)
      unfold by'
      obtain ⟨_, e1⟩ := bt_list a t ht
      obtain ⟨_, e2⟩ := bt_list b t (by omega)
      rw [e1, e2]
      simp only [h]
    omega

theorem ncast (i : Nat) : (i : Int).toNat = i := by omega
theorem mn3 (x y z : Nat) : mn (mn (x : Int) (y : Int)) (z : Int) = ((min (min x y) z : Nat) : Int) := by
  unfold mn
  split <;> split <;> omega
theorem Words_l2 {P : Int × Int → Prop} (a b : ByteArray) (ha : a.size ≤ 100) (hb : b.size ≤ 100) (i : Nat) (hi : i < a.size)
    (hk : ∀ row : List Int, row.length = b.size + 1 → (∀ t : Nat, t ≤ b.size → rd row (t : Int) = ((lv (by' a) (by' b) (i + 1) t : Nat) : Int)) → EvP (fun k => letter_Words.l1 k a b row (a.size : Int) (wrap64 ((i : Int) + 1))) P) :
    ∀ (d j : Nat) (row : List Int) (was : Int), j ≤ b.size → b.size - j = d → row.length = b.size + 1 → was = ((lv (by' a) (by' b) i j : Nat) : Int) →
    (∀ t : Nat, t ≤ b.size → rd row (t : Int) = if t ≤ j then ((lv (by' a) (by' b) (i + 1) t : Nat) : Int) else ((lv (by' a) (by' b) i t : Nat) : Int)) →
    EvP (fun k => letter_Words.l2 k a b row (i : Int) was (a.size : Int) (i : Int) (b.size : Int) (j : Int)) P := by
  intro d
  induction d with
  | zero =>
    intro j row was h1 h2 hl hw hr
    refine EvP.step (fun k => by rw [letter_Words.l2]) ?_
    refine EvP.neg (by omega) ?_
    exact hk row hl (fun t ht => by rw [hr t ht, if_pos (by omega)])
  | succ d ih =>
    intro j row was h1 h2 hl hw hr
    have b1 := lv_le (by' a) (by' b) _ i j (Nat.le_refl _)
    have b2 := lv_le (by' a) (by' b) _ i (j + 1) (Nat.le_refl _)
    have b3 := lv_le (by' a) (by' b) _ (i + 1) j (Nat.le_refl _)
    have r0 : rd row (j : Int) = ((lv (by' a) (by' b) (i + 1) j : Nat) : Int) := by rw [hr j (by omega), if_pos (by omega)]
    have r1 : rd row ((j : Int) + 1) = ((lv (by' a) (by' b) i (j + 1) : Nat) : Int) := by
      have := hr (j + 1) (by omega)
      rw [if_neg (by omega)] at this
      rw [← this]
      rfl
    have es := lv_ss (by' a) (by' b) i j
    have go : ∀ x : Int, x = ((lv (by' a) (by' b) (i + 1) (j + 1) : Nat) : Int) →
        EvP (fun k => letter_Words.l2 k a b (row.set ((j : Int) + 1).toNat x) (i : Int) (rd row ((j : Int) + 1)) (a.size : Int) (i : Int) (b.size : Int) ((j : Int) + 1)) P := by
      intro x hx
      refine ih (j + 1) _ _ (by omega) (by omega) (by rw [List.length_set]; exact hl) r1 (fun t ht => ?_)
      rw [rd_set row _ _ _ (by omega) (by omega) (by omega)]
      by_cases c : t = j + 1
      · rw [if_pos (by omega), if_pos (by omega), c]
        exact hx
      · rw [if_neg (by omega), hr t ht]
        by_cases c2 : t ≤ j
        · rw [if_pos c2, if_pos (by omega)]
        · rw [if_neg c2, if_neg (by omega)]
    refine EvP.step (fun k => by rw [letter_Words.l2]) ?_
    refine EvP.pos (by omega) (EvP.pos (by omega) (EvP.pos (by omega) (EvP.pos (by omega) (EvP.pos (by omega) ?_))))
    rw [w64 (x := (j : Int) + 1) (by omega) (by omega), r0, r1, w64 (x := ((lv (by' a) (by' b) (i + 1) j : Nat) : Int) + 1) (by omega) (by omega), w64 (x := ((lv (by' a) (by' b) i (j + 1) : Nat) : Int) + 1) (by omega) (by omega)]
    rw [← r1]
    refine EvP.ite (fun c => ?_) (fun c => ?_)
    · refine EvP.pos (by omega) (EvP.pos (by omega) (EvP.pos (by omega) (go _ ?_)))
      have u : un (by' a i) (by' b j) = 0 := if_pos c
      have := mn3 (lv (by' a) (by' b) i j) (lv (by' a) (by' b) (i + 1) j + 1) (lv (by' a) (by' b) i (j + 1) + 1)
      rw [hw, r1, es, u]
      refine Eq.trans (Eq.trans ?_ this) ?_
      · rfl
      · omega
    · refine EvP.pos (by omega) (EvP.pos (by omega) (EvP.pos (by omega) (go _ ?_)))
      have u : un (by' a i) (by' b j) = 1 := if_neg c
      have := mn3 (lv (by' a) (by' b) i j + 1) (lv (by' a) (by' b) (i + 1) j + 1) (lv (by' a) (by' b) i (j + 1) + 1)
      rw [hw, r1, es, u, w64 (x := ((lv (by' a) (by' b) i j : Nat) : Int) + 1) (by omega) (by omega)]
      refine Eq.trans (Eq.trans ?_ this) ?_
      · rfl
      · omega
theorem Words_l1 (a b : ByteArray) (ha : a.size ≤ 100) (hb : b.size ≤ 100) : ∀ (d i : Nat) (row : List Int), i ≤ a.size → a.size - i = d → row.length = b.size + 1 →
    (∀ t : Nat, t ≤ b.size → rd row (t : Int) = ((lv (by' a) (by' b) i t : Nat) : Int)) → EvP (fun k => letter_Words.l1 k a b row (a.size : Int) (i : Int)) (· = (lvw a b, 0)) := by
  intro d
  induction d with
  | zero =>
    intro i row h1 h2 hl hr
    refine EvP.step (fun k => by rw [letter_Words.l1]) ?_
    refine EvP.neg (by omega) (EvP.pos (by omega) (EvP.pos (by omega) (EvP.ret ?_)))
    have : i = a.size := by omega
    subst this
    rw [hr b.size (Nat.le_refl _)]
    rfl
  | succ d ih =>
    intro i row h1 h2 hl hr
    refine EvP.step (fun k => by rw [letter_Words.l1]) ?_
    refine EvP.pos (by omega) (EvP.pos (by omega) ?_)
    have r0 := hr 0 (by omega)
    rw [lv_i0] at r0
    have r0 : rd row 0 = (i : Int) := r0
    rw [r0, w64 (x := (i : Int) + 1) (by omega) (by omega)]
    refine Words_l2 a b ha hb i (by omega) (fun row' hl' hr' => ?_) _ 0 _ (i : Int) (by omega) rfl (by rw [List.length_set]; exact hl) (by rw [lv_i0]) (fun t ht => ?_)
    · rw [w64 (x := (i : Int) + 1) (by omega) (by omega)]
      exact ih (i + 1) row' (by omega) (by omega) hl' hr'
    · have := rd_set row 0 (t : Int) ((i : Int) + 1) (by omega) (by omega) (by omega)
      rw [this]
      by_cases c : t = 0
      · subst c
        rw [if_pos (by omega), if_pos (by omega), lv_s0]
        omega
      · rw [if_neg (by omega), if_neg (by omega)]
        exact hr t ht
theorem Words_is (a b : ByteArray) (ha : a.size ≤ 140737488351232) (hb : b.size ≤ 140737488351232) : EvP (fun k => letter_Words.f k a b) (· = wordsR a b) := by
  unfold letter_Words.f wordsR
  refine EvP.ite (fun c => EvP.ret ?_) (fun c => ?_)
  · unfold mx at c
    split at c
    · rw [if_pos (by omega)]
    · rw [if_pos (by omega)]
  · have c' : a.size ≤ 100 ∧ b.size ≤ 100 := by
      unfold mx at c
      split at c <;> omega
    rw [if_neg (by omega), w64 (x := (b.size : Int) + 1) (by omega) (by omega)]
    refine EvP.pos (by omega) (EvP.pos (by omega) (EvP.bindv rfl ?_))
    have hlen : (List.replicate ((b.size : Int) + 1).toNat (0 : Int)).length = b.size + 1 := by rw [List.length_replicate]; omega
    refine EvP.fill (L := fun k i l => letter_Words.l0 k a b l ((List.replicate ((b.size : Int) + 1).toNat (0 : Int)).length : Int) i) (List.replicate ((b.size : Int) + 1).toNat 0) (fun i => i) ?_ ?_
    · intro i l i0 i1 hs hr hk
      refine EvP.step (fun k => by rw [letter_Words.l0]) ?_
      refine EvP.pos i1 (EvP.pos i0 (EvP.pos (by omega) ?_))
      rw [w64 (x := i + 1) (by omega) (by omega)]
      exact hk
    · refine EvP.step (fun k => by rw [letter_Words.l0]) ?_
      refine EvP.neg (by omega) ?_
      refine Words_l1 a b c'.1 c'.2 _ 0 _ (by omega) rfl (by rw [lmap_length]; exact hlen) (fun t ht => ?_)
      rw [rd_lmap _ _ _ (by omega) (by omega), lv_0]

theorem Awake_is : EvP (fun k => incunablelaw30_Awake.f k) (· = true) := by
  unfold incunablelaw30_Awake.f
  refine EvP.bind (Words_is _ _ (by decide) (by decide)) ?_
  rintro _ rfl
  have e : wordsR (⟨#[102, 111, 114, 109]⟩ : ByteArray) (⟨#[102, 114, 111, 109]⟩ : ByteArray) = (2, 0) := by decide +kernel
  rw [e]
  exact EvP.pos rfl (EvP.ret rfl)

theorem large_is (l : List S45) (hl : (l.length : Int) ≤ 9223372036854775806) : EvP (fun k => incunablelaw30_large.f k l) (fun _ => True) := by
  unfold incunablelaw30_large.f
  refine EvP.up (L := fun k i (s : Int) => incunablelaw30_large.l0 k l s l (l.length : Int) i) (fun i _ => 0 ≤ i) l.length ?_ 0 0 (by omega) (by omega)
  intro i s i0 hn ih
  refine EvP.step (fun k => by rw [incunablelaw30_large.l0]) ?_
  refine EvP.ite (fun i1 => EvP.pos i0 (EvP.pos i1 ?_)) (fun i1 => EvP.ite (fun _ => EvP.ret trivial) (fun _ => EvP.ret trivial))
  rw [w64 (x := i + 1) (by omega) (by omega)]
  exact ih _ i1 (by omega)
theorem LetterOnes : incunablelaw30_LetterOnes.Pure := by
  intro l w h p w' h' q b hl _ _ hp _ _ hq _
  have hl1 : (l.length : Int) ≤ 140737488351232 := by have := hl.2.1; omega
  have hb : ∀ a ∈ l, lByt a := fun a ha => by
    have m := (hl.2.2 a ha).1.2.2
    exact ⟨fun x hx => (wf_byt m.2.2 x hx).1, by have := m.2.1; omega⟩
  have hp1 : ∀ x ∈ p, 0 ≤ x := fun x hx => (wf_byt hp.2.2 x hx).1
  have hq1 : ∀ x ∈ q, 0 ≤ x := fun x hx => (wf_byt hq.2.2 x hx).1
  have hpl : (p.length : Int) ≤ 140737488351232 := by have := hp.2.1; omega
  have hql : (q.length : Int) ≤ 140737488351232 := by have := hq.2.1; omega
  refine EvP.rounds ?_
  unfold incunablelaw30_LetterOnes.f
  refine EvP.bind (large_is l (by omega)) ?_
  intro g _
  refine EvP.ite (fun _ => ?_) (fun _ => ?_)
  · refine EvP.bind Awake_is ?_
    rintro _ rfl
    exact EvP.ret rfl
  · refine EvP.bind (Distance_is w h p w' h' q hp1 (by omega) hq1 (by omega)) ?_
    rintro _ rfl
    refine EvP.bind (refDistance_is w h p w' h' q hp1 (by omega) hq1 (by omega)) ?_
    rintro _ rfl
    refine EvP.bind (One_is l w h p b (by omega) hb hp1 (by omega)) ?_
    rintro _ rfl
    refine EvP.bind (refOne_is l w h p b (by omega) hb hp1 (by omega)) ?_
    rintro _ rfl
    refine EvP.pos rfl (EvP.pos rfl (EvP.pos rfl (EvP.pos rfl (EvP.pos rfl ?_))))
    refine EvP.bind Awake_is ?_
    rintro _ rfl
    exact EvP.ret rfl

end Go.Proofs.Ytmggeebpbacoiaa.Pure
