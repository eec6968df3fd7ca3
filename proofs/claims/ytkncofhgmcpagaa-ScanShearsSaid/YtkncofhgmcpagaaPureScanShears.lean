/- What Shear returns, that Unshear of it is the bitmap, and that Count stays. No conditions beyond the statement's own. -/
import Derived.Test.YtkncofhgmcpagaaPScanShearsx9
import Derived.Test.YtkncofhgmcpagaaQBase
namespace Go.Proofs.Ytkncofhgmcpagaa.Pure
open Go.RowKit Go.Proofs.Ytkncofhgmcpagaa.PScanShears Go.Proofs.YtkncofhgmcpagaaW.PrintWords Go.Proofs.YtkncofhgmcpagaaW.PrintLast Go.Proofs.YtkncofhgmcpagaaW.PrintMore Go.Proofs.YtkncofhgmcpagaaW.Pu
set_option linter.unusedVariables false
set_option linter.unusedSimpArgs false
/-- The numbers of a list are those of bytes. -/
def Byt (p : List Int) : Prop := ∀ x ∈ p, 0 ≤ x ∧ x ≤ 255
theorem val_byt {w h : Int} {p : List Int} (v : Val w h p) : Byt p := fun x hx => ⟨(v.2.2.2.2.2.2 x hx).1, by have := (v.2.2.2.2.2.2 x hx).2; omega⟩

theorem wf_byt {p : List Int} (h : ∀ y ∈ p, (Lit.int .u8 y).wf = true) : Byt p := fun x hx => by
  have h1 : (decide (IntKind.u8.min ≤ x) && decide (x ≤ IntKind.u8.max)) = true := h x hx
  obtain ⟨a, b⟩ := Bool.and_eq_true_iff.mp h1
  exact ⟨of_decide_eq_true a, of_decide_eq_true b⟩
theorem wf_i64 {x : Int} (h : (Lit.int .i64 x).wf = true) : -9223372036854775808 ≤ x ∧ x ≤ 9223372036854775807 := by
  have h1 : (decide (IntKind.i64.min ≤ x) && decide (x ≤ IntKind.i64.max)) = true := h
  obtain ⟨a, b⟩ := Bool.and_eq_true_iff.mp h1
  exact ⟨of_decide_eq_true a, of_decide_eq_true b⟩

theorem qm {q n : Int} (hn : 0 < n) (hn' : n ≤ 1000000000000) (h0 : -9223372036854775808 ≤ q) (h1 : q ≤ 9223372036854775807) : Int.tmod (wrap64 (Int.tmod q n + n)) n = q % n := by
  rcases Int.lt_or_le q 0 with h | h
  · have e : Int.tmod q n = -((-q) % n) := by
      rw [show q = -(-q) by omega, Int.neg_tmod, tmod_pos (by omega)]
      simp
    have r0 := Int.emod_nonneg (-q) (show n ≠ 0 by omega)
    have r1 := Int.emod_lt_of_pos (-q) hn
    rw [e, w64 (by omega) (by omega), tmod_pos (by omega)]
    have e2 := Int.emod_add_mul_ediv (-q) n
    have e3 : -(-q % n) + n = q + n * (1 + -q / n) := by rw [Int.mul_add]; omega
    rw [e3, Int.add_mul_emod_self_left]
  · have r0 := Int.emod_nonneg q (show n ≠ 0 by omega)
    have r1 := Int.emod_lt_of_pos q hn
    rw [tmod_pos h, w64 (by omega) (by omega), tmod_pos (by omega), Int.add_emod_right, Int.emod_emod_of_dvd _ (Int.dvd_refl n)]

/-- The sum of the first numbers. -/
def sm : Nat → (Int → Int) → Int
  | 0, _ => 0
  | n + 1, f => sm n f + f (n : Int)
theorem sm_s (n : Nat) (f : Int → Int) : sm (n + 1) f = sm n f + f (n : Int) := rfl
theorem sm_0 (f : Int → Int) : sm 0 f = 0 := rfl
theorem sm_congr {f g : Int → Int} : ∀ {n : Nat}, (∀ i : Int, 0 ≤ i → i < n → f i = g i) → sm n f = sm n g
  | 0, _ => rfl
  | n + 1, h => by
    unfold sm
    rw [sm_congr (fun i h0 h1 => h i h0 (by omega)), h n (by omega) (by omega)]
theorem sm_bound {f : Int → Int} {c : Int} (hc : 0 ≤ c) : ∀ {n : Nat}, (∀ i : Int, 0 ≤ i → i < n → 0 ≤ f i ∧ f i ≤ c) → 0 ≤ sm n f ∧ sm n f ≤ n * c
  | 0, _ => by simp [sm]
  | n + 1, h => by
    have h1 := sm_bound hc (fun i h0 h1 => h i h0 (by omega)) (n := n)
    have h2 := h n (by omega) (by omega)
    unfold sm
    have e : ((n + 1 : Nat) : Int) * c = n * c + c := by rw [Int.natCast_add, Int.add_mul]; simp
    omega
theorem sm_zero {f : Int → Int} (h0 : ∀ i : Int, 0 ≤ i → 0 ≤ f i) : ∀ {n : Nat}, sm n f = 0 → ∀ i : Int, 0 ≤ i → i < n → f i = 0
  | 0, _, i, a, b => by omega
  | n + 1, h, i, a, b => by
    unfold sm at h
    have h1 : 0 ≤ sm n f := by
      have : ∀ m : Nat, 0 ≤ sm m f := by
        intro m
        induction m with
        | zero => simp [sm]
        | succ m ih => unfold sm; have := h0 m (by omega); omega
      exact this n
    have h2 := h0 n (by omega)
    rcases Int.lt_or_le i n with c | c
    · exact sm_zero h0 (show sm n f = 0 by omega) i a c
    · have : i = n := by omega
      subst this
      omega
theorem sm_const (c : Int) : ∀ n : Nat, sm n (fun _ => c) = n * c
  | 0 => by simp [sm]
  | n + 1 => by
    unfold sm
    rw [sm_const c n, Int.natCast_add, Int.add_mul]
    simp
theorem sm_add (f : Int → Int) (a : Nat) : ∀ b : Nat, sm (a + b) f = sm a f + sm b (fun i => f (a + i))
  | 0 => by simp [sm]
  | b + 1 => by
    rw [show a + (b + 1) = (a + b) + 1 from rfl, sm_s, sm_s, sm_add f a b]
    have e : ((a + b : Nat) : Int) = (a : Int) + (b : Int) := by omega
    rw [e]
    show sm a f + sm b (fun i => f (a + i)) + f (a + b) = sm a f + (sm b (fun i => f (a + i)) + f (a + b))
    omega
theorem sm_plus (f g : Int → Int) : ∀ n : Nat, sm n (fun i => f i + g i) = sm n f + sm n g
  | 0 => by simp [sm]
  | n + 1 => by
    rw [sm_s, sm_s, sm_s, sm_plus f g n]
    show sm n f + sm n g + (f n + g n) = sm n f + f n + (sm n g + g n)
    omega
theorem sm_swap (g : Int → Int → Int) (W : Nat) : ∀ H : Nat, sm H (fun y => sm W (fun x => g x y)) = sm W (fun x => sm H (fun y => g x y))
  | 0 => by
    have : sm W (fun x => sm 0 (fun y => g x y)) = sm W (fun _ => 0) := sm_congr (fun i _ _ => rfl)
    rw [this, sm_const 0 W, sm_0]
    simp
  | H + 1 => by
    rw [sm_s, sm_swap g W H]
    have : sm W (fun x => sm (H + 1) (fun y => g x y)) = sm W (fun x => sm H (fun y => g x y) + g x H) := sm_congr (fun i _ _ => rfl)
    rw [this, sm_plus]
theorem sm_front (f : Int → Int) : ∀ n : Nat, sm (n + 1) f = f 0 + sm n (fun i => f (i + 1))
  | 0 => by simp [sm]
  | n + 1 => by
    rw [show sm (n + 1 + 1) f = sm (n + 1) f + f ((n + 1 : Nat) : Int) from rfl, sm_front f n]
    rw [show sm (n + 1) (fun i => f (i + 1)) = sm n (fun i => f (i + 1)) + f ((n : Int) + 1) from rfl]
    have e : ((n + 1 : Nat) : Int) = (n : Int) + 1 := by omega
    rw [e]
    omega
theorem sm_mirror (f : Int → Int) : ∀ n : Nat, sm n (fun i => f ((n : Int) - 1 - i)) = sm n f
  | 0 => rfl
  | n + 1 => by
    rw [sm_front]
    have e : (((n + 1 : Nat) : Int) - 1 - 0) = (n : Int) := by omega
    rw [e]
    have e2 : sm n (fun i => f (((n + 1 : Nat) : Int) - 1 - (i + 1))) = sm n (fun i => f ((n : Int) - 1 - i)) := sm_congr (fun i _ _ => by
      have : ((n + 1 : Nat) : Int) - 1 - (i + 1) = (n : Int) - 1 - i := by omega
      rw [this])
    rw [e2, sm_mirror f n, sm_s]
    omega
/-- All pixels' sum. -/
def tot (w h : Int) (g : Int → Int → Int) : Int := sm h.toNat (fun y => sm w.toNat (fun x => g x y))
theorem sm_flat (g : Int → Int → Int) (W : Nat) : ∀ H : Nat, sm (W * H) (fun i => g (i % (W : Int)) (i / (W : Int))) = sm H (fun y => sm W (fun x => g x y))
  | 0 => rfl
  | H + 1 => by
    rw [Nat.mul_succ, sm_add, sm_flat g W H]
    rw [show sm (H + 1) (fun y => sm W (fun x => g x y)) = sm H (fun y => sm W (fun x => g x y)) + sm W (fun x => g x (H : Int)) from rfl]
    congr 1
    refine sm_congr (fun i h0 h1 => ?_)
    have e : ((W * H : Nat) : Int) + i = (H : Int) * (W : Int) + i := by rw [Int.natCast_mul, Int.mul_comm]
    rw [e, flat_mod h0 h1, flat_div h0 h1]
theorem sm_tab {w h : Int} (hw : 0 ≤ w) (hh : 0 ≤ h) (g : Int → Int → Int) : sm (tab w h g).length (fun i => rd (tab w h g) i) = tot w h g := by
  have h0 : 0 ≤ w * h := Int.mul_nonneg hw hh
  rw [tab_length]
  have e : (w * h).toNat = w.toNat * h.toNat := by
    have e1 : ((w.toNat * h.toNat : Nat) : Int) = w * h := by rw [Int.natCast_mul, Int.toNat_of_nonneg hw, Int.toNat_of_nonneg hh]
    omega
  have ew : ((w.toNat : Nat) : Int) = w := Int.toNat_of_nonneg hw
  unfold tot
  rw [← sm_flat g w.toNat h.toNat, e, ew]
  refine sm_congr (fun i a b => ?_)
  rw [rd_tab w h g i a (by omega)]
theorem tot_congr {w h : Int} {g g' : Int → Int → Int} (hg : ∀ x y, 0 ≤ x → x < w → 0 ≤ y → y < h → g x y = g' x y) : tot w h g = tot w h g' :=
  sm_congr (fun y a b => sm_congr (fun x c d => hg x y c (by omega) a (by omega)))
theorem tot_turn {w h : Int} (hw : 0 ≤ w) (hh : 0 ≤ h) (g : Int → Int → Int) : tot h w (fun x y => g y (h - 1 - x)) = tot w h g := by
  unfold tot
  have eh : ((h.toNat : Nat) : Int) = h := Int.toNat_of_nonneg hh
  rw [sm_swap (fun x y => g x y) w.toNat h.toNat]
  refine sm_congr (fun y a b => ?_)
  have := sm_mirror (fun i => g y i) h.toNat
  rw [eh] at this
  exact this
theorem tot_flip {w h : Int} (hw : 0 ≤ w) (hh : 0 ≤ h) (g : Int → Int → Int) : tot w h (fun x y => g (w - 1 - x) y) = tot w h g := by
  unfold tot
  have ew : ((w.toNat : Nat) : Int) = w := Int.toNat_of_nonneg hw
  refine sm_congr (fun y a b => ?_)
  have := sm_mirror (fun i => g i y) w.toNat
  rw [ew] at this
  exact this
/-- How many pixels are black. -/
def blk (p : List Int) : Int := sm p.length (fun i => rd p i)
theorem blk_val {w h : Int} {p : List Int} (v : Val w h p) : blk p = tot w h (pix w h p) := by
  unfold blk
  have e := sm_tab v.1 v.2.1 (pix w h p)
  rw [← v.tab] at e
  exact e

instance (w h : Int) (p : List Int) : Decidable (Val w h p) := by unfold Val; exact inferInstance
theorem sid_mul {w h : Int} (hw : 0 ≤ w) (hh : 0 ≤ h) (hw' : w ≤ 200) (hh' : h ≤ 200) : 0 ≤ w * h ∧ w * h ≤ 40000 := by
  have h1 : 0 ≤ w * h := Int.mul_nonneg hw hh
  have h2 : w * h ≤ 200 * h := Int.mul_le_mul_of_nonneg_right hw' hh
  omega

theorem mul_in {a n : Int} {A N : Int} (a0 : -A ≤ a) (a1 : a ≤ A) (n0 : -N ≤ n) (n1 : n ≤ N) : -(A * N) ≤ a * n ∧ a * n ≤ A * N := by
  have hA : 0 ≤ A := by omega
  have h1 := Int.mul_nonneg (show 0 ≤ A - a by omega) (show 0 ≤ N + n by omega)
  have h2 := Int.mul_nonneg (show 0 ≤ A + a by omega) (show 0 ≤ N - n by omega)
  have h3 := Int.mul_nonneg (show 0 ≤ A - a by omega) (show 0 ≤ N - n by omega)
  have h4 := Int.mul_nonneg (show 0 ≤ A + a by omega) (show 0 ≤ N + n by omega)
  rw [Int.sub_mul, Int.mul_add, Int.mul_add] at h1
  rw [Int.add_mul, Int.mul_sub, Int.mul_sub] at h2
  rw [Int.sub_mul, Int.mul_sub, Int.mul_sub] at h3
  rw [Int.add_mul, Int.mul_add, Int.mul_add] at h4
  omega
theorem tdiv_in {q m B : Int} (hm : 0 < m) (q0 : -B ≤ q) (q1 : q ≤ B) : -B ≤ Int.tdiv q m ∧ Int.tdiv q m ≤ B := by
  rcases Int.lt_or_le q 0 with h | h
  · have e : Int.tdiv q m = -((-q) / m) := by
      rw [show q = -(-q) by omega, Int.neg_tdiv, tdiv_pos (by omega)]
      simp
    have a := Int.ediv_nonneg (show 0 ≤ -q by omega) (show 0 ≤ m by omega)
    have b := Int.ediv_le_self m (show 0 ≤ -q by omega)
    omega
  · rw [tdiv_pos h]
    have a := Int.ediv_nonneg h (show 0 ≤ m by omega)
    have b := Int.ediv_le_self m h
    omega
theorem rot1 {x s w : Int} (h0 : 0 ≤ x) (h1 : x < w) : ((x + s) % w - s) % w = x := by
  have e : (x + s) % w - s = x + w * (-((x + s) / w)) := by
    have := Int.emod_add_mul_ediv (x + s) w
    rw [Int.mul_neg]
    omega
  rw [e, Int.add_mul_emod_self_left, Int.emod_eq_of_lt h0 h1]
theorem rot2 {x s w : Int} (h0 : 0 ≤ x) (h1 : x < w) : ((x - s) % w + s) % w = x := by
  have e : (x - s) % w + s = x + w * (-((x - s) / w)) := by
    have := Int.emod_add_mul_ediv (x - s) w
    rw [Int.mul_neg]
    omega
  rw [e, Int.add_mul_emod_self_left, Int.emod_eq_of_lt h0 h1]
theorem sm_rot (n : Nat) (f : Int → Int) (s : Int) : sm n (fun i => f ((i - s) % (n : Int))) = sm n f := by
  by_cases hn : n = 0
  · subst hn; rfl
  have r0 := Int.emod_nonneg (-s) (show (n : Int) ≠ 0 by omega)
  have r1 := Int.emod_lt_of_pos (-s) (show 0 < (n : Int) by omega)
  obtain ⟨r, hr⟩ : ∃ r : Nat, (r : Int) = (-s) % (n : Int) := ⟨((-s) % (n : Int)).toNat, by omega⟩
  have key : ∀ i : Int, (i - s) % (n : Int) = (i + r) % (n : Int) := fun i => by
    rw [hr, Int.add_emod i (-s % n), Int.emod_emod_of_dvd _ (Int.dvd_refl _), ← Int.add_emod]
    rfl
  obtain ⟨m, hm⟩ : ∃ m : Nat, n = m + r := ⟨n - r, by omega⟩
  have e1 : sm n (fun i => f ((i - s) % (n : Int))) = sm (m + r) (fun i => f ((i + r) % (n : Int))) := by
    rw [← hm]
    exact sm_congr (fun i _ _ => by rw [key])
  have e2 : sm n f = sm (r + m) f := by rw [hm, Nat.add_comm]
  rw [e1, e2, sm_add, sm_add, Int.add_comm]
  congr 1
  · refine sm_congr (fun i a b => ?_)
    show f (((m : Int) + i + r) % (n : Int)) = f i
    have : (m : Int) + i + r = i + (n : Int) * 1 := by omega
    rw [this, Int.add_mul_emod_self_left, Int.emod_eq_of_lt a (by omega)]
  · refine sm_congr (fun i a b => ?_)
    show f ((i + r) % (n : Int)) = f ((r : Int) + i)
    rw [Int.emod_eq_of_lt (by omega) (by omega), Int.add_comm]
def shf (h n d y : Int) : Int := Int.tdiv ((2 * y + 1 - h) * n) (2 * d)
def flr (q d : Int) : Int := if Int.tmod q d < 0 then Int.tdiv q d - 1 else Int.tdiv q d
def slope (n d : Int) : Prop := 1 ≤ d ∧ d ≤ 1000 ∧ -d ≤ n ∧ n ≤ d
instance (n d : Int) : Decidable (slope n d) := by unfold slope; exact inferInstance
def ringL (w h : Int) (p : List Int) (n d : Int) : List Int := tab w h (fun u t => pix w h p ((u - shf h n d t) % w) t)
def colL (w h : Int) (p : List Int) (n d : Int) : List Int := tab w h (fun u t => pix w h p u ((t - flr (u * n) d) % h))
def ringR (w h : Int) (p : List Int) (n d : Int) : Int × Int × List Int × Int := if Val w h p then (if slope n d then (w, h, ringL w h p n d, 0) else (0, 0, [], 2)) else (0, 0, [], 30)
def colR (w h : Int) (p : List Int) (n d : Int) : Int × Int × List Int × Int := if Val w h p then (if slope n d then (w, h, colL w h p n d, 0) else (0, 0, [], 2)) else (0, 0, [], 30)
theorem shf_in {h n d y : Int} (hd : slope n d) (h0 : 0 ≤ h) (h1 : h ≤ 200) (y0 : 0 ≤ y) (y1 : y < h) : -200000 ≤ (2 * y + 1 - h) * n ∧ (2 * y + 1 - h) * n ≤ 200000 ∧ -200000 ≤ shf h n d y ∧ shf h n d y ≤ 200000 := by
  obtain ⟨a, b, c, e⟩ := hd
  have := mul_in (a := 2 * y + 1 - h) (n := n) (A := 200) (N := 1000) (by omega) (by omega) (by omega) (by omega)
  have t := tdiv_in (q := (2 * y + 1 - h) * n) (m := 2 * d) (B := 200000) (by omega) (by omega) (by omega)
  unfold shf
  omega
theorem flr_in {n d x : Int} (hd : slope n d) (x0 : 0 ≤ x) (x1 : x < 200) : -200000 ≤ x * n ∧ x * n ≤ 200000 ∧ -200000 ≤ Int.tdiv (x * n) d ∧ Int.tdiv (x * n) d ≤ 200000 ∧ -200001 ≤ flr (x * n) d ∧ flr (x * n) d ≤ 200000 := by
  obtain ⟨a, b, c, e⟩ := hd
  have := mul_in (a := x) (n := n) (A := 200) (N := 1000) (by omega) (by omega) (by omega) (by omega)
  have t := tdiv_in (q := x * n) (m := d) (B := 200000) (by omega) (by omega) (by omega)
  unfold flr
  split <;> omega
theorem ring_val {w h : Int} {p : List Int} (v : Val w h p) (n d : Int) : Val w h (ringL w h p n d) := val_tab v.sid (fun x y _ _ _ _ => v.pix01 _ _)
theorem col_val {w h : Int} {p : List Int} (v : Val w h p) (n d : Int) : Val w h (colL w h p n d) := val_tab v.sid (fun x y _ _ _ _ => v.pix01 _ _)
theorem ring_back {w h : Int} {p : List Int} (v : Val w h p) (n d : Int) : ringL w h (ringL w h p n d) (-n) d = p := by
  refine Eq.trans (tab_congr v.1 v.2.1 (fun x y a b c e => ?_)) v.tab.symm
  have es : shf h (-n) d y = -shf h n d y := by
    unfold shf
    rw [Int.mul_neg, Int.neg_tdiv]
  have r0 := Int.emod_nonneg (x + shf h n d y) (show w ≠ 0 by omega)
  have r1 := Int.emod_lt_of_pos (x + shf h n d y) (show 0 < w by omega)
  rw [es, Int.sub_neg]
  unfold ringL
  rw [pix_tab, if_pos ⟨r0, r1, c, e⟩, rot1 a b]
theorem ring_blk {w h : Int} {p : List Int} (v : Val w h p) (n d : Int) : blk (ringL w h p n d) = blk p := by
  rw [blk_val v]
  refine (sm_tab v.1 v.2.1 _).trans ?_
  unfold tot
  refine sm_congr (fun y _ _ => ?_)
  have e : ((w.toNat : Nat) : Int) = w := Int.toNat_of_nonneg v.1
  have := sm_rot w.toNat (fun x => pix w h p x y) (shf h n d y)
  rw [e] at this
  exact this
theorem col_blk {w h : Int} {p : List Int} (v : Val w h p) (n d : Int) : blk (colL w h p n d) = blk p := by
  rw [blk_val v]
  refine (sm_tab v.1 v.2.1 _).trans ?_
  unfold tot
  rw [sm_swap (fun x y => pix w h p x y), sm_swap (fun u t => pix w h p u ((t - flr (u * n) d) % h))]
  refine sm_congr (fun x _ _ => ?_)
  have e : ((h.toNat : Nat) : Int) = h := Int.toNat_of_nonneg v.2.1
  have := sm_rot h.toNat (fun y => pix w h p x y) (flr (x * n) d)
  rw [e] at this
  exact this
theorem slope_b (n d : Int) (h0 : -9223372036854775808 ≤ d) (h1 : d ≤ 9223372036854775807) : (if d ≥ 1 then (if d ≤ 1000 then (if n ≥ (wrap64 (-d)) then (some (decide (n ≤ d))) else (some false)) else (some false)) else (some false)) = some (decide (slope n d)) := by
  unfold slope
  by_cases a : d ≥ 1
  · rw [if_pos a]
    by_cases b : d ≤ 1000
    · rw [if_pos b, w64 (by omega) (by omega)]
      by_cases c : n ≥ -d
      · rw [if_pos c]
        exact congrArg some (decide_eq_decide.mpr ⟨fun q => by omega, fun q => by omega⟩)
      · rw [if_neg c]
        exact congrArg some (decide_eq_false (by omega)).symm
    · rw [if_neg b]
      exact congrArg some (decide_eq_false (by omega)).symm
  · rw [if_neg a]
    exact congrArg some (decide_eq_false (by omega)).symm
theorem ringR_byt (w h : Int) (p : List Int) (n d : Int) : Byt (ringR w h p n d).2.2.1 := by
  unfold ringR
  split
  · rename_i v
    split
    · exact val_byt (ring_val v n d)
    · intro x hx; cases hx
  · intro x hx; cases hx
theorem colR_byt (w h : Int) (p : List Int) (n d : Int) : Byt (colR w h p n d).2.2.1 := by
  unfold colR
  split
  · rename_i v
    split
    · exact val_byt (col_val v n d)
    · intro x hx; cases hx
  · intro x hx; cases hx

def mixv (op a b : Int) : Int := if op = 0 then b else if op = 1 then (if a < b then b else a) else if op = 2 then (if b < a then b else a) else if op = 3 then (a + b) % 2 else (a + b + 1) % 2
theorem five {op : Int} (h0 : 0 ≤ op) (h1 : op ≤ 4) : op = 0 ∨ op = 1 ∨ op = 2 ∨ op = 3 ∨ op = 4 := by omega
theorem bit {a : Int} (h0 : 0 ≤ a) (h1 : a ≤ 1) : a = 0 ∨ a = 1 := by omega
theorem mix_01 {op a b : Int} (h0 : 0 ≤ op) (h1 : op ≤ 4) (a0 : 0 ≤ a) (a1 : a ≤ 1) (b0 : 0 ≤ b) (b1 : b ≤ 1) : 0 ≤ mixv op a b ∧ mixv op a b ≤ 1 := by
  rcases five h0 h1 with rfl | rfl | rfl | rfl | rfl <;> rcases bit a0 a1 with rfl | rfl <;> rcases bit b0 b1 with rfl | rfl <;> decide +kernel
theorem mix3 {a b : Int} (a0 : 0 ≤ a) (a1 : a ≤ 1) (b0 : 0 ≤ b) (b1 : b ≤ 1) : mixv 3 (mixv 3 a b) b = a := by
  rcases bit a0 a1 with rfl | rfl <;> rcases bit b0 b1 with rfl | rfl <;> decide +kernel
theorem mix3_ne {a b : Int} (a0 : 0 ≤ a) (a1 : a ≤ 1) (b0 : 0 ≤ b) (b1 : b ≤ 1) : mixv 3 a b = if a = b then 0 else 1 := by
  rcases bit a0 a1 with rfl | rfl <;> rcases bit b0 b1 with rfl | rfl <;> decide +kernel
theorem mix1_zero {b : Int} (b0 : 0 ≤ b) (b1 : b ≤ 1) : mixv 1 0 b = b := by
  rcases bit b0 b1 with rfl | rfl <;> decide +kernel
theorem mix0 (a b : Int) : mixv 0 a b = b := rfl

/-- What is drawn. -/
def drawG (g : Int → Int → Int) (w' h' : Int) (s : List Int) (x y op : Int) : Int → Int → Int := fun u t => if 0 ≤ u - x ∧ u - x < w' ∧ 0 ≤ t - y ∧ t - y < h' then mixv op (g u t) (pix w' h' s (u - x) (t - y)) else g u t
def Shf (x y : Int) : Prop := -100000 ≤ x ∧ x ≤ 100000 ∧ -100000 ≤ y ∧ y ≤ 100000
instance (x y : Int) : Decidable (Shf x y) := by unfold Shf; exact inferInstance
def drawR (w h : Int) (p : List Int) (w' h' : Int) (s : List Int) (x y op : Int) : Int × Int × List Int × Int :=
  if ¬ (Val w h p ∧ Val w' h' s) then (0, 0, [], 30) else if op < 0 ∨ op > 4 ∨ ¬ Shf x y then (0, 0, [], 2) else (w, h, tab w h (drawG (pix w h p) w' h' s x y op), 0)
theorem drawG_01 {g : Int → Int → Int} {w' h' : Int} {s : List Int} {x y op : Int} (v : Val w' h' s) (h0 : 0 ≤ op) (h1 : op ≤ 4) {u t : Int} (hg : 0 ≤ g u t ∧ g u t ≤ 1) : 0 ≤ drawG g w' h' s x y op u t ∧ drawG g w' h' s x y op u t ≤ 1 := by
  unfold drawG
  split
  · have b := v.pix01 (u - x) (t - y)
    exact mix_01 h0 h1 hg.1 hg.2 b.1 b.2
  · exact hg

/-- A part of a bitmap. -/
def partG (w h : Int) (p : List Int) (x y : Int) : Int → Int → Int := fun u t => pix w h p (x + u) (y + t)
def cutR (w h : Int) (p : List Int) (x y w' h' : Int) : Int × Int × List Int × Int :=
  if ¬ Val w h p then (0, 0, [], 30) else if w' < 0 ∨ h' < 0 ∨ ¬ Shf x y then (0, 0, [], 2) else if Sid w' h' then (w', h', tab w' h' (partG w h p x y), 0) else (0, 0, [], 4)
theorem part_val {w h : Int} {p : List Int} {x y w' h' : Int} (v : Val w h p) (s : Sid w' h') : Val w' h' (tab w' h' (partG w h p x y)) := val_tab s (fun _ _ _ _ _ _ => v.pix01 _ _)
theorem nil_byt' : Byt [] := fun x hx => by simp at hx
theorem cutR_byt (w h : Int) (p : List Int) (x y w' h' : Int) : Byt (cutR w h p x y w' h').2.2.1 := by
  unfold cutR
  by_cases a : Val w h p
  · rw [if_neg (c := ¬ Val w h p) (fun q => q a)]
    split
    · exact nil_byt'
    · split
      · rename_i s
        exact val_byt (part_val a s)
      · exact nil_byt'
  · rw [if_pos a]
    exact nil_byt'
theorem cutR_ok {w h : Int} {p : List Int} {x y w' h' : Int} (e : (cutR w h p x y w' h').2.2.2 = 0) : Val w h p ∧ Shf x y ∧ Sid w' h' ∧ cutR w h p x y w' h' = (w', h', tab w' h' (partG w h p x y), 0) := by
  unfold cutR at e ⊢
  by_cases a : Val w h p
  · rw [if_neg (c := ¬ Val w h p) (fun q => q a)] at e ⊢
    by_cases b : w' < 0 ∨ h' < 0 ∨ ¬ Shf x y
    · rw [if_pos b] at e
      exact absurd e (by decide)
    · rw [if_neg b] at e ⊢
      by_cases c : Sid w' h'
      · rw [if_pos c]
        exact ⟨a, Classical.not_not.mp (fun q => b (.inr (.inr q))), c, rfl⟩
      · rw [if_neg c] at e
        exact absurd e (by decide)
  · rw [if_pos a] at e
    exact absurd e (by decide)
theorem cutR_all {w h : Int} {p : List Int} (v : Val w h p) : cutR w h p 0 0 w h = (w, h, p, 0) := by
  unfold cutR
  rw [if_neg (c := ¬ Val w h p) (fun q => q v), if_neg (by intro q; rcases q with q | q | q; exact absurd v.1 (by omega); exact absurd v.2.1 (by omega); exact q (by unfold Shf; omega)), if_pos v.sid]
  have e : tab w h (partG w h p 0 0) = p := by
    refine Eq.trans (tab_congr v.1 v.2.1 (fun u t a b c d => ?_)) v.tab.symm
    unfold partG
    rw [Int.zero_add, Int.zero_add]
  rw [e]

/-- The least, and the greatest, of the first n + 1 numbers. -/
def fmin (f : Int → Int) : Nat → Int
  | 0 => f 0
  | n + 1 => mn (fmin f n) (f ((n + 1 : Nat) : Int))
def fmax (f : Int → Int) : Nat → Int
  | 0 => f 0
  | n + 1 => mx (fmax f n) (f ((n + 1 : Nat) : Int))
theorem fmin_le {f : Int → Int} : ∀ {n : Nat} {i : Int}, 0 ≤ i → i ≤ n → fmin f n ≤ f i
  | 0, i, a, b => by
    obtain rfl : i = 0 := by omega
    exact Int.le_refl _
  | n + 1, i, a, b => by
    unfold fmin mn
    by_cases e : i = ((n + 1 : Nat) : Int)
    · subst e
      split <;> omega
    · have := fmin_le (f := f) (n := n) a (by omega)
      split <;> omega
theorem fmin_of (f : Int → Int) : ∀ n : Nat, ∃ i : Int, 0 ≤ i ∧ i ≤ n ∧ fmin f n = f i
  | 0 => ⟨0, by omega, by omega, rfl⟩
  | n + 1 => by
    obtain ⟨i, a, b, c⟩ := fmin_of f n
    unfold fmin mn
    split
    · exact ⟨((n + 1 : Nat) : Int), by omega, by omega, rfl⟩
    · exact ⟨i, a, by omega, c⟩
theorem fmax_le {f : Int → Int} : ∀ {n : Nat} {i : Int}, 0 ≤ i → i ≤ n → f i ≤ fmax f n
  | 0, i, a, b => by
    obtain rfl : i = 0 := by omega
    exact Int.le_refl _
  | n + 1, i, a, b => by
    unfold fmax mx
    by_cases e : i = ((n + 1 : Nat) : Int)
    · subst e
      split <;> omega
    · have := fmax_le (f := f) (n := n) a (by omega)
      split <;> omega
theorem fmax_of (f : Int → Int) : ∀ n : Nat, ∃ i : Int, 0 ≤ i ∧ i ≤ n ∧ fmax f n = f i
  | 0 => ⟨0, by omega, by omega, rfl⟩
  | n + 1 => by
    obtain ⟨i, a, b, c⟩ := fmax_of f n
    unfold fmax mx
    split
    · exact ⟨((n + 1 : Nat) : Int), by omega, by omega, rfl⟩
    · exact ⟨i, a, by omega, c⟩
theorem fmin_congr {f g : Int → Int} : ∀ {n : Nat}, (∀ i : Int, 0 ≤ i → i ≤ n → f i = g i) → fmin f n = fmin g n
  | 0, h => h 0 (by omega) (by omega)
  | n + 1, h => by
    unfold fmin
    rw [fmin_congr (fun i a b => h i a (by omega)), h _ (by omega) (by omega)]
theorem fmax_congr {f g : Int → Int} : ∀ {n : Nat}, (∀ i : Int, 0 ≤ i → i ≤ n → f i = g i) → fmax f n = fmax g n
  | 0, h => h 0 (by omega) (by omega)
  | n + 1, h => by
    unfold fmax
    rw [fmax_congr (fun i a b => h i a (by omega)), h _ (by omega) (by omega)]
def fl0 (n d : Int) : Int → Int := fun y => flr (y * n) d
/-- How far a row is shifted, and the farthest. -/
def she (h n d : Int) : Int → Int := fun y => fl0 n d y - fmin (fl0 n d) (h - 1).toNat
def mo (h n d : Int) : Int := if h = 0 then 0 else fmax (she h n d) (h - 1).toNat
def sheL (h n d : Int) : List Int := lmap h.toNat (she h n d)
theorem she_in {h n d y : Int} (sl : slope n d) (h1 : h ≤ 200) (y0 : 0 ≤ y) (y1 : y < h) : 0 ≤ she h n d y ∧ she h n d y ≤ 400001 ∧ she h n d y ≤ mo h n d := by
  have a := fmin_le (f := fl0 n d) (n := (h - 1).toNat) y0 (by omega)
  have b := fmax_le (f := she h n d) (n := (h - 1).toNat) y0 (by omega)
  obtain ⟨i, i0, i1, hi⟩ := fmin_of (fl0 n d) (h - 1).toNat
  have c := flr_in (x := y) sl y0 (by omega)
  have e := flr_in (x := i) sl i0 (by omega)
  unfold mo
  rw [if_neg (by omega)]
  unfold she fl0 at *
  omega
theorem mo_in {h n d : Int} (sl : slope n d) (h0 : 0 ≤ h) (h1 : h ≤ 200) : 0 ≤ mo h n d ∧ mo h n d ≤ 400001 := by
  by_cases e : h = 0
  · unfold mo
    rw [if_pos e]
    omega
  · obtain ⟨i, i0, i1, hi⟩ := fmax_of (she h n d) (h - 1).toNat
    have := she_in (y := i) sl h1 i0 (by omega)
    unfold mo at this ⊢
    rw [if_neg e] at this ⊢
    omega
def shearL (w h : Int) (p : List Int) (n d : Int) : List Int := tab (w + mo h n d) h (fun u t => pix w h p (u - she h n d t) t)
def shearR (w h : Int) (p : List Int) (n d : Int) : Int × Int × List Int × Int := if Val w h p then (if slope n d then (if Sid (w + mo h n d) h then (w + mo h n d, h, shearL w h p n d, 0) else (0, 0, [], 4)) else (0, 0, [], 2)) else (0, 0, [], 30)
def unL (w0 w h : Int) (p : List Int) (n d : Int) : List Int := tab w0 h (fun u t => pix w h p (u + she h n d t) t)
def unR (w h : Int) (p : List Int) (n d w0 : Int) : Int × Int × List Int × Int := if Val w h p then (if ¬ slope n d ∨ w0 < 0 ∨ w0 > 200 then (0, 0, [], 2) else if w = w0 + mo h n d then (w0, h, unL w0 w h p n d, 0) else (0, 0, [], 2)) else (0, 0, [], 30)
theorem shear_val {w h : Int} {p : List Int} {n d : Int} (v : Val w h p) (s : Sid (w + mo h n d) h) : Val (w + mo h n d) h (shearL w h p n d) := val_tab s (fun _ _ _ _ _ _ => v.pix01 _ _)
theorem un_sid {w h : Int} {p : List Int} {n d w0 : Int} (v : Val w h p) (sl : slope n d) (h0 : 0 ≤ w0) (h1 : w0 ≤ 200) (e : w = w0 + mo h n d) : Sid w0 h := by
  obtain ⟨hw, hh, hw2, hh2, hm, _⟩ := v
  have := mo_in sl hh hh2
  have := Int.mul_le_mul_of_nonneg_right (show w0 ≤ w by omega) hh
  exact ⟨h0, hh, h1, hh2, by omega⟩
theorem un_val {w h : Int} {p : List Int} {n d w0 : Int} (v : Val w h p) (sl : slope n d) (h0 : 0 ≤ w0) (h1 : w0 ≤ 200) (e : w = w0 + mo h n d) : Val w0 h (unL w0 w h p n d) := val_tab (un_sid v sl h0 h1 e) (fun _ _ _ _ _ _ => v.pix01 _ _)
theorem shearR_byt (w h : Int) (p : List Int) (n d : Int) : Byt (shearR w h p n d).2.2.1 := by
  unfold shearR
  split
  · rename_i v
    split
    · split
      · rename_i s
        exact val_byt (shear_val v s)
      · exact nil_byt'
    · exact nil_byt'
  · exact nil_byt'
theorem unR_byt (w h : Int) (p : List Int) (n d w0 : Int) : Byt (unR w h p n d w0).2.2.1 := by
  unfold unR
  split
  · rename_i v
    split
    · exact nil_byt'
    · rename_i q
      split
      · rename_i e
        exact val_byt (un_val v (Classical.not_not.mp (fun z => q (.inl z))) (by omega) (by omega) e)
      · exact nil_byt'
  · exact nil_byt'
theorem un_shear {w h : Int} {p : List Int} {n d : Int} (v : Val w h p) (sl : slope n d) : unL w (w + mo h n d) h (shearL w h p n d) n d = p := by
  refine Eq.trans (tab_congr v.1 v.2.1 (fun x y a b c e => ?_)) v.tab.symm
  have := she_in (y := y) sl v.2.2.2.1 c e
  unfold shearL
  rw [pix_tab, if_pos (by omega), show x + she h n d y - she h n d y = x by omega]
theorem sm_out {f : Int → Int} : ∀ {n : Nat}, (∀ i : Int, 0 ≤ i → i < n → f i = 0) → sm n f = 0
  | 0, _ => rfl
  | n + 1, h => by
    rw [sm_s, sm_out (fun i a b => h i a (by omega)), h n (by omega) (by omega)]
    rfl
theorem sm_pad (f : Int → Int) (w s r : Nat) (hf : ∀ i : Int, i < 0 ∨ (w : Int) ≤ i → f i = 0) : sm (s + (w + r)) (fun u => f (u - s)) = sm w f := by
  rw [sm_add, sm_out (n := s) (fun i a b => hf _ (.inl (by omega)))]
  have e : sm (w + r) (fun i => f ((s : Int) + i - s)) = sm (w + r) f := sm_congr (fun i _ _ => by rw [show (s : Int) + i - s = i by omega])
  rw [e, sm_add, sm_out (n := r) (fun i a b => hf _ (.inr (by omega)))]
  omega
theorem shear_blk {w h : Int} {p : List Int} {n d : Int} (v : Val w h p) (sl : slope n d) : blk (shearL w h p n d) = blk p := by
  have hm := mo_in sl v.2.1 v.2.2.2.1
  rw [blk_val v]
  refine (sm_tab (by have := v.1; omega) v.2.1 _).trans ?_
  unfold tot
  refine sm_congr (fun y y0 y1 => ?_)
  have hs := she_in (y := y) sl v.2.2.2.1 y0 (by omega)
  have hw := v.1
  obtain ⟨s, es⟩ : ∃ s : Nat, (s : Int) = she h n d y := ⟨(she h n d y).toNat, by omega⟩
  have := sm_pad (fun x => pix w h p x y) w.toNat s ((mo h n d).toNat - s) (fun i hi => pix_out (by omega))
  show sm (w + mo h n d).toNat (fun x => pix w h p (x - she h n d y) y) = _
  rw [← es, show (w + mo h n d).toNat = s + (w.toNat + ((mo h n d).toNat - s)) by omega]
  exact this

theorem floor_is {q d : Int} (hd : 0 < d) (h0 : -1000000 ≤ q) (h1 : q ≤ 1000000) : scan_floor.f q d = some (flr q d) := by
  have := tdiv_in (B := 1000000) hd h0 h1
  unfold scan_floor.f flr
  rw [if_neg (by omega), w64 (x := Int.tdiv q d) (by omega) (by omega), w64 (by omega) (by omega)]
  split <;> rfl

theorem Min_is (l : List Int) (hl : 0 < (l.length : Int)) (hl2 : (l.length : Int) ≤ 1000000000) : EvP (fun k => slices_Min_int_int.f k l) (· = fmin (rd l) (l.length - 1)) := by
  unfold slices_Min_int_int.f
  refine EvP.neg (by omega) (EvP.pos hl ?_)
  refine EvP.up (L := fun k i (s : Int) => slices_Min_int_int.l0 k l s i) (fun i s => 1 ≤ i ∧ s = fmin (rd l) (i.toNat - 1)) l.length ?_ 1 _ (by omega) ⟨by omega, rfl⟩
  intro i s ⟨i0, hs⟩ hi ih
  refine EvP.step (fun k => by rw [slices_Min_int_int.l0]) ?_
  refine EvP.ite (fun i1 => ?_) (fun i1 => EvP.ret ?_)
  · refine EvP.pos (by omega) ?_
    rw [w64 (x := i + 1) (by omega) (by omega)]
    refine ih _ i1 ⟨by omega, ?_⟩
    rw [show (i + 1).toNat - 1 = (i.toNat - 1) + 1 by omega, hs]
    show _ = mn _ _
    rw [show (((i.toNat - 1 + 1 : Nat)) : Int) = i by omega]
  · rw [hs, show i.toNat = l.length by omega]
theorem Max_is (l : List Int) (hl : 0 < (l.length : Int)) (hl2 : (l.length : Int) ≤ 1000000000) : EvP (fun k => slices_Max_int_int.f k l) (· = fmax (rd l) (l.length - 1)) := by
  unfold slices_Max_int_int.f
  refine EvP.neg (by omega) (EvP.pos hl ?_)
  refine EvP.up (L := fun k i (s : Int) => slices_Max_int_int.l0 k l s i) (fun i s => 1 ≤ i ∧ s = fmax (rd l) (i.toNat - 1)) l.length ?_ 1 _ (by omega) ⟨by omega, rfl⟩
  intro i s ⟨i0, hs⟩ hi ih
  refine EvP.step (fun k => by rw [slices_Max_int_int.l0]) ?_
  refine EvP.ite (fun i1 => ?_) (fun i1 => EvP.ret ?_)
  · refine EvP.pos (by omega) ?_
    rw [w64 (x := i + 1) (by omega) (by omega)]
    refine ih _ i1 ⟨by omega, ?_⟩
    rw [show (i + 1).toNat - 1 = (i.toNat - 1) + 1 by omega, hs]
    show _ = mx _ _
    rw [show (((i.toNat - 1 + 1 : Nat)) : Int) = i by omega]
  · rw [hs, show i.toNat = l.length by omega]
theorem lmap_snoc1 (n : Nat) (f : Int → Int) : lmap (n + 1) f = lmap n f ++ [f (n : Int)] := by
  unfold lmap
  rw [List.range_succ, List.map_append]
  rfl
theorem fmin_lmap {n : Nat} {f : Int → Int} (hn : 0 < n) : fmin (rd (lmap n f)) (n - 1) = fmin f (n - 1) := fmin_congr (fun i a b => rd_lmap n f i a (by omega))
theorem fmax_lmap {n : Nat} {f : Int → Int} (hn : 0 < n) : fmax (rd (lmap n f)) (n - 1) = fmax f (n - 1) := fmax_congr (fun i a b => rd_lmap n f i a (by omega))
theorem shifts_is {h n d : Int} (sl : slope n d) (h0 : 0 ≤ h) (h1 : h ≤ 200) : EvP (fun k => scan_shifts.f k h n d) (· = (sheL h n d, mo h n d)) := by
  unfold scan_shifts.f
  refine EvP.up (L := fun k i (s : List Int) => scan_shifts.l0 k h n d s h i) (fun i s => 0 ≤ i ∧ s = lmap i.toNat (fl0 n d)) h ?_ 0 _ (by omega) ⟨by omega, rfl⟩
  intro i s ⟨i0, hs⟩ hi ih
  refine EvP.step (fun k => by rw [scan_shifts.l0]) ?_
  refine EvP.ite (fun i1 => ?_) (fun i1 => ?_)
  · have hb := flr_in (x := i) sl i0 (by omega)
    rw [w64 (x := i * n) (by omega) (by omega)]
    refine EvP.bindv (floor_is (by have := sl.1; omega) (by omega) (by omega)) ?_
    refine EvP.pos (by rw [hs, lmap_length]; omega) ?_
    rw [w64 (x := i + 1) (by omega) (by omega)]
    refine ih _ i1 ⟨by omega, ?_⟩
    rw [show (i + 1).toNat = i.toNat + 1 by omega, lmap_snoc1, hs, show ((i.toNat : Nat) : Int) = i by omega]
    rfl
  · obtain rfl : i = h := by omega
    refine EvP.ite (fun e => EvP.ret ?_) (fun e => ?_)
    · subst e
      rfl
    · have hln : s.length = i.toNat := by rw [hs, lmap_length]
      refine EvP.bind (Min_is s (by omega) (by omega)) ?_
      rintro _ rfl
      have em : fmin (rd s) (s.length - 1) = fmin (fl0 n d) (i - 1).toNat := by
        rw [hln, hs, fmin_lmap (by omega), show i.toNat - 1 = (i - 1).toNat by omega]
      rw [em]
      refine EvP.fill (L := fun k j (l : List Int) => scan_shifts.l1 k l (fmin (fl0 n d) (i - 1).toNat) (s.length : Int) j) s (she i n d) ?_ ?_
      · intro j l j0 j1 hl hr hk
        refine EvP.step (fun k => by rw [scan_shifts.l1]) ?_
        refine EvP.pos j1 (EvP.pos j0 (EvP.pos (by omega) ?_))
        have e1 : rd l j = fl0 n d j := by rw [hr j (by omega), hs, rd_lmap _ _ _ j0 (by omega)]
        have hb := flr_in (x := j) sl j0 (by omega)
        have hs2 := she_in (y := j) sl h1 j0 (by omega)
        rw [e1, w64 (x := j + 1) (by omega) (by omega), show wrap64 (fl0 n d j - fmin (fl0 n d) (i - 1).toNat) = she i n d j from w64 (by unfold she at hs2; omega) (by unfold she at hs2; omega)]
        exact hk
      · refine EvP.step (fun k => by rw [scan_shifts.l1]) ?_
        refine EvP.neg (by omega) ?_
        have el : lmap s.length (she i n d) = sheL i n d := by rw [hln]; rfl
        rw [el]
        have hl2 : (sheL i n d).length = i.toNat := by unfold sheL; rw [lmap_length]
        refine EvP.bind (Max_is _ (by omega) (by omega)) ?_
        rintro _ rfl
        refine EvP.ret ?_
        rw [hl2]
        unfold mo
        rw [if_neg e, show i.toNat - 1 = (i - 1).toNat by omega]
        congr 1
        have := fmax_lmap (n := i.toNat) (f := she i n d) (by omega)
        rw [show i.toNat - 1 = (i - 1).toNat by omega] at this
        exact this

theorem rd_seg (p : List Int) (a b : Nat) (i : Int) (h0 : 0 ≤ i) (h1 : (a : Int) + i < b) : rd ((p.take b).drop a) i = rd p ((a : Int) + i) := by
  unfold rd
  simp only [List.getD, List.getElem?_drop]
  have e : ((a : Int) + i).toNat = a + i.toNat := by omega
  rw [e, List.getElem?_take_of_lt (by omega)]

theorem rd_cpy (xs : List Int) (k m : Nat) (ys : List Int) (h : k + m ≤ xs.length) (j : Int) (j0 : 0 ≤ j) : rd (cpy xs k m ys) j = if (k : Int) ≤ j ∧ j < (k : Int) + (min ys.length m : Nat) then rd ys (j - k) else rd xs j := by
  unfold cpy rd
  simp only [List.getD]
  have hk : (xs.take k).length = k := by rw [List.length_take]; omega
  have hy : (ys.take (min ys.length m)).length = min ys.length m := by rw [List.length_take]; omega
  split
  · rename_i c
    have e : (j - (k : Int)).toNat = j.toNat - k := by omega
    rw [List.getElem?_append_right (by rw [hk]; omega), hk, List.getElem?_append_left (by rw [hy]; omega), List.getElem?_take_of_lt (by omega), e]
  · rename_i c
    rcases Int.lt_or_le j k with q | q
    · rw [List.getElem?_append_left (by rw [hk]; omega), List.getElem?_take_of_lt (by omega)]
    · rw [List.getElem?_append_right (by rw [hk]; omega), hk, List.getElem?_append_right (by rw [hy]; omega), hy, List.getElem?_drop]
      congr 2
      omega
/-- A piece of a row is copied over. -/
theorem cpy_tab {w h : Int} {g : Int → Int → Int} {y a c : Int} {m : Nat} {ys : List Int} (hw : 0 ≤ w) (hh : 0 ≤ h) (y0 : 0 ≤ y) (y1 : y < h) (a0 : 0 ≤ a) (hc : (ys.length : Int) = c) (hac : a + c ≤ w) (hm : c ≤ (m : Int)) (hm2 : y * w + a + m ≤ w * h) :
    cpy (tab w h g) (y * w + a).toNat m ys = tab w h (fun u t => if t = y ∧ a ≤ u ∧ u < a + c then rd ys (u - a) else g u t) := by
  have h0 : 0 ≤ w * h := Int.mul_nonneg hw hh
  have hy : 0 ≤ y * w := Int.mul_nonneg y0 hw
  have hl : (y * w + a).toNat + m ≤ (tab w h g).length := by rw [tab_length]; omega
  refine eq_tab hw hh (by rw [cpy_length _ _ _ _ hl, tab_length]; omega) (fun u t u0 u1 t0 t1 => ?_)
  have hf := flat_lt u0 u1 t0 t1
  have ek : (((y * w + a).toNat : Nat) : Int) = y * w + a := by omega
  rw [rd_cpy _ _ _ _ hl _ hf.2.1, rd_tab_at _ _ _ _ _ u0 u1 t0 t1, ek]
  have emin : (min ys.length m : Nat) = ys.length := by omega
  rw [emin, hc]
  by_cases e : t = y
  · subst e
    by_cases q : a ≤ u ∧ u < a + c
    · rw [if_pos (by omega), if_pos ⟨rfl, q.1, q.2⟩]
      congr 1
      omega
    · rw [if_neg (by omega), if_neg (fun r => q r.2)]
  · rw [if_neg (c := t = y ∧ _) (fun r => e r.1), if_neg]
    intro r
    have r1 : y * w ≤ t * w + u := by omega
    have r2 : t * w + u < y * w + w := by omega
    rcases Int.lt_or_gt_of_ne e with q | q
    · have := Int.mul_le_mul_of_nonneg_right (show t + 1 ≤ y by omega) hw
      rw [Int.add_mul, Int.one_mul] at this
      omega
    · have := Int.mul_le_mul_of_nonneg_right (show y + 1 ≤ t by omega) hw
      rw [Int.add_mul, Int.one_mul] at this
      omega

theorem fits_is (w h : Int) : bitmap_fits.f w h = some (decide (Sid w h)) := by
  unfold bitmap_fits.f
  by_cases h1 : 0 ≤ w ∧ 0 ≤ h ∧ w ≤ 200 ∧ h ≤ 200
  · obtain ⟨a, b, c, d⟩ := h1
    have := sid_mul a b c d
    rw [if_pos (by omega), if_pos (by omega), if_pos c, if_pos d, w64 (by omega) (by omega)]
    simp [Sid, a, b, c, d]
  · have h2 : ¬ Sid w h := fun s => h1 ⟨s.1, s.2.1, s.2.2.1, s.2.2.2.1⟩
    simp only [h2, decide_false]
    split
    · split
      · split
        · split
          · omega
          · rfl
        · rfl
      · rfl
    · rfl

theorem Valid_l0 (p : List Int) (hl : (p.length : Int) ≤ 9223372036854775807) : EvP (fun k => bitmap_Valid.l0 k p (p.length : Int) 0) (· = decide (∀ x ∈ p, x ≤ 1)) := by
  refine EvP.up (L := fun k i (_ : Unit) => bitmap_Valid.l0 k p (p.length : Int) i) (fun i _ => 0 ≤ i ∧ ∀ j, 0 ≤ j → j < i → rd p j ≤ 1) p.length ?_ 0 () (by omega) ⟨by omega, fun j _ _ => by omega⟩
  intro i _ ⟨h0, hb⟩ hi ih
  refine EvP.step (fun k => by rw [bitmap_Valid.l0]) ?_
  refine EvP.ite (fun h1 => ?_) (fun h1 => ?_)
  · refine EvP.pos h0 (EvP.pos h1 (EvP.ite (fun h2 => EvP.ret ?_) (fun h2 => ?_)))
    · symm
      rw [decide_eq_false_iff_not]
      intro hall
      have := hall _ (rd_mem h0 h1)
      omega
    · rw [w64 (by omega) (by omega)]
      refine ih () h1 ⟨by omega, fun j hj hj' => ?_⟩
      rcases Int.lt_or_le j i with hji | hji
      · exact hb j hj hji
      · have : j = i := by omega
        subst this
        omega
  · refine EvP.ret ?_
    symm
    rw [decide_eq_true_iff]
    intro x hx
    obtain ⟨n, hn, rfl⟩ := List.getElem_of_mem hx
    have := hb (n : Int) (by omega) (by omega)
    rwa [rd_get p n hn] at this
theorem Valid_is (w h : Int) (p : List Int) (hp : ∀ x ∈ p, 0 ≤ x) (hl : (p.length : Int) ≤ 9223372036854775807) : EvP (fun k => bitmap_Valid.f k w h p) (· = decide (Val w h p)) := by
  unfold bitmap_Valid.f
  refine EvP.bindv (fits_is w h) ?_
  refine EvP.ite (fun h1 => ?_) (fun h1 => ?_)
  · rw [decide_eq_true_iff] at h1
    have hm := sid_mul h1.1 h1.2.1 h1.2.2.1 h1.2.2.2.1
    rw [w64 (by omega) (by omega)]
    refine EvP.step (fun k => by rw [bitmap_Valid.j0]) ?_
    refine EvP.ite (fun h2 => EvP.ret ?_) (fun h2 => ?_)
    · symm
      rw [decide_eq_false_iff_not]
      intro v
      simp [v.2.2.2.2.2.1] at h2
    · refine (Valid_l0 p hl).mono ?_
      rintro r rfl
      have e : (p.length : Int) = w * h := by simpa using h2
      apply decide_eq_decide.mpr
      constructor
      · intro hall
        exact ⟨h1.1, h1.2.1, h1.2.2.1, h1.2.2.2.1, h1.2.2.2.2, e, fun x hx => ⟨hp x hx, hall x hx⟩⟩
      · intro v x hx
        exact (v.2.2.2.2.2.2 x hx).2
  · refine EvP.step (fun k => by rw [bitmap_Valid.j0]) ?_
    refine EvP.pos rfl (EvP.ret ?_)
    symm
    rw [decide_eq_false_iff_not]
    intro v
    exact h1 (decide_eq_true v.sid)

theorem blank_is (w h : Int) : bitmap_blank.f w h = some (if Sid w h then (w, h, tab w h (fun _ _ => 0), 0) else (0, 0, [], 4)) := by
  unfold bitmap_blank.f
  rw [fits_is, Option.bind_some]
  by_cases s : Sid w h
  · have hm := sid_mul s.1 s.2.1 s.2.2.1 s.2.2.2.1
    rw [if_pos (decide_eq_true s), if_pos s, w64 (by omega) (by omega), if_pos (by omega), if_pos (by omega), replicate_tab s.1 s.2.1]
  · rw [if_neg (by simpa using s), if_neg s]

/-- What New returns. -/
def newR (w h c : Int) : Int × Int × List Int × Int := if w < 0 ∨ h < 0 ∨ (c ≠ 0 ∧ c ≠ 1) then (0, 0, [], 2) else if Sid w h then (w, h, tab w h (fun _ _ => c), 0) else (0, 0, [], 4)
theorem New_j0 (w h c : Int) (b : Bool) (hb : b = true ↔ (w < 0 ∨ h < 0 ∨ (c ≠ 0 ∧ c ≠ 1))) : EvP (fun k => bitmap_New.j0 k w h c b) (· = newR w h c) := by
  refine EvP.step (fun k => by rw [bitmap_New.j0]) ?_
  refine EvP.ite (fun h1 => EvP.ret ?_) (fun h1 => ?_)
  · unfold newR
    rw [if_pos (hb.mp h1)]
  · have hn : ¬ (w < 0 ∨ h < 0 ∨ (c ≠ 0 ∧ c ≠ 1)) := fun q => h1 (hb.mpr q)
    unfold newR
    rw [if_neg hn]
    refine EvP.bindv (blank_is w h) ?_
    by_cases s : Sid w h
    · simp only [if_pos s]
      have hm := sid_mul s.1 s.2.1 s.2.2.1 s.2.2.2.1
      have hlen : ((tab w h fun _ _ => (0 : Int)).length : Int) = w * h := by rw [tab_length]; omega
      refine EvP.fill (L := fun k i l => bitmap_New.l0 k c 0 ((tab w h fun _ _ => 0).length : Int) i w h l) (tab w h fun _ _ => 0) (fun _ => c) ?_ ?_
      · intro i l h0 h2 hl hr hk
        refine EvP.step (fun k => by rw [bitmap_New.l0]) ?_
        refine EvP.pos h2 (EvP.pos h0 (EvP.pos (by omega) ?_))
        rw [w64 (by omega) (by omega), show c % 256 = c by omega]
        exact hk
      · refine EvP.step (fun k => by rw [bitmap_New.l0]) ?_
        refine EvP.neg (by omega) (EvP.ret ?_)
        rw [lmap_tab (w := w) (h := h) (g := fun _ _ => c) s.1 s.2.1 (by omega) (fun _ _ _ _ _ _ => rfl)]
    · simp only [if_neg s]
      refine EvP.step (fun k => by rw [bitmap_New.l0]) ?_
      exact EvP.neg (by simp) (EvP.ret rfl)
theorem New_is (w h c : Int) : EvP (fun k => bitmap_New.f k w h c) (· = newR w h c) := by
  unfold bitmap_New.f
  refine EvP.ite (fun h1 => New_j0 w h c true (by simp [h1])) (fun h1 => ?_)
  refine EvP.ite (fun h2 => New_j0 w h c true (by simp [h2])) (fun h2 => ?_)
  refine EvP.ite (fun h3 => New_j0 w h c _ (by simp; omega)) (fun h3 => New_j0 w h c _ (by simp; omega))

theorem rightShear_is (n d : Int) (h0 : -9223372036854775808 ≤ d) (h1 : d ≤ 9223372036854775807) : scan_rightShear.f n d = some (decide (slope n d)) := slope_b n d h0 h1

theorem seg_row {w h : Int} {p : List Int} (v : Val w h p) {y a c : Int} (y0 : 0 ≤ y) (y1 : y < h) (a0 : 0 ≤ a) (c0 : 0 ≤ c) (ac : a + c ≤ w) :
    (((p.take (y * w + a + c).toNat).drop (y * w + a).toNat).length : Int) = c ∧ ∀ i, 0 ≤ i → i < c → rd ((p.take (y * w + a + c).toNat).drop (y * w + a).toNat) i = pix w h p (a + i) y := by
  have hy : 0 ≤ y * w := Int.mul_nonneg y0 v.1
  have h2 := Int.mul_le_mul_of_nonneg_right (show y + 1 ≤ h by omega) v.1
  rw [Int.add_mul, Int.one_mul, Int.mul_comm h w] at h2
  have hl := v.2.2.2.2.2.1
  refine ⟨by rw [List.length_drop, List.length_take]; omega, fun i i0 i1 => ?_⟩
  rw [rd_seg p _ _ i i0 (by omega), pix_in (by omega) (by omega) y0 y1]
  congr 1
  omega
theorem Unshear_l0 {w h : Int} {p : List Int} {n d w0 : Int} (v : Val w h p) (sl : slope n d) (h0 : 0 ≤ w0) (h1 : w0 ≤ 200) (e : w = w0 + mo h n d) :
    EvP (fun k => scan_Unshear.l0 k w0 (sheL h n d) ((sheL h n d).length : Int) 0 w h p w0 h (tab w0 h (fun _ _ => 0))) (· = (w0, h, unL w0 w h p n d, 0)) := by
  obtain ⟨hw, hh, hw2, hh2, hm, hl, _⟩ := id v
  have hln : ((sheL h n d).length : Int) = h := by unfold sheL; rw [lmap_length]; omega
  have s0 := un_sid v sl h0 h1 e
  rw [hln]
  refine EvP.up (L := fun k i (s : List Int) => scan_Unshear.l0 k w0 (sheL h n d) h i w h p w0 h s) (fun i s => 0 ≤ i ∧ s = tab w0 h (fun u t => if t < i then pix w h p (u + she h n d t) t else 0)) h ?_ 0 _ hh ⟨by omega, tab_congr h0 hh (fun u t a b c q => (if_neg (by omega)).symm)⟩
  intro i s ⟨i0, hs⟩ hi ih
  refine EvP.step (fun k => by rw [scan_Unshear.l0]) ?_
  refine EvP.ite (fun i1 => ?_) (fun i1 => EvP.ret ?_)
  · have hb := she_in (y := i) sl hh2 i0 i1
    have hf : rd (sheL h n d) i = she h n d i := rd_lmap _ _ _ i0 (by omega)
    have m1 : 0 ≤ i * w := Int.mul_nonneg i0 hw
    have m2 := Int.mul_le_mul_of_nonneg_right (show i + 1 ≤ h by omega) hw
    rw [Int.add_mul, Int.one_mul, Int.mul_comm h w] at m2
    have m3 : 0 ≤ i * w0 := Int.mul_nonneg i0 h0
    have m4 := Int.mul_le_mul_of_nonneg_right (show i + 1 ≤ h by omega) h0
    have m5 : (i + 1) * w0 = i * w0 + w0 := by rw [Int.add_mul, Int.one_mul]
    rw [Int.mul_comm h w0] at m4
    have s4 := s0.2.2.2.2
    have hsl : (s.length : Int) = w0 * h := by rw [hs, tab_length]; have := Int.mul_nonneg h0 hh; omega
    rw [hf, w64 (x := i * w0) (by omega) (by omega), w64 (x := i + 1) (by omega) (by omega), w64 (x := (i + 1) * w0) (by omega) (by omega), w64 (x := i * w) (by omega) (by omega), w64 (x := i * w + she h n d i) (by omega) (by omega), w64 (x := i * w + she h n d i + w0) (by omega) (by omega)]
    refine EvP.pos i0 (EvP.pos (by omega) (EvP.pos m3 (EvP.pos (by omega) (EvP.pos (by omega) (EvP.pos (by omega) (EvP.pos (by omega) (EvP.pos (by omega) ?_)))))))
    refine ih _ i1 ⟨by omega, ?_⟩
    obtain ⟨q1, q2⟩ := seg_row (y := i) (a := she h n d i) (c := w0) v i0 i1 hb.1 h0 (by omega)
    have e3 := cpy_tab (g := fun u t => if t < i then pix w h p (u + she h n d t) t else 0) (y := i) (a := 0) (c := w0) (m := ((s.take ((i + 1) * w0).toNat).drop (i * w0).toNat).length) h0 hh i0 i1 (by omega) q1 (by omega) (by rw [List.length_drop, List.length_take]; omega) (by rw [List.length_drop, List.length_take]; omega)
    rw [← hs, show i * w0 + 0 = i * w0 by omega] at e3
    rw [e3]
    refine tab_congr h0 hh (fun u t a b c q => ?_)
    by_cases z : t = i
    · subst z
      rw [if_pos ⟨rfl, a, by omega⟩, if_pos (by omega), q2 _ (by omega) (by omega)]
      congr 1
      omega
    · rw [if_neg (fun r => z r.1)]
      by_cases r : t < i
      · rw [if_pos r, if_pos (by omega)]
      · rw [if_neg r, if_neg (by omega)]
  · obtain rfl : i = h := by omega
    rw [hs]
    unfold unL
    exact congrArg (fun l => (w0, i, l, (0 : Int))) (tab_congr h0 hh (fun u t a b c q => if_pos q))
theorem Unshear_j0 {w h : Int} {p : List Int} {n d w0 : Int} (v : Val w h p) (b : Bool) (hb : b = true ↔ (¬ slope n d ∨ w0 < 0 ∨ w0 > 200)) : EvP (fun k => scan_Unshear.j0 k n d w0 b w h p) (· = unR w h p n d w0) := by
  unfold unR
  rw [if_pos v]
  refine EvP.step (fun k => by rw [scan_Unshear.j0]) ?_
  refine EvP.ite (fun q => EvP.ret (by rw [if_pos (hb.mp q)])) (fun q => ?_)
  have q' : ¬ (¬ slope n d ∨ w0 < 0 ∨ w0 > 200) := fun r => q (hb.mpr r)
  rw [if_neg q']
  have sl : slope n d := Classical.not_not.mp (fun r => q' (.inl r))
  refine EvP.bind (shifts_is sl v.2.1 v.2.2.2.1) ?_
  rintro _ rfl
  have hm := mo_in sl v.2.1 v.2.2.2.1
  rw [show wrap64 (w0 + mo h n d) = w0 + mo h n d from w64 (by omega) (by omega)]
  refine EvP.ite (fun e => ?_) (fun e => EvP.ret (by rw [if_neg e]))
  rw [if_pos e]
  refine EvP.bind (New_is w0 h 0) ?_
  rintro _ rfl
  have s0 := un_sid v sl (by omega) (by omega) e
  have en : newR w0 h 0 = (w0, h, tab w0 h (fun _ _ => 0), 0) := by
    unfold newR
    rw [if_neg (by have := s0.1; have := s0.2.1; omega), if_pos s0]
  rw [en]
  exact Unshear_l0 v sl (by omega) (by omega) e
theorem Unshear_is (w h : Int) (p : List Int) (n d w0 : Int) (hp : ∀ x ∈ p, 0 ≤ x) (hl : (p.length : Int) ≤ 9223372036854775807) (h0 : -9223372036854775808 ≤ d) (h1 : d ≤ 9223372036854775807) : EvP (fun k => scan_Unshear.f k w h p n d w0) (· = unR w h p n d w0) := by
  unfold scan_Unshear.f
  refine EvP.bind (Valid_is w h p hp hl) ?_
  rintro _ rfl
  refine EvP.ite (fun q => ?_) (fun q => EvP.ret (by unfold unR; rw [if_neg (by simpa using q)]))
  have v : Val w h p := by simpa using q
  refine EvP.bindv (rightShear_is n d h0 h1) ?_
  refine EvP.ite (fun q => ?_) (fun q => Unshear_j0 v true (by
    have : ¬ slope n d := by simpa using q
    simp [this]))
  have sl : slope n d := by simpa using q
  refine EvP.ite (fun r => Unshear_j0 v true (by simp [r])) (fun r => Unshear_j0 v _ (by simp [sl]; omega))

theorem new0 {w h : Int} (hw : 0 ≤ w) (hh : 0 ≤ h) : newR w h 0 = if Sid w h then (w, h, tab w h (fun _ _ => 0), 0) else (0, 0, [], 4) := by
  unfold newR
  rw [if_neg (by omega)]

theorem Shear_l0 {w h : Int} {p : List Int} {n d : Int} (v : Val w h p) (sl : slope n d) (s0 : Sid (w + mo h n d) h) :
    EvP (fun k => scan_Shear.l0 k (sheL h n d) ((sheL h n d).length : Int) 0 w h p (w + mo h n d) h (tab (w + mo h n d) h (fun _ _ => 0))) (· = (w + mo h n d, h, shearL w h p n d, 0)) := by
  obtain ⟨hw, hh, hw2, hh2, hm, hl, _⟩ := id v
  have hln : ((sheL h n d).length : Int) = h := by unfold sheL; rw [lmap_length]; omega
  obtain ⟨W, eW⟩ : ∃ W, W = w + mo h n d := ⟨_, rfl⟩
  rw [hln]
  unfold shearL
  rw [← eW] at s0 ⊢
  obtain ⟨hW, _, hW2, _, hWm⟩ := id s0
  refine EvP.up (L := fun k i (s : List Int) => scan_Shear.l0 k (sheL h n d) h i w h p W h s) (fun i s => 0 ≤ i ∧ s = tab W h (fun u t => if t < i then pix w h p (u - she h n d t) t else 0)) h ?_ 0 _ hh ⟨by omega, tab_congr hW hh (fun u t a b c q => (if_neg (by omega)).symm)⟩
  intro i s ⟨i0, hs⟩ hi ih
  refine EvP.step (fun k => by rw [scan_Shear.l0]) ?_
  refine EvP.ite (fun i1 => ?_) (fun i1 => EvP.ret ?_)
  · have hb := she_in (y := i) sl hh2 i0 i1
    have hf : rd (sheL h n d) i = she h n d i := rd_lmap _ _ _ i0 (by omega)
    have m1 : 0 ≤ i * w := Int.mul_nonneg i0 hw
    have m2 := Int.mul_le_mul_of_nonneg_right (show i + 1 ≤ h by omega) hw
    have m6 : (i + 1) * w = i * w + w := by rw [Int.add_mul, Int.one_mul]
    rw [Int.mul_comm h w] at m2
    have m3 : 0 ≤ i * W := Int.mul_nonneg i0 hW
    have m4 := Int.mul_le_mul_of_nonneg_right (show i + 1 ≤ h by omega) hW
    rw [Int.add_mul, Int.one_mul, Int.mul_comm h W] at m4
    have hsl : (s.length : Int) = W * h := by rw [hs, tab_length]; have := Int.mul_nonneg hW hh; omega
    rw [hf, w64 (x := i * W) (by omega) (by omega), w64 (x := i * W + she h n d i) (by omega) (by omega), w64 (x := i * w) (by omega) (by omega), w64 (x := i + 1) (by omega) (by omega), w64 (x := (i + 1) * w) (by omega) (by omega)]
    refine EvP.pos i0 (EvP.pos (by omega) (EvP.pos (by omega) (EvP.pos (by omega) (EvP.pos m1 (EvP.pos (by omega) (EvP.pos (by omega) ?_))))))
    refine ih _ i1 ⟨by omega, ?_⟩
    obtain ⟨q1, q2⟩ := seg_row (y := i) (a := 0) (c := w) v i0 i1 (by omega) hw (by omega)
    rw [show i * w + 0 = i * w by omega, ← m6] at q1 q2
    have e3 := cpy_tab (g := fun u t => if t < i then pix w h p (u - she h n d t) t else 0) (y := i) (a := she h n d i) (c := w) (m := (s.drop (i * W + she h n d i).toNat).length) hW hh i0 i1 hb.1 q1 (by omega) (by rw [List.length_drop]; omega) (by rw [List.length_drop]; omega)
    rw [← hs] at e3
    rw [e3]
    refine tab_congr hW hh (fun u t a b c q => ?_)
    by_cases z : t = i
    · subst z
      by_cases y : she h n d t ≤ u ∧ u < she h n d t + w
      · rw [if_pos ⟨rfl, y⟩, if_pos (by omega), q2 _ (by omega) (by omega), Int.zero_add]
      · rw [if_neg (fun r => y r.2), if_neg (by omega), if_pos (by omega), pix_out (by omega)]
    · rw [if_neg (fun r => z r.1)]
      by_cases r : t < i
      · rw [if_pos r, if_pos (by omega)]
      · rw [if_neg r, if_neg (by omega)]
  · obtain rfl : i = h := by omega
    rw [hs]
    exact congrArg (fun l => (W, i, l, (0 : Int))) (tab_congr hW hh (fun u t a b c q => if_pos q))
theorem Shear_is (w h : Int) (p : List Int) (n d : Int) (hp : ∀ x ∈ p, 0 ≤ x) (hl : (p.length : Int) ≤ 9223372036854775807) (h0 : -9223372036854775808 ≤ d) (h1 : d ≤ 9223372036854775807) : EvP (fun k => scan_Shear.f k w h p n d) (· = shearR w h p n d) := by
  unfold scan_Shear.f shearR
  refine EvP.bind (Valid_is w h p hp hl) ?_
  rintro _ rfl
  refine EvP.ite (fun q => ?_) (fun q => EvP.ret (by rw [if_neg (by simpa using q)]))
  have v : Val w h p := by simpa using q
  rw [if_pos v]
  refine EvP.bindv (rightShear_is n d h0 h1) ?_
  refine EvP.ite (fun q => ?_) (fun q => EvP.ret (by rw [if_neg (by simpa using q)]))
  have sl : slope n d := by simpa using q
  rw [if_pos sl]
  refine EvP.bind (shifts_is sl v.2.1 v.2.2.2.1) ?_
  rintro _ rfl
  have hm := mo_in sl v.2.1 v.2.2.2.1
  have vw := v.1
  have vw2 := v.2.2.1
  rw [show wrap64 (w + mo h n d) = w + mo h n d from w64 (by omega) (by omega)]
  refine EvP.bind (New_is (w + mo h n d) h 0) ?_
  rintro _ rfl
  rw [new0 (by omega) v.2.1]
  by_cases s : Sid (w + mo h n d) h
  · rw [if_pos s, if_pos s]
    exact EvP.pos rfl (Shear_l0 v sl s)
  · rw [if_neg s, if_neg s]
    exact EvP.neg (by decide) (EvP.ret rfl)

theorem inside_is (w h : Int) (p : List Int) (x y : Int) : incunableref05_inside.f w h p x y = some (decide (0 ≤ x ∧ x < w ∧ 0 ≤ y ∧ y < h)) := by
  unfold incunableref05_inside.f
  by_cases a : x ≥ 0
  · rw [if_pos a]
    by_cases b : y ≥ 0
    · rw [if_pos b]
      by_cases c : x < w
      · rw [if_pos c]
        exact congrArg some (decide_eq_decide.mpr ⟨fun q => by omega, fun q => by omega⟩)
      · rw [if_neg c]
        exact congrArg some (decide_eq_false (by omega)).symm
    · rw [if_neg b]
      exact congrArg some (decide_eq_false (by omega)).symm
  · rw [if_neg a]
    exact congrArg some (decide_eq_false (by omega)).symm

theorem At_is {w h : Int} {p : List Int} (v : Val w h p) (x y : Int) : incunableref05_At.f w h p x y = some (pix w h p x y) := by
  unfold incunableref05_At.f
  rw [inside_is, Option.bind_some]
  by_cases hc : 0 ≤ x ∧ x < w ∧ 0 ≤ y ∧ y < h
  · have hf := flat_lt hc.1 hc.2.1 hc.2.2.1 hc.2.2.2
    have hm := v.2.2.2.2.1
    have hl := v.2.2.2.2.2.1
    have e : wrap64 (y * w) = y * w := w64 (by omega) (by omega)
    have hr := v.2.2.2.2.2.2 _ (rd_mem (l := p) hf.2.1 (by omega))
    rw [if_pos (decide_eq_true hc), e, w64 (by omega) (by omega), if_pos hf.2.1, if_pos (by omega), w64 (by omega) (by omega), pix_in hc.1 hc.2.1 hc.2.2.1 hc.2.2.2]
  · rw [if_neg (by simpa using hc), pix_out hc]

theorem Put_is {w h : Int} {g : Int → Int → Int} {x y v : Int} (hw : 0 ≤ w) (hh : 0 ≤ h) (hm : w * h ≤ 40000) (hx0 : 0 ≤ x) (hx : x < w) (hy0 : 0 ≤ y) (hy : y < h) :
    incunableref05_Put.f w h (tab w h g) x y v = some (tab w h (upd g x y (v % 256))) := by
  have h0 : 0 ≤ w * h := Int.mul_nonneg hw hh
  have hf := flat_lt hx0 hx hy0 hy
  unfold incunableref05_Put.f
  have e : wrap64 (y * w) = y * w := w64 (by omega) (by omega)
  rw [e, w64 (by omega) (by omega), if_pos hf.2.1, if_pos (by rw [tab_length]; omega), set_tab hw hh hx0 hx hy0 hy]

theorem Mix_all {op a b : Int} (h0 : 0 ≤ op) (h1 : op ≤ 4) (a0 : 0 ≤ a) (a1 : a ≤ 1) (b0 : 0 ≤ b) (b1 : b ≤ 1) :
    incunableref05_Mix.f op a b = some (mixv op a b) ∧ 0 ≤ mixv op a b ∧ mixv op a b ≤ 1 := by
  refine ⟨?_, mix_01 h0 h1 a0 a1 b0 b1⟩
  rcases five h0 h1 with rfl | rfl | rfl | rfl | rfl <;> rcases bit a0 a1 with rfl | rfl <;> rcases bit b0 b1 with rfl | rfl <;> decide +kernel

theorem At_tab {w h : Int} {g : Int → Int → Int} {x y : Int} (hw : 0 ≤ w) (hh : 0 ≤ h) (hm : w * h ≤ 40000) (hx0 : 0 ≤ x) (hx : x < w) (hy0 : 0 ≤ y) (hy : y < h) (g0 : 0 ≤ g x y) (g1 : g x y ≤ 255) : incunableref05_At.f w h (tab w h g) x y = some (g x y) := by
  have h0 : 0 ≤ w * h := Int.mul_nonneg hw hh
  unfold incunableref05_At.f
  rw [inside_is, Option.bind_some]
  have hf := flat_lt hx0 hx hy0 hy
  have e : wrap64 (y * w) = y * w := w64 (by omega) (by omega)
  rw [if_pos (decide_eq_true ⟨hx0, hx, hy0, hy⟩), e, w64 (by omega) (by omega), if_pos hf.2.1, if_pos (by rw [tab_length]; omega), rd_tab_at _ _ _ _ _ hx0 hx hy0 hy, w64 (by omega) (by omega)]
theorem Lay_is {w h : Int} {g : Int → Int → Int} {w' h' : Int} {s : List Int} {x y op : Int} (sd : Sid w h) (hg : ∀ u t, 0 ≤ u → u < w → 0 ≤ t → t < h → 0 ≤ g u t ∧ g u t ≤ 1) (v : Val w' h' s) (h0 : 0 ≤ op) (h1 : op ≤ 4) (hs : Shf x y) :
    EvP (fun k => incunableref05_Lay.f k w h (tab w h g) w' h' s x y op) (· = tab w h (drawG g w' h' s x y op)) := by
  obtain ⟨hw, hh, w200, h200, hm⟩ := sd
  obtain ⟨hw', hh', w200', h200', _⟩ := v.sid
  obtain ⟨sx0, sx1, sy0, sy1⟩ := hs
  unfold incunableref05_Lay.f
  refine EvP.rasterP (L0 := fun k j (l : List Int) => incunableref05_Lay.l0 k x y op j w h l w' h' s) (L1 := fun k j i (l : List Int) => incunableref05_Lay.l1 k x y op j i w h l w' h' s) (W := w') (H := h')
    (fun i j => x + i) (fun i j => y + j) (fun u t => u - x) (fun u t => t - y) g (fun u t => mixv op (g u t) (pix w' h' s (u - x) (t - y))) hw' hh' hw hh ?_ ?_ ?_ ?_ ?_ ?_ ?_
  · intro i j a b c d
    exact ⟨by show x + i - x = i; omega, by show y + j - y = j; omega⟩
  · intro u t a b c d e f g' h'
    exact ⟨by show x + (u - x) = u; omega, by show y + (t - y) = t; omega⟩
  · intro j l a b hk
    refine EvP.step (fun k => by rw [incunableref05_Lay.l0]) ?_
    exact EvP.pos b hk
  · refine EvP.step (fun k => by rw [incunableref05_Lay.l0]) ?_
    exact EvP.neg (by omega) (EvP.ret rfl)
  · intro i j g' a b c d p0 p1 q0 q1 e hk
    have e1 := hg _ _ p0 p1 q0 q1
    refine EvP.step (fun k => by rw [incunableref05_Lay.l1]) ?_
    refine EvP.pos b ?_
    rw [w64 (x := x + i) (by omega) (by omega), w64 (x := y + j) (by omega) (by omega)]
    refine EvP.bindv (inside_is _ _ _ _ _) ?_
    refine EvP.pos (decide_eq_true ⟨p0, p1, q0, q1⟩) ?_
    have e2 : g' (x + i) (y + j) = g (x + i) (y + j) := e
    refine EvP.bindv (At_tab hw hh (by omega) p0 p1 q0 q1 (by rw [e2]; exact e1.1) (by rw [e2]; omega)) ?_
    refine EvP.bindv (At_is v i j) ?_
    have e3 := v.pix01 i j
    have e4 := Mix_all h0 h1 e1.1 e1.2 e3.1 e3.2
    rw [e2]
    refine EvP.bindv e4.1 ?_
    refine EvP.bindv (Put_is hw hh (by omega) p0 p1 q0 q1) ?_
    rw [w64 (x := i + 1) (by omega) (by omega), show mixv op (g (x + i) (y + j)) (pix w' h' s i j) % 256 = mixv op (g (x + i) (y + j)) (pix w' h' s i j) by omega]
    have e5 : x + i - x = i := by omega
    have e6 : y + j - y = j := by omega
    simp only [e5, e6] at hk
    exact hk
  · intro i j g' a b c d q hk
    refine EvP.step (fun k => by rw [incunableref05_Lay.l1]) ?_
    refine EvP.pos b ?_
    rw [w64 (x := x + i) (by omega) (by omega), w64 (x := y + j) (by omega) (by omega)]
    refine EvP.bindv (inside_is _ _ _ _ _) ?_
    refine EvP.neg (by simpa using q) ?_
    rw [w64 (x := i + 1) (by omega) (by omega)]
    exact hk
  · intro j l a b hk
    refine EvP.step (fun k => by rw [incunableref05_Lay.l1]) ?_
    refine EvP.neg (by omega) ?_
    rw [w64 (x := j + 1) (by omega) (by omega)]
    exact hk

theorem make2_l0 (w h c : Int) (a b : Int) (hw : 0 ≤ w) (hh : 0 ≤ h) (hw' : w ≤ 200) (hh' : h ≤ 200) : EvP (fun k => incunableref05_make2.l0 k w h c 0 a b []) (· = (a, b, List.replicate (w * h).toNat (c % 256))) := by
  have hm := sid_mul hw hh hw' hh'
  refine EvP.up (L := fun k i (s : List Int) => incunableref05_make2.l0 k w h c i a b s) (fun i s => 0 ≤ i ∧ s = List.replicate i.toNat (c % 256)) (w * h) ?_ 0 [] (by omega) ⟨by omega, rfl⟩
  intro i s ⟨h0, hs⟩ hi ih
  subst hs
  refine EvP.step (fun k => by rw [incunableref05_make2.l0]) ?_
  rw [w64 (x := w * h) (by omega) (by omega)]
  refine EvP.ite (fun h1 => ?_) (fun h1 => ?_)
  · refine EvP.pos (by rw [List.length_replicate]; omega) ?_
    rw [w64 (by omega) (by omega)]
    refine ih _ h1 ⟨by omega, ?_⟩
    rw [show (i + 1).toNat = i.toNat + 1 by omega, List.replicate_succ']
  · have : i = w * h := by omega
    subst this
    exact EvP.ret rfl
theorem make2_is (w h c : Int) (hw : 0 ≤ w) (hh : 0 ≤ h) (hw' : w ≤ 200) (hh' : h ≤ 200) : EvP (fun k => incunableref05_make2.f k w h c) (· = (w, h, tab w h (fun _ _ => c % 256))) := by
  unfold incunableref05_make2.f
  refine (make2_l0 w h c w h hw hh hw' hh').mono ?_
  rintro r rfl
  rw [replicate_tab hw hh]

theorem Part_is {w h : Int} {p : List Int} {x y w' h' : Int} (v : Val w h p) (s : 0 ≤ w' ∧ 0 ≤ h' ∧ w' ≤ 200 ∧ h' ≤ 200) (hx : -1000000 ≤ x ∧ x ≤ 1000000) (hy : -1000000 ≤ y ∧ y ≤ 1000000) :
    EvP (fun k => incunableref05_Part.f k w h p x y w' h') (· = (w', h', tab w' h' (partG w h p x y))) := by
  obtain ⟨hw', hh', w200', h200'⟩ := s
  have hm := sid_mul hw' hh' w200' h200'
  unfold incunableref05_Part.f
  refine EvP.bind (make2_is w' h' 0 hw' hh' w200' h200') ?_
  rintro _ rfl
  have e0 : tab w' h' (fun u t => if 0 ≤ u ∧ u < w' ∧ 0 ≤ t ∧ t < h' then partG w h p x y u t else 0 % 256) = tab w' h' (partG w h p x y) := tab_congr hw' hh' (fun u t a b c d => if_pos ⟨a, b, c, d⟩)
  refine EvP.rasterP (L0 := fun k j (l : List Int) => incunableref05_Part.l0 k x y w' h' j w h p w' h' l) (L1 := fun k j i (l : List Int) => incunableref05_Part.l1 k x y w' h' j i w h p w' h' l) (W := w') (H := h')
    (fun i j => i) (fun i j => j) (fun u t => u) (fun u t => t) (fun _ _ => 0 % 256) (partG w h p x y) hw' hh' hw' hh' ?_ ?_ ?_ ?_ ?_ ?_ ?_
  · intro i j a b c d
    exact ⟨rfl, rfl⟩
  · intro u t a b c d e f g' h'
    exact ⟨rfl, rfl⟩
  · intro j l a b hk
    refine EvP.step (fun k => by rw [incunableref05_Part.l0]) ?_
    exact EvP.pos b hk
  · refine EvP.step (fun k => by rw [incunableref05_Part.l0]) ?_
    refine EvP.neg (by omega) (EvP.ret ?_)
    rw [e0]
  · intro i j g' a b c d p0 p1 q0 q1 e hk
    refine EvP.step (fun k => by rw [incunableref05_Part.l1]) ?_
    refine EvP.pos b ?_
    rw [w64 (x := x + i) (by omega) (by omega), w64 (x := y + j) (by omega) (by omega)]
    refine EvP.bindv (At_is v _ _) ?_
    refine EvP.bindv (Put_is hw' hh' (by omega) a b c d) ?_
    have e3 := v.pix01 (x + i) (y + j)
    rw [w64 (x := i + 1) (by omega) (by omega), show pix w h p (x + i) (y + j) % 256 = pix w h p (x + i) (y + j) by omega]
    exact hk
  · intro i j g' a b c d q hk
    exact absurd ⟨a, b, c, d⟩ q
  · intro j l a b hk
    refine EvP.step (fun k => by rw [incunableref05_Part.l1]) ?_
    refine EvP.neg (by omega) ?_
    rw [w64 (x := j + 1) (by omega) (by omega)]
    exact hk

theorem Sides_is (w h : Int) : incunableref05_Sides.f w h = some (decide (Sid w h)) := by
  unfold incunableref05_Sides.f
  by_cases h1 : 0 ≤ w ∧ 0 ≤ h ∧ w ≤ 200 ∧ h ≤ 200
  · obtain ⟨a, b, c, d⟩ := h1
    have := sid_mul a b c d
    rw [if_pos (by omega), if_pos (by omega), if_pos c, if_pos d, w64 (by omega) (by omega)]
    simp [Sid, a, b, c, d]
  · have h2 : ¬ Sid w h := fun s => h1 ⟨s.1, s.2.1, s.2.2.1, s.2.2.2.1⟩
    simp only [h2, decide_false]
    split
    · split
      · split
        · split
          · omega
          · rfl
        · rfl
      · rfl
    · rfl

theorem refNew_j0 (w h c : Int) (b : Bool) (hb : b = true ↔ (w < 0 ∨ h < 0 ∨ (c ≠ 0 ∧ c ≠ 1))) : EvP (fun k => incunableref05_New.j0 k w h c b) (· = newR w h c) := by
  refine EvP.step (fun k => by rw [incunableref05_New.j0]) ?_
  refine EvP.ite (fun h1 => EvP.ret ?_) (fun h1 => ?_)
  · unfold newR
    rw [if_pos (hb.mp h1)]
  · have hn : ¬ (w < 0 ∨ h < 0 ∨ (c ≠ 0 ∧ c ≠ 1)) := fun q => h1 (hb.mpr q)
    unfold newR
    rw [if_neg hn]
    refine EvP.bindv (Sides_is w h) ?_
    by_cases s : Sid w h
    · refine EvP.pos (decide_eq_true s) ?_
      refine EvP.bind (make2_is w h c s.1 s.2.1 s.2.2.1 s.2.2.2.1) ?_
      rintro _ rfl
      rw [if_pos s]
      refine EvP.ret ?_
      rw [show c % 256 = c by omega]
    · refine EvP.neg (by simpa using s) (EvP.ret ?_)
      rw [if_neg s]
theorem refNew_is (w h c : Int) : EvP (fun k => incunableref05_New.f k w h c) (· = newR w h c) := by
  unfold incunableref05_New.f
  refine EvP.ite (fun h1 => refNew_j0 w h c true (by simp [h1])) (fun h1 => ?_)
  refine EvP.ite (fun h2 => refNew_j0 w h c true (by simp [h2])) (fun h2 => ?_)
  refine EvP.ite (fun h3 => refNew_j0 w h c _ (by simp; omega)) (fun h3 => refNew_j0 w h c _ (by simp; omega))

theorem refValid_l0 (w h : Int) (p : List Int) (hl : (p.length : Int) ≤ 9223372036854775807) : EvP (fun k => incunableref05_Valid.l0 k 0 w h p) (· = decide (∀ x ∈ p, x ≤ 1)) := by
  refine EvP.up (L := fun k i (_ : Unit) => incunableref05_Valid.l0 k i w h p) (fun i _ => 0 ≤ i ∧ ∀ j, 0 ≤ j → j < i → rd p j ≤ 1) p.length ?_ 0 () (by omega) ⟨by omega, fun j _ _ => by omega⟩
  intro i _ ⟨h0, hb⟩ hi ih
  refine EvP.step (fun k => by rw [incunableref05_Valid.l0]) ?_
  refine EvP.ite (fun h1 => ?_) (fun h1 => ?_)
  · refine EvP.pos h0 (EvP.ite (fun h2 => EvP.ret ?_) (fun h2 => ?_))
    · symm
      rw [decide_eq_false_iff_not]
      intro hall
      have := hall _ (rd_mem h0 h1)
      omega
    · rw [w64 (by omega) (by omega)]
      refine ih () h1 ⟨by omega, fun j hj hj' => ?_⟩
      rcases Int.lt_or_le j i with hji | hji
      · exact hb j hj hji
      · have : j = i := by omega
        subst this
        omega
  · refine EvP.ret ?_
    symm
    rw [decide_eq_true_iff]
    intro x hx
    obtain ⟨n, hn, rfl⟩ := List.getElem_of_mem hx
    have := hb (n : Int) (by omega) (by omega)
    rwa [rd_get p n hn] at this
theorem refValid_is (w h : Int) (p : List Int) (hp : ∀ x ∈ p, 0 ≤ x) (hl : (p.length : Int) ≤ 9223372036854775807) : EvP (fun k => incunableref05_Valid.f k w h p) (· = decide (Val w h p)) := by
  unfold incunableref05_Valid.f
  refine EvP.bindv (Sides_is w h) ?_
  refine EvP.ite (fun h1 => ?_) (fun h1 => ?_)
  · rw [decide_eq_true_iff] at h1
    have hm := sid_mul h1.1 h1.2.1 h1.2.2.1 h1.2.2.2.1
    rw [w64 (by omega) (by omega)]
    refine EvP.step (fun k => by rw [incunableref05_Valid.j0]) ?_
    refine EvP.ite (fun h2 => EvP.ret ?_) (fun h2 => ?_)
    · symm
      rw [decide_eq_false_iff_not]
      intro v
      simp [v.2.2.2.2.2.1] at h2
    · refine (refValid_l0 w h p hl).mono ?_
      rintro r rfl
      have e : (p.length : Int) = w * h := by simpa using h2
      apply decide_eq_decide.mpr
      constructor
      · intro hall
        exact ⟨h1.1, h1.2.1, h1.2.2.1, h1.2.2.2.1, h1.2.2.2.2, e, fun x hx => ⟨hp x hx, hall x hx⟩⟩
      · intro v x hx
        exact (v.2.2.2.2.2.2 x hx).2
  · refine EvP.step (fun k => by rw [incunableref05_Valid.j0]) ?_
    refine EvP.pos rfl (EvP.ret ?_)
    symm
    rw [decide_eq_false_iff_not]
    intro v
    exact h1 (decide_eq_true v.sid)

theorem Down_is {q d : Int} (hd : 0 < d) (h0 : -1000000 ≤ q) (h1 : q ≤ 1000000) : incunableref19_Down.f q d = some (flr q d) := by
  have := tdiv_in (B := 1000000) hd h0 h1
  unfold incunableref19_Down.f flr
  rw [if_neg (by omega), w64 (x := Int.tdiv q d) (by omega) (by omega), w64 (by omega) (by omega)]
  split <;> rfl

theorem refShifts_l2 {h n d : Int} (sl : slope n d) (h0 : 0 < h) (h1 : h ≤ 200) : EvP (fun k => incunableref29_shifts.l2 k h (lmap h.toNat (fl0 n d)) (fmin (fl0 n d) (h - 1).toNat) 0 0) (· = (sheL h n d, mo h n d)) := by
  refine EvP.up (L := fun k i (s : List Int × Int) => incunableref29_shifts.l2 k h s.1 (fmin (fl0 n d) (h - 1).toNat) s.2 i)
    (fun i s => 0 ≤ i ∧ s.1.length = h.toNat ∧ (∀ j, 0 ≤ j → j < h → rd s.1 j = if j < i then she h n d j else fl0 n d j) ∧ s.2 = if i = 0 then 0 else fmax (she h n d) (i.toNat - 1)) h ?_ 0 (lmap h.toNat (fl0 n d), 0) (by omega) ⟨by omega, lmap_length _ _, fun j j0 j1 => by rw [if_neg (by omega)]; exact rd_lmap _ _ _ j0 (by omega), rfl⟩
  rintro i ⟨l, x⟩ ⟨i0, hl, hr, hx⟩ hi ih
  simp only at hl hr hx
  refine EvP.step (fun k => by simp only; rw [incunableref29_shifts.l2]) ?_
  refine EvP.ite (fun i1 => ?_) (fun i1 => EvP.ret ?_)
  · have hb := flr_in (x := i) sl i0 (by omega)
    have hs2 := she_in (y := i) sl h1 i0 (by omega)
    refine EvP.pos i0 (EvP.pos (by omega) ?_)
    have e1 : rd l i = fl0 n d i := by rw [hr i i0 i1, if_neg (by omega)]
    rw [e1, w64 (x := i + 1) (by omega) (by omega), show wrap64 (fl0 n d i - fmin (fl0 n d) (h - 1).toNat) = she h n d i from w64 (by unfold she at hs2; omega) (by unfold she at hs2; omega)]
    simp only [Option.bind_some]
    have e2 : rd (l.set i.toNat (she h n d i)) i = she h n d i := by rw [rd_set _ _ _ _ i0 (by omega) i0, if_pos rfl]
    rw [e2]
    refine ih (l.set i.toNat (she h n d i), mx x (she h n d i)) i1 ⟨by omega, by simp only; rw [List.length_set, hl], fun j j0 j1 => ?_, ?_⟩
    · simp only
      rw [rd_set _ _ _ _ i0 (by omega) j0]
      by_cases e : j = i
      · subst e
        rw [if_pos rfl, if_pos (by omega)]
      · rw [if_neg e, hr j j0 j1]
        by_cases q : j < i
        · rw [if_pos q, if_pos (by omega)]
        · rw [if_neg q, if_neg (by omega)]
    · simp only
      rw [if_neg (by omega), hx]
      by_cases e : i = 0
      · subst e
        rw [if_pos rfl]
        show mx 0 (she h n d 0) = she h n d 0
        unfold mx
        split <;> omega
      · rw [if_neg e, show (i + 1).toNat - 1 = (i.toNat - 1) + 1 by omega]
        show _ = mx _ _
        rw [show (((i.toNat - 1 + 1 : Nat)) : Int) = i by omega]
  · obtain rfl : i = h := by omega
    have e1 : l = sheL i n d := eq_lmap hl (fun j j0 j1 => by rw [hr j j0 (by omega), if_pos (by omega)])
    rw [e1, hx, if_neg (by omega)]
    unfold mo
    rw [if_neg (by omega), show i.toNat - 1 = (i - 1).toNat by omega]
theorem refShifts_l1 {h n d : Int} (sl : slope n d) (h0 : 0 < h) (h1 : h ≤ 200) : EvP (fun k => incunableref29_shifts.l1 k h (lmap h.toNat (fl0 n d)) 0 0 0) (· = (sheL h n d, mo h n d)) := by
  have hln : ((lmap h.toNat (fl0 n d)).length : Int) = h := by rw [lmap_length]; omega
  refine EvP.up (L := fun k i (s : Int) => incunableref29_shifts.l1 k h (lmap h.toNat (fl0 n d)) s 0 i) (fun i s => 0 ≤ i ∧ s = if i = 0 then 0 else fmin (fl0 n d) (i.toNat - 1)) h ?_ 0 0 (by omega) ⟨by omega, rfl⟩
  intro i s ⟨i0, hs⟩ hi ih
  refine EvP.step (fun k => by rw [incunableref29_shifts.l1]) ?_
  refine EvP.ite (fun i1 => ?_) (fun i1 => ?_)
  · rw [w64 (x := i + 1) (by omega) (by omega), rd_lmap _ _ i i0 (by omega)]
    refine EvP.ite (fun e => EvP.pos i0 (EvP.pos (by omega) (ih _ i1 ⟨by omega, ?_⟩))) (fun e => EvP.pos i0 (EvP.pos (by omega) (EvP.ite (fun q => ih _ i1 ⟨by omega, ?_⟩) (fun q => ih _ i1 ⟨by omega, ?_⟩))))
    · subst e
      rfl
    all_goals
      rw [if_neg e] at hs
      rw [if_neg (by omega), show (i + 1).toNat - 1 = (i.toNat - 1) + 1 by omega]
      show _ = mn _ _
      rw [show (((i.toNat - 1 + 1 : Nat)) : Int) = i by omega, ← hs]
      unfold mn
    · rw [if_pos q]
    · rw [if_neg q]
  · obtain rfl : i = h := by omega
    rw [if_neg (by omega)] at hs
    rw [hs, show i.toNat - 1 = (i - 1).toNat by omega]
    exact refShifts_l2 sl h0 h1
theorem refShifts_is {h n d : Int} (sl : slope n d) (h0 : 0 ≤ h) (h1 : h ≤ 200) : EvP (fun k => incunableref29_shifts.f k h n d) (· = (sheL h n d, mo h n d)) := by
  unfold incunableref29_shifts.f
  refine EvP.up (L := fun k i (s : List Int) => incunableref29_shifts.l0 k h n d s i) (fun i s => 0 ≤ i ∧ s = lmap i.toNat (fl0 n d)) h ?_ 0 _ (by omega) ⟨by omega, rfl⟩
  intro i s ⟨i0, hs⟩ hi ih
  refine EvP.step (fun k => by rw [incunableref29_shifts.l0]) ?_
  refine EvP.ite (fun i1 => ?_) (fun i1 => ?_)
  · have hb := flr_in (x := i) sl i0 (by omega)
    rw [w64 (x := i * n) (by omega) (by omega)]
    refine EvP.bindv (Down_is (by have := sl.1; omega) (by omega) (by omega)) ?_
    refine EvP.pos (by rw [hs, lmap_length]; omega) ?_
    rw [w64 (x := i + 1) (by omega) (by omega)]
    refine ih _ i1 ⟨by omega, ?_⟩
    rw [show (i + 1).toNat = i.toNat + 1 by omega, lmap_snoc1, hs, show ((i.toNat : Nat) : Int) = i by omega]
    rfl
  · obtain rfl : i = h := by omega
    rw [hs]
    by_cases e : i = 0
    · subst e
      refine EvP.step (fun k => by rw [incunableref29_shifts.l1]) (EvP.neg (by omega) ?_)
      refine EvP.step (fun k => by rw [incunableref29_shifts.l2]) ?_
      exact EvP.neg (by omega) (EvP.ret rfl)
    · exact refShifts_l1 sl (by omega) h1

theorem isSlope_is (n d : Int) (h0 : -9223372036854775808 ≤ d) (h1 : d ≤ 9223372036854775807) : incunableref29_isSlope.f n d = some (decide (slope n d)) := slope_b n d h0 h1

theorem lay_row {w h W : Int} {p : List Int} {g : Int → Int → Int} {x y a c : Int} (v : Val w h p) (hW : 0 ≤ W) (h2 : 0 ≤ c) (h3 : c ≤ 200) :
    tab W h (drawG g c 1 (tab c 1 (partG w h p x y)) a y 0) = tab W h (fun u t => if t = y ∧ a ≤ u ∧ u < a + c then pix w h p (x + (u - a)) y else g u t) := by
  refine tab_congr hW v.2.1 (fun u t u0 u1 t0 t1 => ?_)
  unfold drawG
  by_cases q : t = y ∧ a ≤ u ∧ u < a + c
  · obtain ⟨rfl, q1, q2⟩ := q
    rw [if_pos (by omega), if_pos ⟨rfl, q1, q2⟩, mix0, pix_tab, if_pos (by omega)]
    unfold partG
    rw [show t + (t - t) = t by omega]
  · rw [if_neg (by omega), if_neg q]
theorem row_val {w h : Int} {p : List Int} {x y c : Int} (v : Val w h p) (h2 : 0 ≤ c) (h3 : c ≤ 200) : Val c 1 (tab c 1 (partG w h p x y)) := part_val v ⟨h2, by omega, h3, by omega, by omega⟩

theorem refShear_l0 {w h : Int} {p : List Int} {n d : Int} (v : Val w h p) (sl : slope n d) (s0 : Sid (w + mo h n d) h) :
    EvP (fun k => incunableref29_Shear.l0 k (sheL h n d) 0 w h p (w + mo h n d) h (tab (w + mo h n d) h (fun _ _ => 0))) (· = (w + mo h n d, h, shearL w h p n d, 0)) := by
  obtain ⟨hw, hh, hw2, hh2, hm, hl, _⟩ := id v
  have hln : ((sheL h n d).length : Int) = h := by unfold sheL; rw [lmap_length]; omega
  obtain ⟨W, eW⟩ : ∃ W, W = w + mo h n d := ⟨_, rfl⟩
  unfold shearL
  rw [← eW] at s0 ⊢
  have hW := s0.1
  refine EvP.up (L := fun k i (s : List Int) => incunableref29_Shear.l0 k (sheL h n d) i w h p W h s) (fun i s => 0 ≤ i ∧ s = tab W h (fun u t => if t < i then pix w h p (u - she h n d t) t else 0)) h ?_ 0 _ hh ⟨by omega, tab_congr hW hh (fun u t a b c q => (if_neg (by omega)).symm)⟩
  rintro i s ⟨i0, rfl⟩ hi ih
  refine EvP.step (fun k => by rw [incunableref29_Shear.l0]) ?_
  refine EvP.ite (fun i1 => ?_) (fun i1 => EvP.ret ?_)
  · have hb := she_in (y := i) sl hh2 i0 i1
    have hf : rd (sheL h n d) i = she h n d i := rd_lmap _ _ _ i0 (by omega)
    refine EvP.bind (Part_is (x := 0) (y := i) (w' := w) (h' := 1) v ⟨hw, by omega, hw2, by omega⟩ (by omega) (by omega)) ?_
    rintro _ rfl
    refine EvP.pos i0 (EvP.pos (by omega) ?_)
    rw [hf]
    have hW2 := s0.2.2.1
    refine EvP.bind (Lay_is (x := she h n d i) (y := i) (op := 0) s0 (fun u t _ _ _ _ => by
      show 0 ≤ (if t < i then _ else _) ∧ (if t < i then _ else _) ≤ _
      split
      · exact v.pix01 _ _
      · omega) (row_val v hw hw2) (by omega) (by omega) ⟨by omega, by omega, by omega, by omega⟩) ?_
    rintro _ rfl
    rw [w64 (x := i + 1) (by omega) (by omega)]
    refine ih _ i1 ⟨by omega, ?_⟩
    rw [lay_row v hW hw hw2]
    refine tab_congr hW hh (fun u t a b c q => ?_)
    by_cases z : t = i
    · subst z
      by_cases y : she h n d t ≤ u ∧ u < she h n d t + w
      · rw [if_pos ⟨rfl, y⟩, if_pos (by omega), Int.zero_add]
      · rw [if_neg (fun r => y r.2), if_neg (by omega), if_pos (by omega), pix_out (by omega)]
    · rw [if_neg (fun r => z r.1)]
      by_cases r : t < i
      · rw [if_pos r, if_pos (by omega)]
      · rw [if_neg r, if_neg (by omega)]
  · obtain rfl : i = h := by omega
    exact congrArg (fun l => (W, i, l, (0 : Int))) (tab_congr hW hh (fun u t a b c q => if_pos q))
theorem refShear_is (w h : Int) (p : List Int) (n d : Int) (hp : ∀ x ∈ p, 0 ≤ x) (hl : (p.length : Int) ≤ 9223372036854775807) (h0 : -9223372036854775808 ≤ d) (h1 : d ≤ 9223372036854775807) : EvP (fun k => incunableref29_Shear.f k w h p n d) (· = shearR w h p n d) := by
  unfold incunableref29_Shear.f shearR
  refine EvP.bind (refValid_is w h p hp hl) ?_
  rintro _ rfl
  refine EvP.ite (fun q => ?_) (fun q => EvP.ret (by rw [if_neg (by simpa using q)]))
  have v : Val w h p := by simpa using q
  rw [if_pos v]
  refine EvP.bindv (isSlope_is n d h0 h1) ?_
  refine EvP.ite (fun q => ?_) (fun q => EvP.ret (by rw [if_neg (by simpa using q)]))
  have sl : slope n d := by simpa using q
  rw [if_pos sl]
  refine EvP.bind (refShifts_is sl v.2.1 v.2.2.2.1) ?_
  rintro _ rfl
  have hm := mo_in sl v.2.1 v.2.2.2.1
  have vw := v.1
  have vw2 := v.2.2.1
  rw [show wrap64 (w + mo h n d) = w + mo h n d from w64 (by omega) (by omega)]
  refine EvP.bind (refNew_is (w + mo h n d) h 0) ?_
  rintro _ rfl
  rw [new0 (by omega) v.2.1]
  by_cases s : Sid (w + mo h n d) h
  · rw [if_pos s, if_pos s]
    exact EvP.pos rfl (refShear_l0 v sl s)
  · rw [if_neg s, if_neg s]
    exact EvP.neg (by decide) (EvP.ret rfl)

def mdl : Int := 2147483647
def stc (x : Int) : Int := (x * 48271) % 2147483647
def itc : Nat → Int → Int
  | 0, x => x
  | n + 1, x => stc (itc n x)
def bgn (s : Int) : Int := if s % 2147483647 = 0 then 1 else s % 2147483647
def chl (n : Nat) (s : Int) : List Int := lmap n (fun i => itc (i.toNat + 1) (bgn s))
theorem bgn_in (s : Int) : 0 ≤ bgn s ∧ bgn s ≤ 2147483646 := by
  unfold bgn
  split <;> omega
theorem stc_in (x : Int) : 0 ≤ stc x ∧ stc x ≤ 2147483646 := by
  unfold stc
  omega
theorem itc_in (n : Nat) {x : Int} (h0 : 0 ≤ x) (h1 : x ≤ 2147483646) : 0 ≤ itc n x ∧ itc n x ≤ 2147483646 := by
  cases n with
  | zero => exact ⟨h0, h1⟩
  | succ n => exact stc_in _
theorem stc_is {x : Int} (h0 : 0 ≤ x) (h1 : x ≤ 2147483646) : Int.tmod (wrap64 (x * 48271)) 2147483647 = stc x := by
  rw [w64 (by omega) (by omega), tmod_pos (by omega)]
  rfl
theorem lmap_snoc (n : Nat) (f : Int → Int) : lmap (n + 1) f = lmap n f ++ [f n] := by
  unfold lmap
  rw [List.range_succ, List.map_append]
  rfl
theorem lmap_take (n m : Nat) (f : Int → Int) (h : m ≤ n) : (lmap n f).take m = lmap m f := by
  unfold lmap
  rw [← List.map_take, List.take_range, Nat.min_eq_left h]

theorem begin_is (s : Int) (h0 : -9223372036854775808 ≤ s) (h1 : s ≤ 9223372036854775807) : scan_begin.f s = some (bgn s) := by
  unfold scan_begin.f bgn
  rw [qm (by omega) (by omega) h0 h1]
  split <;> rfl
theorem next_is {x : Int} (h0 : 0 ≤ x) (h1 : x ≤ 2147483646) : scan_chance_next.f x = some (stc x, stc x) := by
  unfold scan_chance_next.f
  rw [stc_is h0 h1]
def chanceR (s n : Int) : List Int × Int := if n < 0 ∨ n > 8192 then ([], 2) else (chl n.toNat s, 0)
theorem Chance_j0 (s n : Int) (h0 : -9223372036854775808 ≤ s) (h1 : s ≤ 9223372036854775807) (b : Bool) (hb : b = true ↔ (n < 0 ∨ n > 8192)) : EvP (fun k => scan_Chance.j0 k s n b) (· = chanceR s n) := by
  unfold chanceR
  refine EvP.step (fun k => by rw [scan_Chance.j0]) ?_
  refine EvP.ite (fun a => EvP.ret (by rw [if_pos (hb.mp a)])) (fun a => ?_)
  have a : ¬ (n < 0 ∨ n > 8192) := fun x => a (hb.mpr x)
  rw [if_neg a]
  refine EvP.bindv (begin_is s h0 h1) ?_
  have b0 := bgn_in s
  refine EvP.up (L := fun k i (x : List Int × Int) => scan_Chance.l0 k x.1 n i x.2) (fun i x => 0 ≤ i ∧ x = (chl i.toNat s, itc i.toNat (bgn s))) n ?_ 0 ([], bgn s) (by omega) ⟨by omega, rfl⟩
  intro i x ⟨i0, hx⟩ hi ih
  subst hx
  refine EvP.step (fun k => by rw [scan_Chance.l0]) ?_
  refine EvP.ite (fun c => ?_) (fun c => ?_)
  · have bi := itc_in i.toNat b0.1 b0.2
    refine EvP.bindv (next_is bi.1 bi.2) ?_
    refine EvP.pos (by show (chl i.toNat s).length < _; unfold chl; rw [lmap_length]; omega) ?_
    rw [w64 (x := i + 1) (by omega) (by omega)]
    refine ih (chl i.toNat s ++ [stc (itc i.toNat (bgn s))], stc (itc i.toNat (bgn s))) c ⟨by omega, ?_⟩
    rw [show (i + 1).toNat = i.toNat + 1 by omega]
    unfold chl
    rw [lmap_snoc]
    rfl
  · have : i = n := by omega
    subst this
    exact EvP.ret rfl
theorem Chance_is (s n : Int) (h0 : -9223372036854775808 ≤ s) (h1 : s ≤ 9223372036854775807) : EvP (fun k => scan_Chance.f k s n) (· = chanceR s n) := by
  unfold scan_Chance.f
  exact EvP.ite (fun a => Chance_j0 s n h0 h1 true (by simp [a])) (fun a => Chance_j0 s n h0 h1 _ (by simp; omega))

theorem SameInts_self (l : List Int) (hl : (l.length : Int) ≤ 9223372036854775806) : EvP (fun k => incunableref01_SameInts.f k l l) (· = true) := by
  unfold incunableref01_SameInts.f
  refine EvP.pos rfl ?_
  refine EvP.up (L := fun k i (_ : Unit) => incunableref01_SameInts.l0 k l l i) (fun i _ => 0 ≤ i) l.length ?_ 0 () (by omega) (by omega)
  intro i _ i0 hi ih
  refine EvP.step (fun k => by rw [incunableref01_SameInts.l0]) ?_
  refine EvP.ite (fun c => ?_) (fun c => EvP.ret rfl)
  refine EvP.pos i0 (EvP.pos c (EvP.pos rfl ?_))
  rw [w64 (x := i + 1) (by omega) (by omega)]
  exact ih () c (by omega)

theorem Sane29_is : EvP (fun k => incunablelaw29_Sane.f k) (· = true) := by
  unfold incunablelaw29_Sane.f
  refine EvP.bind (Chance_is 1 2 (by omega) (by omega)) ?_
  rintro _ rfl
  have e : chanceR 1 2 = ([48271, 182605794], 0) := by decide +kernel
  rw [e]
  refine EvP.pos rfl ?_
  refine EvP.bind (SameInts_self _ (by simp)) ?_
  rintro _ rfl
  exact EvP.ret rfl

theorem refSame_is (w h : Int) (p : List Int) (w' h' : Int) (p' : List Int) (hp : Byt p) (hp' : Byt p') : incunableref05_Same.f w h p w' h' p' = some (decide (w = w' ∧ h = h' ∧ p = p')) := by
  unfold incunableref05_Same.f
  rw [strOfNums_eq hp hp']
  by_cases a : w = w'
  · by_cases b : h = h'
    · simp [a, b]
    · simp [a, b]
  · simp [a]

theorem Large_is (w h : Int) (p : List Int) : incunablelaw29_Large.f w h p = some (decide ((p.length : Int) > 2000)) := rfl

theorem Blacks_is (w h : Int) (p : List Int) (hp : Byt p) (hl : (p.length : Int) ≤ 1000000000) : EvP (fun k => incunableref05_Blacks.f k w h p) (· = blk p) := by
  unfold incunableref05_Blacks.f
  refine EvP.up (L := fun k i (s : Int) => incunableref05_Blacks.l0 k s i w h p) (fun i s => 0 ≤ i ∧ s = sm i.toNat (fun j => rd p j)) p.length ?_ 0 0 (by omega) ⟨by omega, rfl⟩
  intro i s ⟨h0, hs⟩ hi ih
  refine EvP.step (fun k => by rw [incunableref05_Blacks.l0]) ?_
  refine EvP.ite (fun h1 => ?_) (fun h1 => ?_)
  · refine EvP.pos h0 ?_
    have hb := hp _ (rd_mem h0 h1)
    have hsm := sm_bound (n := i.toNat) (f := fun j => rd p j) (c := 255) (by omega) (fun j a b => hp _ (rd_mem a (by omega)))
    rw [w64 (x := rd p i) (by omega) (by omega), w64 (x := s + rd p i) (by omega) (by omega), w64 (x := i + 1) (by omega) (by omega)]
    refine ih _ h1 ⟨by omega, ?_⟩
    rw [hs, show (i + 1).toNat = i.toNat + 1 by omega, sm_s, show ((i.toNat : Nat) : Int) = i by omega]
  · refine EvP.ret ?_
    have : i.toNat = p.length := by omega
    rw [hs, this]
    rfl

theorem ScanShears : incunablelaw29_ScanShears.Pure := by
  intro w h p n d _ _ hp hn hd
  have hb := wf_byt hp.2.2
  obtain ⟨h0, h1⟩ := wf_i64 hd
  have hb0 : ∀ z ∈ p, 0 ≤ z := fun z hz => (hb z hz).1
  refine EvP.rounds ?_
  unfold incunablelaw29_ScanShears.f
  refine EvP.bindv (Large_is w h p) ?_
  have sane : EvP (fun k => (incunablelaw29_Sane.f k).bind fun t => some t) (· = true) := by
    refine EvP.bind Sane29_is ?_
    rintro _ rfl
    exact EvP.ret rfl
  refine EvP.ite (fun a => sane) (fun a => ?_)
  have a : ¬ (p.length : Int) > 2000 := by simpa using a
  refine EvP.bind (Shear_is w h p n d hb0 (by omega) h0 h1) ?_
  rintro _ rfl
  refine EvP.bind (refShear_is w h p n d hb0 (by omega) h0 h1) ?_
  rintro _ rfl
  refine EvP.pos rfl ?_
  refine EvP.bindv (refSame_is _ _ _ _ _ _ (shearR_byt w h p n d) (shearR_byt w h p n d)) ?_
  refine EvP.step (fun k => by rw [incunablelaw29_ScanShears.j0]) ?_
  refine EvP.neg (by simp) ?_
  refine EvP.ite (fun e => ?_) (fun e => sane)
  by_cases v : Val w h p
  · by_cases sl : slope n d
    · by_cases s : Sid (w + mo h n d) h
      · have e1 : shearR w h p n d = (w + mo h n d, h, shearL w h p n d, 0) := by
          unfold shearR
          rw [if_pos v, if_pos sl, if_pos s]
        have vs := shear_val v s
        have ls : ((shearL w h p n d).length : Int) ≤ 8192 := by rw [vs.2.2.2.2.2.1]; exact vs.2.2.2.2.1
        have e2 : unR (w + mo h n d) h (shearL w h p n d) n d w = (w, h, p, 0) := by
          have := v.1
          have := v.2.2.1
          unfold unR
          rw [if_pos vs, if_neg (by intro q; rcases q with q | q | q; exact q sl; omega; omega), if_pos rfl, un_shear v sl]
        rw [e1]
        refine EvP.bind (Unshear_is (w + mo h n d) h (shearL w h p n d) n d w (fun z hz => (val_byt vs z hz).1) (by omega) h0 h1) ?_
        rintro _ rfl
        rw [e2]
        refine EvP.pos rfl ?_
        refine EvP.bindv (refSame_is _ _ _ _ _ _ hb hb) ?_
        refine EvP.pos (by simp) ?_
        refine EvP.bind (Blacks_is _ h (shearL w h p n d) (val_byt vs) (by omega)) ?_
        rintro _ rfl
        refine EvP.bind (Blacks_is w h p hb (by omega)) ?_
        rintro _ rfl
        exact EvP.pos (shear_blk v sl) sane
      · unfold shearR at e
        rw [if_pos v, if_pos sl, if_neg s] at e
        exact absurd e (by decide)
    · unfold shearR at e
      rw [if_pos v, if_neg sl] at e
      exact absurd e (by decide)
  · unfold shearR at e
    rw [if_neg v] at e
    exact absurd e (by decide)

end Go.Proofs.Ytkncofhgmcpagaa.Pure
