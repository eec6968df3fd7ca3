/- The tilt among a list is that of the reference, and no other one has a greater energy; for every input, no conditions. -/
import Derived.Test.YtkncofhgmcpagaaPScanTiltsx8
import Derived.Test.YtkncofhgmcpagaaQBase
namespace Go.Proofs.Ytkncofhgmcpagaa.Pure
open Go.RowKit Go.Proofs.Ytkncofhgmcpagaa.PScanTilts Go.Proofs.YtkncofhgmcpagaaW.PrintWords Go.Proofs.YtkncofhgmcpagaaW.PrintLast Go.Proofs.YtkncofhgmcpagaaW.PrintMore Go.Proofs.YtkncofhgmcpagaaW.Pu
set_option linter.unusedVariables false
set_option linter.unusedSimpArgs false
/-- The numbers of a list are those of bytes. -/
def Byt (p : List Int) : Prop := ∀ x ∈ p, 0 ≤ x ∧ x ≤ 255
theorem val_byt {w h : Int} {p : List Int} (v : Val w h p) : Byt p := fun x hx => ⟨(v.2.2.2.2.2.2 x hx).1, by have := (v.2.2.2.2.2.2 x hx).2; omega⟩

theorem wf_byt {p : List Int} (h : ∀ y ∈ p, (Lit.int .u8 y).wf = true) : Byt p := fun x hx => by
  have h1 : (decide (IntKind.u8.min ≤ x) && decide (x ≤ IntKind.u8.max)) = true := h x hx
  obtain ⟨a, b⟩ := Bool.and_eq_true_iff.mp h1
  exact ⟨of_decide_eq_true a, of_decide_eq_true b⟩
theorem wf_i64 {x : Int} (h : (Lit.int .i64 x).wf = true) : -9223372036854775808 ≤ x ∧ x ≤ 9223372036854775807 := by
  have h1 : (decide (IntKind.i64.min ≤ x) && decide (x ≤ IntKind.i64.max)) = true := h
  obtain ⟨a, b⟩ := Bool.and_eq_true_iff.mp h1
  exact ⟨of_decide_eq_true a, of_decide_eq_true b⟩

theorem qm {q n : Int} (hn : 0 < n) (hn' : n ≤ 1000000000000) (h0 : -9223372036854775808 ≤ q) (h1 : q ≤ 9223372036854775807) : Int.tmod (wrap64 (Int.tmod q n + n)) n = q % n := by
  rcases Int.lt_or_le q 0 with h | h
  · have e : Int.tmod q n = -((-q) % n) := by
      rw [show q = -(-q) by omega, Int.neg_tmod, tmod_pos (by omega)]
      simp
    have r0 := Int.emod_nonneg (-q) (show n ≠ 0 by omega)
    have r1 := Int.emod_lt_of_pos (-q) hn
    rw [e, w64 (by omega) (by omega), tmod_pos (by omega)]
    have e2 := Int.emod_add_mul_ediv (-q) n
    have e3 : -(-q % n) + n = q + n * (1 + -q / n) := by rw [Int.mul_add]; omega
    rw [e3, Int.add_mul_emod_self_left]
  · have r0 := Int.emod_nonneg q (show n ≠ 0 by omega)
    have r1 := Int.emod_lt_of_pos q hn
    rw [tmod_pos h, w64 (by omega) (by omega), tmod_pos (by omega), Int.add_emod_right, Int.emod_emod_of_dvd _ (Int.dvd_refl n)]

/-- The sum of the first numbers. -/
def sm : Nat → (Int → Int) → Int
  | 0, _ => 0
  | n + 1, f => sm n f + f (n : Int)
theorem sm_s (n : Nat) (f : Int → Int) : sm (n + 1) f = sm n f + f (n : Int) := rfl
theorem sm_0 (f : Int → Int) : sm 0 f = 0 := rfl
theorem sm_congr {f g : Int → Int} : ∀ {n : Nat}, (∀ i : Int, 0 ≤ i → i < n → f i = g i) → sm n f = sm n g
  | 0, _ => rfl
  | n + 1, h => by
    unfold sm
    rw [sm_congr (fun i h0 h1 => h i h0 (by omega)), h n (by omega) (by omega)]
theorem sm_bound {f : Int → Int} {c : Int} (hc : 0 ≤ c) : ∀ {n : Nat}, (∀ i : Int, 0 ≤ i → i < n → 0 ≤ f i ∧ f i ≤ c) → 0 ≤ sm n f ∧ sm n f ≤ n * c
  | 0, _ => by simp [sm]
  | n + 1, h => by
    have h1 := sm_bound hc (fun i h0 h1 => h i h0 (by omega)) (n := n)
    have h2 := h n (by omega) (by omega)
    unfold sm
    have e : ((n + 1 : Nat) : Int) * c = n * c + c := by rw [Int.natCast_add, Int.add_mul]; simp
    omega
theorem sm_zero {f : Int → Int} (h0 : ∀ i : Int, 0 ≤ i → 0 ≤ f i) : ∀ {n : Nat}, sm n f = 0 → ∀ i : Int, 0 ≤ i → i < n → f i = 0
  | 0, _, i, a, b => by omega
  | n + 1, h, i, a, b => by
    unfold sm at h
    have h1 : 0 ≤ sm n f := by
      have : ∀ m : Nat, 0 ≤ sm m f := by
        intro m
        induction m with
        | zero => simp [sm]
        | succ m ih => unfold sm; have := h0 m (by omega); omega
      exact this n
    have h2 := h0 n (by omega)
    rcases Int.lt_or_le i n with c | c
    · exact sm_zero h0 (show sm n f = 0 by omega) i a c
    · have : i = n := by omega
      subst this
      omega
theorem sm_const (c : Int) : ∀ n : Nat, sm n (fun _ => c) = n * c
  | 0 => by simp [sm]
  | n + 1 => by
    unfold sm
    rw [sm_const c n, Int.natCast_add, Int.add_mul]
    simp
theorem sm_add (f : Int → Int) (a : Nat) : ∀ b : Nat, sm (a + b) f = sm a f + sm b (fun i => f (a + i))
  | 0 => by simp [sm]
  | b + 1 => by
    rw [show a + (b + 1) = (a + b) + 1 from rfl, sm_s, sm_s, sm_add f a b]
    have e : ((a + b : Nat) : Int) = (a : Int) + (b : Int) := by omega
    rw [e]
    show sm a f + sm b (fun i => f (a + i)) + f (a + b) = sm a f + (sm b (fun i => f (a + i)) + f (a + b))
    omega
theorem sm_plus (f g : Int → Int) : ∀ n : Nat, sm n (fun i => f i + g i) = sm n f + sm n g
  | 0 => by simp [sm]
  | n + 1 => by
    rw [sm_s, sm_s, sm_s, sm_plus f g n]
    show sm n f + sm n g + (f n + g n) = sm n f + f n + (sm n g + g n)
    omega
theorem sm_swap (g : Int → Int → Int) (W : Nat) : ∀ H : Nat, sm H (fun y => sm W (fun x => g x y)) = sm W (fun x => sm H (fun y => g x y))
  | 0 => by
    have : sm W (fun x => sm 0 (fun y => g x y)) = sm W (fun _ => 0) := sm_congr (fun i _ _ => rfl)
    rw [this, sm_const 0 W, sm_0]
    simp
  | H + 1 => by
    rw [sm_s, sm_swap g W H]
    have : sm W (fun x => sm (H + 1) (fun y => g x y)) = sm W (fun x => sm H (fun y => g x y) + g x H) := sm_congr (fun i _ _ => rfl)
    rw [this, sm_plus]
theorem sm_front (f : Int → Int) : ∀ n : Nat, sm (n + 1) f = f 0 + sm n (fun i => f (i + 1))
  | 0 => by simp [sm]
  | n + 1 => by
    rw [show sm (n + 1 + 1) f = sm (n + 1) f + f ((n + 1 : Nat) : Int) from rfl, sm_front f n]
    rw [show sm (n + 1) (fun i => f (i + 1)) = sm n (fun i => f (i + 1)) + f ((n : Int) + 1) from rfl]
    have e : ((n + 1 : Nat) : Int) = (n : Int) + 1 := by omega
    rw [e]
    omega
theorem sm_mirror (f : Int → Int) : ∀ n : Nat, sm n (fun i => f ((n : Int) - 1 - i)) = sm n f
  | 0 => rfl
  | n + 1 => by
    rw [sm_front]
    have e : (((n + 1 : Nat) : Int) - 1 - 0) = (n : Int) := by omega
    rw [e]
    have e2 : sm n (fun i => f (((n + 1 : Nat) : Int) - 1 - (i + 1))) = sm n (fun i => f ((n : Int) - 1 - i)) := sm_congr (fun i _ _ => by
      have : ((n + 1 : Nat) : Int) - 1 - (i + 1) = (n : Int) - 1 - i := by omega
      rw [this])
    rw [e2, sm_mirror f n, sm_s]
    omega
/-- All pixels' sum. -/
def tot (w h : Int) (g : Int → Int → Int) : Int := sm h.toNat (fun y => sm w.toNat (fun x => g x y))
theorem sm_flat (g : Int → Int → Int) (W : Nat) : ∀ H : Nat, sm (W * H) (fun i => g (i % (W : Int)) (i / (W : Int))) = sm H (fun y => sm W (fun x => g x y))
  | 0 => rfl
  | H + 1 => by
    rw [Nat.mul_succ, sm_add, sm_flat g W H]
    rw [show sm (H + 1) (fun y => sm W (fun x => g x y)) = sm H (fun y => sm W (fun x => g x y)) + sm W (fun x => g x (H : Int)) from rfl]
    congr 1
    refine sm_congr (fun i h0 h1 => ?_)
    have e : ((W * H : Nat) : Int) + i = (H : Int) * (W : Int) + i := by rw [Int.natCast_mul, Int.mul_comm]
    rw [e, flat_mod h0 h1, flat_div h0 h1]
theorem sm_tab {w h : Int} (hw : 0 ≤ w) (hh : 0 ≤ h) (g : Int → Int → Int) : sm (tab w h g).length (fun i => rd (tab w h g) i) = tot w h g := by
  have h0 : 0 ≤ w * h := Int.mul_nonneg hw hh
  rw [tab_length]
  have e : (w * h).toNat = w.toNat * h.toNat := by
    have e1 : ((w.toNat * h.toNat : Nat) : Int) = w * h := by rw [Int.natCast_mul, Int.toNat_of_nonneg hw, Int.toNat_of_nonneg hh]
    omega
  have ew : ((w.toNat : Nat) : Int) = w := Int.toNat_of_nonneg hw
  unfold tot
  rw [← sm_flat g w.toNat h.toNat, e, ew]
  refine sm_congr (fun i a b => ?_)
  rw [rd_tab w h g i a (by omega)]
theorem tot_congr {w h : Int} {g g' : Int → Int → Int} (hg : ∀ x y, 0 ≤ x → x < w → 0 ≤ y → y < h → g x y = g' x y) : tot w h g = tot w h g' :=
  sm_congr (fun y a b => sm_congr (fun x c d => hg x y c (by omega) a (by omega)))
theorem tot_turn {w h : Int} (hw : 0 ≤ w) (hh : 0 ≤ h) (g : Int → Int → Int) : tot h w (fun x y => g y (h - 1 - x)) = tot w h g := by
  unfold tot
  have eh : ((h.toNat : Nat) : Int) = h := Int.toNat_of_nonneg hh
  rw [sm_swap (fun x y => g x y) w.toNat h.toNat]
  refine sm_congr (fun y a b => ?_)
  have := sm_mirror (fun i => g y i) h.toNat
  rw [eh] at this
  exact this
theorem tot_flip {w h : Int} (hw : 0 ≤ w) (hh : 0 ≤ h) (g : Int → Int → Int) : tot w h (fun x y => g (w - 1 - x) y) = tot w h g := by
  unfold tot
  have ew : ((w.toNat : Nat) : Int) = w := Int.toNat_of_nonneg hw
  refine sm_congr (fun y a b => ?_)
  have := sm_mirror (fun i => g i y) w.toNat
  rw [ew] at this
  exact this
/-- How many pixels are black. -/
def blk (p : List Int) : Int := sm p.length (fun i => rd p i)
theorem blk_val {w h : Int} {p : List Int} (v : Val w h p) : blk p = tot w h (pix w h p) := by
  unfold blk
  have e := sm_tab v.1 v.2.1 (pix w h p)
  rw [← v.tab] at e
  exact e

instance (w h : Int) (p : List Int) : Decidable (Val w h p) := by unfold Val; exact inferInstance
theorem sid_mul {w h : Int} (hw : 0 ≤ w) (hh : 0 ≤ h) (hw' : w ≤ 200) (hh' : h ≤ 200) : 0 ≤ w * h ∧ w * h ≤ 40000 := by
  have h1 : 0 ≤ w * h := Int.mul_nonneg hw hh
  have h2 : w * h ≤ 200 * h := Int.mul_le_mul_of_nonneg_right hw' hh
  omega

theorem mul_in {a n : Int} {A N : Int} (a0 : -A ≤ a) (a1 : a ≤ A) (n0 : -N ≤ n) (n1 : n ≤ N) : -(A * N) ≤ a * n ∧ a * n ≤ A * N := by
  have hA : 0 ≤ A := by omega
  have h1 := Int.mul_nonneg (show 0 ≤ A - a by omega) (show 0 ≤ N + n by omega)
  have h2 := Int.mul_nonneg (show 0 ≤ A + a by omega) (show 0 ≤ N - n by omega)
  have h3 := Int.mul_nonneg (show 0 ≤ A - a by omega) (show 0 ≤ N - n by omega)
  have h4 := Int.mul_nonneg (show 0 ≤ A + a by omega) (show 0 ≤ N + n by omega)
  rw [Int.sub_mul, Int.mul_add, Int.mul_add] at h1
  rw [Int.add_mul, Int.mul_sub, Int.mul_sub] at h2
  rw [Int.sub_mul, Int.mul_sub, Int.mul_sub] at h3
  rw [Int.add_mul, Int.mul_add, Int.mul_add] at h4
  omega
theorem tdiv_in {q m B : Int} (hm : 0 < m) (q0 : -B ≤ q) (q1 : q ≤ B) : -B ≤ Int.tdiv q m ∧ Int.tdiv q m ≤ B := by
  rcases Int.lt_or_le q 0 with h | h
  · have e : Int.tdiv q m = -((-q) / m) := by
      rw [show q = -(-q) by omega, Int.neg_tdiv, tdiv_pos (by omega)]
      simp
    have a := Int.ediv_nonneg (show 0 ≤ -q by omega) (show 0 ≤ m by omega)
    have b := Int.ediv_le_self m (show 0 ≤ -q by omega)
    omega
  · rw [tdiv_pos h]
    have a := Int.ediv_nonneg h (show 0 ≤ m by omega)
    have b := Int.ediv_le_self m h
    omega
theorem rot1 {x s w : Int} (h0 : 0 ≤ x) (h1 : x < w) : ((x + s) % w - s) % w = x := by
  have e : (x + s) % w - s = x + w * (-((x + s) / w)) := by
    have := Int.emod_add_mul_ediv (x + s) w
    rw [Int.mul_neg]
    omega
  rw [e, Int.add_mul_emod_self_left, Int.emod_eq_of_lt h0 h1]
theorem rot2 {x s w : Int} (h0 : 0 ≤ x) (h1 : x < w) : ((x - s) % w + s) % w = x := by
  have e : (x - s) % w + s = x + w * (-((x - s) / w)) := by
    have := Int.emod_add_mul_ediv (x - s) w
    rw [Int.mul_neg]
    omega
  rw [e, Int.add_mul_emod_self_left, Int.emod_eq_of_lt h0 h1]
theorem sm_rot (n : Nat) (f : Int → Int) (s : Int) : sm n (fun i => f ((i - s) % (n : Int))) = sm n f := by
  by_cases hn : n = 0
  · subst hn; rfl
  have r0 := Int.emod_nonneg (-s) (show (n : Int) ≠ 0 by omega)
  have r1 := Int.emod_lt_of_pos (-s) (show 0 < (n : Int) by omega)
  obtain ⟨r, hr⟩ : ∃ r : Nat, (r : Int) = (-s) % (n : Int) := ⟨((-s) % (n : Int)).toNat, by omega⟩
  have key : ∀ i : Int, (i - s) % (n : Int) = (i + r) % (n : Int) := fun i => by
    rw [hr, Int.add_emod i (-s % n), Int.emod_emod_of_dvd _ (Int.dvd_refl _), ← Int.add_emod]
    rfl
  obtain ⟨m, hm⟩ : ∃ m : Nat, n = m + r := ⟨n - r, by omega⟩
  have e1 : sm n (fun i => f ((i - s) % (n : Int))) = sm (m + r) (fun i => f ((i + r) % (n : Int))) := by
    rw [← hm]
    exact sm_congr (fun i _ _ => by rw [key])
  have e2 : sm n f = sm (r + m) f := by rw [hm, Nat.add_comm]
  rw [e1, e2, sm_add, sm_add, Int.add_comm]
  congr 1
  · refine sm_congr (fun i a b => ?_)
    show f (((m : Int) + i + r) % (n : Int)) = f i
    have : (m : Int) + i + r = i + (n : Int) * 1 := by omega
    rw [this, Int.add_mul_emod_self_left, Int.emod_eq_of_lt a (by omega)]
  · refine sm_congr (fun i a b => ?_)
    show f ((i + r) % (n : Int)) = f ((r : Int) + i)
    rw [Int.emod_eq_of_lt (by omega) (by omega), Int.add_comm]
def shf (h n d y : Int) : Int := Int.tdiv ((2 * y + 1 - h) * n) (2 * d)
def flr (q d : Int) : Int := if Int.tmod q d < 0 then Int.tdiv q d - 1 else Int.tdiv q d
def slope (n d : Int) : Prop := 1 ≤ d ∧ d ≤ 1000 ∧ -d ≤ n ∧ n ≤ d
instance (n d : Int) : Decidable (slope n d) := by unfold slope; exact inferInstance
def ringL (w h : Int) (p : List Int) (n d : Int) : List Int := tab w h (fun u t => pix w h p ((u - shf h n d t) % w) t)
def colL (w h : Int) (p : List Int) (n d : Int) : List Int := tab w h (fun u t => pix w h p u ((t - flr (u * n) d) % h))
def ringR (w h : Int) (p : List Int) (n d : Int) : Int × Int × List Int × Int := if Val w h p then (if slope n d then (w, h, ringL w h p n d, 0) else (0, 0, [], 2)) else (0, 0, [], 30)
def colR (w h : Int) (p : List Int) (n d : Int) : Int × Int × List Int × Int := if Val w h p then (if slope n d then (w, h, colL w h p n d, 0) else (0, 0, [], 2)) else (0, 0, [], 30)
theorem shf_in {h n d y : Int} (hd : slope n d) (h0 : 0 ≤ h) (h1 : h ≤ 200) (y0 : 0 ≤ y) (y1 : y < h) : -200000 ≤ (2 * y + 1 - h) * n ∧ (2 * y + 1 - h) * n ≤ 200000 ∧ -200000 ≤ shf h n d y ∧ shf h n d y ≤ 200000 := by
  obtain ⟨a, b, c, e⟩ := hd
  have := mul_in (a := 2 * y + 1 - h) (n := n) (A := 200) (N := 1000) (by omega) (by omega) (by omega) (by omega)
  have t := tdiv_in (q := (2 * y + 1 - h) * n) (m := 2 * d) (B := 200000) (by omega) (by omega) (by omega)
  unfold shf
  omega
theorem flr_in {n d x : Int} (hd : slope n d) (x0 : 0 ≤ x) (x1 : x < 200) : -200000 ≤ x * n ∧ x * n ≤ 200000 ∧ -200000 ≤ Int.tdiv (x * n) d ∧ Int.tdiv (x * n) d ≤ 200000 ∧ -200001 ≤ flr (x * n) d ∧ flr (x * n) d ≤ 200000 := by
  obtain ⟨a, b, c, e⟩ := hd
  have := mul_in (a := x) (n := n) (A := 200) (N := 1000) (by omega) (by omega) (by omega) (by omega)
  have t := tdiv_in (q := x * n) (m := d) (B := 200000) (by omega) (by omega) (by omega)
  unfold flr
  split <;> omega
theorem ring_val {w h : Int} {p : List Int} (v : Val w h p) (n d : Int) : Val w h (ringL w h p n d) := val_tab v.sid (fun x y _ _ _ _ => v.pix01 _ _)
theorem col_val {w h : Int} {p : List Int} (v : Val w h p) (n d : Int) : Val w h (colL w h p n d) := val_tab v.sid (fun x y _ _ _ _ => v.pix01 _ _)
theorem ring_back {w h : Int} {p : List Int} (v : Val w h p) (n d : Int) : ringL w h (ringL w h p n d) (-n) d = p := by
  refine Eq.trans (tab_congr v.1 v.2.1 (fun x y a b c e => ?_)) v.tab.symm
  have es : shf h (-n) d y = -shf h n d y := by
    unfold shf
    rw [Int.mul_neg, Int.neg_tdiv]
  have r0 := Int.emod_nonneg (x + shf h n d y) (show w ≠ 0 by omega)
  have r1 := Int.emod_lt_of_pos (x + shf h n d y) (show 0 < w by omega)
  rw [es, Int.sub_neg]
  unfold ringL
  rw [pix_tab, if_pos ⟨r0, r1, c, e⟩, rot1 a b]
theorem ring_blk {w h : Int} {p : List Int} (v : Val w h p) (n d : Int) : blk (ringL w h p n d) = blk p := by
  rw [blk_val v]
  refine (sm_tab v.1 v.2.1 _).trans ?_
  unfold tot
  refine sm_congr (fun y _ _ => ?_)
  have e : ((w.toNat : Nat) : Int) = w := Int.toNat_of_nonneg v.1
  have := sm_rot w.toNat (fun x => pix w h p x y) (shf h n d y)
  rw [e] at this
  exact this
theorem col_blk {w h : Int} {p : List Int} (v : Val w h p) (n d : Int) : blk (colL w h p n d) = blk p := by
  rw [blk_val v]
  refine (sm_tab v.1 v.2.1 _).trans ?_
  unfold tot
  rw [sm_swap (fun x y => pix w h p x y), sm_swap (fun u t => pix w h p u ((t - flr (u * n) d) % h))]
  refine sm_congr (fun x _ _ => ?_)
  have e : ((h.toNat : Nat) : Int) = h := Int.toNat_of_nonneg v.2.1
  have := sm_rot h.toNat (fun y => pix w h p x y) (flr (x * n) d)
  rw [e] at this
  exact this
theorem slope_b (n d : Int) (h0 : -9223372036854775808 ≤ d) (h1 : d ≤ 9223372036854775807) : (if d ≥ 1 then (if d ≤ 1000 then (if n ≥ (wrap64 (-d)) then (some (decide (n ≤ d))) else (some false)) else (some false)) else (some false)) = some (decide (slope n d)) := by
  unfold slope
  by_cases a : d ≥ 1
  · rw [if_pos a]
    by_cases b : d ≤ 1000
    · rw [if_pos b, w64 (by omega) (by omega)]
      by_cases c : n ≥ -d
      · rw [if_pos c]
        exact congrArg some (decide_eq_decide.mpr ⟨fun q => by omega, fun q => by omega⟩)
      · rw [if_neg c]
        exact congrArg some (decide_eq_false (by omega)).symm
    · rw [if_neg b]
      exact congrArg some (decide_eq_false (by omega)).symm
  · rw [if_neg a]
    exact congrArg some (decide_eq_false (by omega)).symm
theorem ringR_byt (w h : Int) (p : List Int) (n d : Int) : Byt (ringR w h p n d).2.2.1 := by
  unfold ringR
  split
  · rename_i v
    split
    · exact val_byt (ring_val v n d)
    · intro x hx; cases hx
  · intro x hx; cases hx
theorem colR_byt (w h : Int) (p : List Int) (n d : Int) : Byt (colR w h p n d).2.2.1 := by
  unfold colR
  split
  · rename_i v
    split
    · exact val_byt (col_val v n d)
    · intro x hx; cases hx
  · intro x hx; cases hx

def rsum (w h : Int) (p : List Int) (y : Int) : Int := sm w.toNat (fun x => pix w h p x y)
def enS (w h : Int) (p : List Int) (n : Nat) : Int := sm n (fun y => rsum w h p y * rsum w h p y)
def enR (w h : Int) (p : List Int) : Int := enS w h p h.toNat
theorem rsum_in {w h : Int} {p : List Int} (v : Val w h p) (y : Int) : 0 ≤ rsum w h p y ∧ rsum w h p y ≤ 200 := by
  have := sm_bound (n := w.toNat) (f := fun x => pix w h p x y) (c := 1) (by omega) (fun i _ _ => v.pix01 i y)
  have hw := v.1
  have hw2 := v.2.2.1
  unfold rsum
  omega
theorem rsq_in {w h : Int} {p : List Int} (v : Val w h p) (y : Int) : 0 ≤ rsum w h p y * rsum w h p y ∧ rsum w h p y * rsum w h p y ≤ 40000 := by
  obtain ⟨a, b⟩ := rsum_in v y
  have h1 := Int.mul_nonneg a a
  have h2 := mul_in (a := rsum w h p y) (n := rsum w h p y) (A := 200) (N := 200) (by omega) (by omega) (by omega) (by omega)
  omega
theorem enS_in {w h : Int} {p : List Int} (v : Val w h p) (n : Nat) : 0 ≤ enS w h p n ∧ enS w h p n ≤ n * 40000 :=
  sm_bound (n := n) (f := fun y => rsum w h p y * rsum w h p y) (c := 40000) (by omega) (fun i _ _ => rsq_in v i)
theorem enR_in {w h : Int} {p : List Int} (v : Val w h p) : 0 ≤ enR w h p := (enS_in v _).1
theorem rd_seg (p : List Int) (a b : Nat) (i : Int) (h0 : 0 ≤ i) (h1 : (a : Int) + i < b) : rd ((p.take b).drop a) i = rd p ((a : Int) + i) := by
  unfold rd
  simp only [List.getD, List.getElem?_drop]
  have e : ((a : Int) + i).toNat = a + i.toNat := by omega
  rw [e, List.getElem?_take_of_lt (by omega)]

theorem rightShear_is (n d : Int) (h0 : -9223372036854775808 ≤ d) (h1 : d ≤ 9223372036854775807) : scan_rightShear.f n d = some (decide (slope n d)) := slope_b n d h0 h1

theorem fits_is (w h : Int) : bitmap_fits.f w h = some (decide (Sid w h)) := by
  unfold bitmap_fits.f
  by_cases h1 : 0 ≤ w ∧ 0 ≤ h ∧ w ≤ 200 ∧ h ≤ 200
  · obtain ⟨a, b, c, d⟩ := h1
    have := sid_mul a b c d
    rw [if_pos (by omega), if_pos (by omega), if_pos c, if_pos d, w64 (by omega) (by omega)]
    simp [Sid, a, b, c, d]
  · have h2 : ¬ Sid w h := fun s => h1 ⟨s.1, s.2.1, s.2.2.1, s.2.2.2.1⟩
    simp only [h2, decide_false]
    split
    · split
      · split
        · split
          · omega
          · rfl
        · rfl
      · rfl
    · rfl

theorem Valid_l0 (p : List Int) (hl : (p.length : Int) ≤ 9223372036854775807) : EvP (fun k => bitmap_Valid.l0 k p (p.length : Int) 0) (· = decide (∀ x ∈ p, x ≤ 1)) := by
  refine EvP.up (L := fun k i (_ : Unit) => bitmap_Valid.l0 k p (p.length : Int) i) (fun i _ => 0 ≤ i ∧ ∀ j, 0 ≤ j → j < i → rd p j ≤ 1) p.length ?_ 0 () (by omega) ⟨by omega, fun j _ _ => by omega⟩
  intro i _ ⟨h0, hb⟩ hi ih
  refine EvP.step (fun k => by rw [bitmap_Valid.l0]) ?_
  refine EvP.ite (fun h1 => ?_) (fun h1 => ?_)
  · refine EvP.pos h0 (EvP.pos h1 (EvP.ite (fun h2 => EvP.ret ?_) (fun h2 => ?_)))
    · symm
      rw [decide_eq_false_iff_not]
      intro hall
      have := hall _ (rd_mem h0 h1)
      omega
    · rw [w64 (by omega) (by omega)]
      refine ih () h1 ⟨by omega, fun j hj hj' => ?_⟩
      rcases Int.lt_or_le j i with hji | hji
      · exact hb j hj hji
      · have : j = i := by omega
        subst this
        omega
  · refine EvP.ret ?_
    symm
    rw [decide_eq_true_iff]
    intro x hx
    obtain ⟨n, hn, rfl⟩ := List.getElem_of_mem hx
    have := hb (n : Int) (by omega) (by omega)
    rwa [rd_get p n hn] at this
theorem Valid_is (w h : Int) (p : List Int) (hp : ∀ x ∈ p, 0 ≤ x) (hl : (p.length : Int) ≤ 9223372036854775807) : EvP (fun k => bitmap_Valid.f k w h p) (· = decide (Val w h p)) := by
  unfold bitmap_Valid.f
  refine EvP.bindv (fits_is w h) ?_
  refine EvP.ite (fun h1 => ?_) (fun h1 => ?_)
  · rw [decide_eq_true_iff] at h1
    have hm := sid_mul h1.1 h1.2.1 h1.2.2.1 h1.2.2.2.1
    rw [w64 (by omega) (by omega)]
    refine EvP.step (fun k => by rw [bitmap_Valid.j0]) ?_
    refine EvP.ite (fun h2 => EvP.ret ?_) (fun h2 => ?_)
    · symm
      rw [decide_eq_false_iff_not]
      intro v
      simp [v.2.2.2.2.2.1] at h2
    · refine (Valid_l0 p hl).mono ?_
      rintro r rfl
      have e : (p.length : Int) = w * h := by simpa using h2
      apply decide_eq_decide.mpr
      constructor
      · intro hall
        exact ⟨h1.1, h1.2.1, h1.2.2.1, h1.2.2.2.1, h1.2.2.2.2, e, fun x hx => ⟨hp x hx, hall x hx⟩⟩
      · intro v x hx
        exact (v.2.2.2.2.2.2 x hx).2
  · refine EvP.step (fun k => by rw [bitmap_Valid.j0]) ?_
    refine EvP.pos rfl (EvP.ret ?_)
    symm
    rw [decide_eq_false_iff_not]
    intro v
    exact h1 (decide_eq_true v.sid)

theorem own_is (w h : Int) (p : List Int) (hl : p.length < 140737488355328) : scan_own.f w h p = some (w, h, p) := by
  unfold scan_own.f slices_Clone_byte_byte.f
  simp only [Option.bind_some, List.length_nil, Nat.zero_add, List.nil_append]
  rw [if_pos hl]
  rfl
theorem set_same {l : List Int} {i : Int} (h0 : 0 ≤ i) (h1 : i < (l.length : Int)) : l.set i.toNat (rd l i) = l := by
  refine rd_ext (by rw [List.length_set]) (fun j j0 j1 => ?_)
  rw [rd_set l i j _ h0 h1 j0]
  split
  · rename_i e; rw [e]
  · rfl
theorem upd_same {w h : Int} {g : Int → Int → Int} {x y v : Int} (hw : 0 ≤ w) (hh : 0 ≤ h) (e : g x y = v) : tab w h (upd g x y v) = tab w h g := tab_congr hw hh (fun u t _ _ _ _ => by
  unfold upd
  split
  · rename_i z
    rw [z.1, z.2, e]
  · rfl)

theorem floor_is {q d : Int} (hd : 0 < d) (h0 : -1000000 ≤ q) (h1 : q ≤ 1000000) : scan_floor.f q d = some (flr q d) := by
  have := tdiv_in (B := 1000000) hd h0 h1
  unfold scan_floor.f flr
  rw [if_neg (by omega), w64 (x := Int.tdiv q d) (by omega) (by omega), w64 (by omega) (by omega)]
  split <;> rfl
theorem columns_is {w h : Int} {p : List Int} (v : Val w h p) {n d : Int} (sl : slope n d) : EvP (fun k => scan_columns.f k w h p n d) (· = (w, h, colL w h p n d)) := by
  unfold scan_columns.f
  have sl' := sl
  obtain ⟨d0, d1, n0, n1⟩ := sl'
  have hlen : (p.length : Int) ≤ 8192 := by rw [v.2.2.2.2.2.1]; exact v.2.2.2.2.1
  obtain ⟨hw, hh, hw2, hh2, hm, hl2, _⟩ := id v
  refine EvP.bindv (own_is w h p (by omega)) ?_
  show EvP (fun k => scan_columns.l0 k n d w 0 w h p w h p) _
  conv => arg 1; intro k; arg 11; rw [v.tab]
  refine EvP.rasterP (L0 := fun k y s => scan_columns.l0 k n d w y w h p w h s) (L1 := fun k y x s => scan_columns.l1 k n d y (flr (y * n) d) w y h x w h p w h s) (W := h) (H := w)
    (fun x y => y) (fun x y => (x + flr (y * n) d) % h) (fun u t => (t - flr (u * n) d) % h) (fun u t => u) (pix w h p) (fun u t => pix w h p u ((t - flr (u * n) d) % h)) hh hw hw hh ?_ ?_ ?_ ?_ ?_ ?_ ?_
  · exact fun x y a b c e => ⟨rot1 a b, rfl⟩
  · exact fun u t a b c e _ _ _ _ => ⟨rfl, rot2 c e⟩
  · intro y s y0 y1 hk
    have hs := flr_in (x := y) sl y0 (by omega)
    refine EvP.step (fun k => by rw [scan_columns.l0]) ?_
    refine EvP.pos y1 ?_
    rw [w64 (x := y * n) (by omega) (by omega)]
    exact EvP.bindv (floor_is (by omega) (by omega) (by omega)) hk
  · refine EvP.step (fun k => by rw [scan_columns.l0]) ?_
    refine EvP.neg (by omega) (EvP.ret ?_)
    unfold colL
    refine congrArg (fun l => (w, h, l)) (tab_congr hw hh (fun u t a b c e => ?_))
    have r0 := Int.emod_nonneg (t - flr (u * n) d) (show h ≠ 0 by omega)
    have r1 := Int.emod_lt_of_pos (t - flr (u * n) d) (show 0 < h by omega)
    rw [if_pos ⟨r0, r1, a, b⟩]
  · intro x y g x0 x1 y0 y1 _ _ f0 f1 _ hk
    have hs := flr_in (x := y) sl y0 (by omega)
    have hf := flat_lt y0 y1 x0 x1
    have hf2 := flat_lt y0 y1 f0 f1
    have hlt : ((tab w h g).length : Int) = w * h := by rw [tab_length]; omega
    have eq1 : Int.tmod (wrap64 ((Int.tmod (wrap64 (x + flr (y * n) d)) h) + h)) h = (x + flr (y * n) d) % h := by
      rw [w64 (x := x + flr (y * n) d) (by omega) (by omega)]
      exact qm (by omega) (by omega) (by omega) (by omega)
    refine EvP.step (fun k => by rw [scan_columns.l1]) ?_
    rw [eq1, w64 (x := x * w) (by omega) (by omega), w64 (x := x * w + y) (by omega) (by omega), w64 (x := (x + flr (y * n) d) % h * w) (by omega) (by omega), w64 (x := (x + flr (y * n) d) % h * w + y) (by omega) (by omega), w64 (x := x + 1) (by omega) (by omega), set_tab hw hh y0 y1 f0 f1]
    refine EvP.pos x1 (EvP.neg (by omega) (EvP.pos hf.2.1 (EvP.pos (by omega) (EvP.pos hf2.2.1 (EvP.pos (by omega) ?_)))))
    have ev : pix w h p y (((x + flr (y * n) d) % h - flr (y * n) d) % h) = rd p (x * w + y) := by rw [rot1 x0 x1, pix_in y0 y1 x0 x1]
    rw [← ev]
    exact hk
  · intro x y g x0 x1 y0 y1 hn _
    exfalso
    refine hn ⟨y0, y1, Int.emod_nonneg _ (by omega), Int.emod_lt_of_pos _ (by omega)⟩
  · intro y s y0 y1 hk
    refine EvP.step (fun k => by rw [scan_columns.l1]) ?_
    refine EvP.neg (by omega) ?_
    rw [w64 (x := y + 1) (by omega) (by omega)]
    exact hk
theorem Columns_is (w h : Int) (p : List Int) (n d : Int) (hp : ∀ x ∈ p, 0 ≤ x) (hl : (p.length : Int) ≤ 9223372036854775807) (h0 : -9223372036854775808 ≤ d) (h1 : d ≤ 9223372036854775807) : EvP (fun k => scan_Columns.f k w h p n d) (· = colR w h p n d) := by
  unfold scan_Columns.f colR
  refine EvP.bind (Valid_is w h p hp hl) ?_
  rintro _ rfl
  refine EvP.ite (fun q => ?_) (fun q => EvP.ret (by rw [if_neg (by simpa using q)]))
  have v : Val w h p := by simpa using q
  rw [if_pos v]
  refine EvP.bindv (rightShear_is n d h0 h1) ?_
  refine EvP.ite (fun q => ?_) (fun q => EvP.ret (by rw [if_neg (by simpa using q)]))
  have sl : slope n d := by simpa using q
  rw [if_pos sl]
  refine EvP.bind (columns_is v sl) ?_
  rintro _ rfl
  exact EvP.ret rfl

theorem scan_energy_is {w h : Int} {p : List Int} (v : Val w h p) : EvP (fun k => scan_energy.f k w h p) (· = enR w h p) := by
  unfold scan_energy.f
  obtain ⟨hw, hh, hw2, hh2, hm, hl2, _⟩ := id v
  refine EvP.up (L := fun k y (s : Int) => scan_energy.l0 k s h y w h p) (fun y s => 0 ≤ y ∧ s = enS w h p y.toNat) h ?_ 0 0 hh ⟨by omega, rfl⟩
  intro y s ⟨y0, hs⟩ hy ih
  refine EvP.step (fun k => by rw [scan_energy.l0]) ?_
  refine EvP.ite (fun y1 => ?_) (fun y1 => ?_)
  · have hf : 0 ≤ y * w := Int.mul_nonneg y0 hw
    have e1 : (y + 1) * w = y * w + w := by rw [Int.add_mul, Int.one_mul]
    have hf2 : (y + 1) * w ≤ h * w := Int.mul_le_mul_of_nonneg_right (by omega) hw
    rw [Int.mul_comm h w] at hf2
    rw [w64 (x := y * w) (by omega) (by omega), w64 (x := y + 1) (by omega) (by omega), w64 (x := (y + 1) * w) (by omega) (by omega)]
    refine EvP.pos hf (EvP.pos (by omega) (EvP.pos (by omega) ?_))
    have hlen : (((p.take ((y + 1) * w).toNat).drop (y * w).toNat).length : Int) = w := by
      rw [List.length_drop, List.length_take]
      omega
    have hrd : ∀ i, 0 ≤ i → i < w → rd ((p.take ((y + 1) * w).toNat).drop (y * w).toNat) i = pix w h p i y := fun i i0 i1 => by
      rw [rd_seg p _ _ i i0 (by omega), pix_in i0 i1 y0 y1]
      congr 1
      omega
    have ew : ((w.toNat : Nat) : Int) = w := by omega
    generalize (p.take ((y + 1) * w).toNat).drop (y * w).toNat = seg at hlen hrd
    rw [hlen]
    refine EvP.up (L := fun k i (x : Int) => scan_energy.l1 k s x h y seg w i w h p) (fun i x => 0 ≤ i ∧ x = sm i.toNat (fun x => pix w h p x y)) w ?_ 0 0 hw ⟨by omega, rfl⟩
    intro i x ⟨i0, hx⟩ hi ih2
    have bx := sm_bound (n := i.toNat) (f := fun x => pix w h p x y) (c := 1) (by omega) (fun j _ _ => v.pix01 j y)
    refine EvP.step (fun k => by rw [scan_energy.l1]) ?_
    refine EvP.ite (fun i1 => ?_) (fun i1 => ?_)
    · refine EvP.pos i0 (EvP.pos (by omega) ?_)
      have pb := v.pix01 i y
      rw [hrd i i0 i1, w64 (x := pix w h p i y) (by omega) (by omega), w64 (x := x + pix w h p i y) (by omega) (by omega), w64 (x := i + 1) (by omega) (by omega)]
      refine ih2 _ i1 ⟨by omega, ?_⟩
      rw [show (i + 1).toNat = i.toNat + 1 by omega, sm_s, hx, show ((i.toNat : Nat) : Int) = i by omega]
    · have ei : i.toNat = w.toNat := by omega
      have ex : x = rsum w h p y := by rw [hx, ei]; rfl
      have b1 := rsq_in v y
      have b2 := enS_in v y.toNat
      rw [ex, w64 (x := rsum w h p y * rsum w h p y) (by omega) (by omega), w64 (x := s + rsum w h p y * rsum w h p y) (by omega) (by omega), w64 (x := y + 1) (by omega) (by omega)]
      refine ih _ y1 ⟨by omega, ?_⟩
      rw [show (y + 1).toNat = y.toNat + 1 by omega, hs]
      show _ = sm (y.toNat + 1) _
      rw [sm_s, show ((y.toNat : Nat) : Int) = y by omega]
      rfl
  · refine EvP.ret ?_
    have : y.toNat = h.toNat := by omega
    rw [hs, this]
    rfl

def tE (w h : Int) (p l : List Int) (d i : Int) : Int := enR w h (colL w h p (rd l i) d)
def bst (w h : Int) (p l : List Int) (d : Int) : Nat → Int × Int
  | 0 => (0, -1)
  | n + 1 => if tE w h p l d n > (bst w h p l d n).2 then (rd l n, tE w h p l d n) else bst w h p l d n
def allS (l : List Int) (d : Int) : Prop := ∀ i : Int, 0 ≤ i → i < (l.length : Int) → slope (rd l i) d
theorem bst_ok {w h : Int} {p : List Int} (v : Val w h p) (l : List Int) (d : Int) : ∀ n : Nat, (n = 0 → (bst w h p l d n).2 = -1) ∧ (0 < n → ∃ i : Int, 0 ≤ i ∧ i < n ∧ bst w h p l d n = (rd l i, tE w h p l d i)) ∧ ∀ i : Int, 0 ≤ i → i < n → tE w h p l d i ≤ (bst w h p l d n).2
  | 0 => ⟨fun _ => rfl, fun h => by omega, fun i a b => by omega⟩
  | n + 1 => by
    obtain ⟨a, b, c⟩ := bst_ok v l d n
    have e0 := enR_in (col_val v (rd l n) d)
    refine ⟨fun h => by omega, fun _ => ?_, fun i i0 i1 => ?_⟩
    · unfold bst
      split
      · exact ⟨n, by omega, by omega, rfl⟩
      · rename_i q
        rcases Nat.eq_zero_or_pos n with z | z
        · have := a z
          unfold tE at q
          omega
        · obtain ⟨i, i0, i1, e⟩ := b z
          exact ⟨i, i0, by omega, e⟩
    · unfold bst
      by_cases z : i = n
      · subst z
        split
        · exact Int.le_refl _
        · omega
      · have := c i i0 (by omega)
        split
        · show _ ≤ tE w h p l d n
          omega
        · exact this
def tiR (w h : Int) (p l : List Int) (d : Int) (r : Int × Int) : Prop := (¬ Val w h p → r = (0, 30)) ∧ (Val w h p → (l.length = 0 ∨ l.length > 50 ∨ ¬ allS l d) → r = (0, 2)) ∧ (Val w h p → ¬ (l.length = 0 ∨ l.length > 50 ∨ ¬ allS l d) → r = ((bst w h p l d l.length).1, 0))
theorem tiR_eq {w h : Int} {p l : List Int} {d : Int} {r s : Int × Int} (hr : tiR w h p l d r) (hs : tiR w h p l d s) : r = s := by
  by_cases v : Val w h p
  · by_cases c : l.length = 0 ∨ l.length > 50 ∨ ¬ allS l d
    · rw [hr.2.1 v c, hs.2.1 v c]
    · rw [hr.2.2 v c, hs.2.2 v c]
  · rw [hr.1 v, hs.1 v]
theorem TIndex_is (l : List Int) (d : Int) (hl : (l.length : Int) ≤ 9223372036854775807) (h0 : -9223372036854775808 ≤ d) (h1 : d ≤ 9223372036854775807) : EvP (fun k => slices_IndexFunc_int_int_59.f k l d) (fun r => 0 ≤ r ↔ ¬ allS l d) := by
  unfold slices_IndexFunc_int_int_59.f
  refine EvP.up (L := fun k i (_ : Unit) => slices_IndexFunc_int_int_59.l0 k l (l.length : Int) i d) (fun i _ => 0 ≤ i ∧ ∀ j, 0 ≤ j → j < i → slope (rd l j) d) l.length ?_ 0 () (by omega) ⟨by omega, fun j _ _ => by omega⟩
  intro i s ⟨i0, hs⟩ hi ih
  refine EvP.step (fun k => by rw [slices_IndexFunc_int_int_59.l0]) ?_
  refine EvP.ite (fun i1 => ?_) (fun i1 => ?_)
  · have e : scan_Tilt_1.f (rd l i) d = some (!decide (slope (rd l i) d)) := by
      unfold scan_Tilt_1.f
      rw [rightShear_is (rd l i) d h0 h1]
      rfl
    refine EvP.pos i0 (EvP.pos i1 (EvP.bindv e ?_))
    refine EvP.ite (fun c => EvP.ret ?_) (fun c => ?_)
    · have c : ¬ slope (rd l i) d := by simpa using c
      exact ⟨fun _ q => c (q i i0 i1), fun _ => i0⟩
    · have c : slope (rd l i) d := by simpa using c
      rw [w64 (by omega) (by omega)]
      refine ih () i1 ⟨by omega, fun j a b => ?_⟩
      by_cases z : j = i
      · subst z; exact c
      · exact hs j a (by omega)
  · refine EvP.ret ⟨fun h => by omega, fun q => absurd (fun j a b => hs j a (by omega)) q⟩
theorem TContains_is (l : List Int) (d : Int) (hl : (l.length : Int) ≤ 9223372036854775807) (h0 : -9223372036854775808 ≤ d) (h1 : d ≤ 9223372036854775807) : EvP (fun k => slices_ContainsFunc_int_int_59.f k l d) (fun r => r = true ↔ ¬ allS l d) := by
  unfold slices_ContainsFunc_int_int_59.f
  refine EvP.bind (TIndex_is l d hl h0 h1) (fun r hr => EvP.ret ?_)
  rw [decide_eq_true_iff]
  exact hr
theorem Tilt_is (w h : Int) (p l : List Int) (d : Int) (hp : ∀ x ∈ p, 0 ≤ x) (hl : (p.length : Int) ≤ 9223372036854775807) (hl2 : (l.length : Int) ≤ 9223372036854775807) (h0 : -9223372036854775808 ≤ d) (h1 : d ≤ 9223372036854775807) : EvP (fun k => scan_Tilt.f k w h p l d) (tiR w h p l d) := by
  unfold scan_Tilt.f
  refine EvP.bind (Valid_is w h p hp hl) ?_
  rintro _ rfl
  refine EvP.ite (fun q => ?_) (fun q => EvP.ret ⟨fun _ => rfl, fun v => absurd (decide_eq_true v) q, fun v => absurd (decide_eq_true v) q⟩)
  have v : Val w h p := by simpa using q
  have bad : (l.length = 0 ∨ l.length > 50 ∨ ¬ allS l d) → EvP (fun k => scan_Tilt.j0 k l true w h p d) (tiR w h p l d) := fun c =>
    EvP.step (fun k => by rw [scan_Tilt.j0]) (EvP.pos rfl (EvP.ret ⟨fun z => absurd v z, fun _ _ => rfl, fun _ z => absurd c z⟩))
  refine EvP.ite (fun a => bad (.inl (by omega))) (fun a => ?_)
  refine EvP.ite (fun b => bad (.inr (.inl (by omega)))) (fun b => ?_)
  refine EvP.bind (TContains_is l d hl2 h0 h1) (fun r hr => ?_)
  cases r with
  | true => exact bad (.inr (.inr (hr.mp rfl)))
  | false =>
    have ha : allS l d := Classical.byContradiction (fun z => by have := hr.mpr z; cases this)
    have nc : ¬ (l.length = 0 ∨ l.length > 50 ∨ ¬ allS l d) := by
      rintro (z | z | z)
      · omega
      · omega
      · exact z ha
    refine EvP.step (fun k => by rw [scan_Tilt.j0]) ?_
    refine EvP.neg (by simp) ?_
    refine EvP.up (L := fun k i (s : Int × Int) => scan_Tilt.l0 k s.1 s.2 l (l.length : Int) i w h p d) (fun i s => 0 ≤ i ∧ s = bst w h p l d i.toNat) l.length ?_ 0 (0, -1) (by omega) ⟨by omega, rfl⟩
    intro i s ⟨i0, hs⟩ hi ih
    refine EvP.step (fun k => by rw [scan_Tilt.l0]) ?_
    refine EvP.ite (fun i1 => ?_) (fun i1 => ?_)
    · refine EvP.pos i0 (EvP.pos i1 ?_)
      refine EvP.bind (columns_is v (ha i i0 i1)) ?_
      rintro _ rfl
      refine EvP.bind (scan_energy_is (col_val v (rd l i) d)) ?_
      rintro _ rfl
      have eb : bst w h p l d (i + 1).toNat = if tE w h p l d i > (bst w h p l d i.toNat).2 then (rd l i, tE w h p l d i) else bst w h p l d i.toNat := by
        rw [show (i + 1).toNat = i.toNat + 1 by omega]
        show (if _ then _ else _) = _
        rw [show ((i.toNat : Nat) : Int) = i by omega]
      rw [w64 (x := i + 1) (by omega) (by omega)]
      refine EvP.ite (fun c => ih (rd l i, tE w h p l d i) i1 ⟨by omega, ?_⟩) (fun c => ih s i1 ⟨by omega, ?_⟩)
      · rw [eb, if_pos (by rw [← hs]; exact c)]
      · rw [eb, if_neg (by rw [← hs]; exact c)]
        exact hs
    · have e : i.toNat = l.length := by omega
      refine EvP.ret ⟨fun z => absurd v z, fun _ z => absurd z nc, fun _ _ => ?_⟩
      rw [hs, e]

theorem isSlope_is (n d : Int) (h0 : -9223372036854775808 ≤ d) (h1 : d ≤ 9223372036854775807) : incunableref29_isSlope.f n d = some (decide (slope n d)) := slope_b n d h0 h1
theorem around_is {q n : Int} (hn : 0 < n) (hn' : n ≤ 1000000000000) (h0 : -9223372036854775808 ≤ q) (h1 : q ≤ 9223372036854775807) : incunableref29_around.f q n = some (q % n) := by
  unfold incunableref29_around.f
  rw [if_neg (by omega), qm hn hn' h0 h1]

theorem Copy_is (w h : Int) (p : List Int) (hl : p.length < 140737488355328) : incunableref05_Copy.f w h p = some (w, h, p) := by
  unfold incunableref05_Copy.f
  simp only [Option.bind_some, List.length_nil, Nat.zero_add, List.nil_append]
  rw [if_pos hl]

theorem inside_is (w h : Int) (p : List Int) (x y : Int) : incunableref05_inside.f w h p x y = some (decide (0 ≤ x ∧ x < w ∧ 0 ≤ y ∧ y < h)) := by
  unfold incunableref05_inside.f
  by_cases a : x ≥ 0
  · rw [if_pos a]
    by_cases b : y ≥ 0
    · rw [if_pos b]
      by_cases c : x < w
      · rw [if_pos c]
        exact congrArg some (decide_eq_decide.mpr ⟨fun q => by omega, fun q => by omega⟩)
      · rw [if_neg c]
        exact congrArg some (decide_eq_false (by omega)).symm
    · rw [if_neg b]
      exact congrArg some (decide_eq_false (by omega)).symm
  · rw [if_neg a]
    exact congrArg some (decide_eq_false (by omega)).symm

theorem At_is {w h : Int} {p : List Int} (v : Val w h p) (x y : Int) : incunableref05_At.f w h p x y = some (pix w h p x y) := by
  unfold incunableref05_At.f
  rw [inside_is, Option.bind_some]
  by_cases hc : 0 ≤ x ∧ x < w ∧ 0 ≤ y ∧ y < h
  · have hf := flat_lt hc.1 hc.2.1 hc.2.2.1 hc.2.2.2
    have hm := v.2.2.2.2.1
    have hl := v.2.2.2.2.2.1
    have e : wrap64 (y * w) = y * w := w64 (by omega) (by omega)
    have hr := v.2.2.2.2.2.2 _ (rd_mem (l := p) hf.2.1 (by omega))
    rw [if_pos (decide_eq_true hc), e, w64 (by omega) (by omega), if_pos hf.2.1, if_pos (by omega), w64 (by omega) (by omega), pix_in hc.1 hc.2.1 hc.2.2.1 hc.2.2.2]
  · rw [if_neg (by simpa using hc), pix_out hc]

theorem Put_is {w h : Int} {g : Int → Int → Int} {x y v : Int} (hw : 0 ≤ w) (hh : 0 ≤ h) (hm : w * h ≤ 40000) (hx0 : 0 ≤ x) (hx : x < w) (hy0 : 0 ≤ y) (hy : y < h) :
    incunableref05_Put.f w h (tab w h g) x y v = some (tab w h (upd g x y (v % 256))) := by
  have h0 : 0 ≤ w * h := Int.mul_nonneg hw hh
  have hf := flat_lt hx0 hx hy0 hy
  unfold incunableref05_Put.f
  have e : wrap64 (y * w) = y * w := w64 (by omega) (by omega)
  rw [e, w64 (by omega) (by omega), if_pos hf.2.1, if_pos (by rw [tab_length]; omega), set_tab hw hh hx0 hx hy0 hy]

theorem Down_is {q d : Int} (hd : 0 < d) (h0 : -1000000 ≤ q) (h1 : q ≤ 1000000) : incunableref19_Down.f q d = some (flr q d) := by
  have := tdiv_in (B := 1000000) hd h0 h1
  unfold incunableref19_Down.f flr
  rw [if_neg (by omega), w64 (x := Int.tdiv q d) (by omega) (by omega), w64 (by omega) (by omega)]
  split <;> rfl
theorem refcolumns_is {w h : Int} {p : List Int} (v : Val w h p) {n d : Int} (sl : slope n d) : EvP (fun k => incunableref29_columns.f k w h p n d) (· = (w, h, colL w h p n d)) := by
  unfold incunableref29_columns.f
  have sl' := sl
  obtain ⟨d0, d1, n0, n1⟩ := sl'
  have hlen : (p.length : Int) ≤ 8192 := by rw [v.2.2.2.2.2.1]; exact v.2.2.2.2.1
  obtain ⟨hw, hh, hw2, hh2, hm, hl2, _⟩ := id v
  refine EvP.bindv (Copy_is w h p (by omega)) ?_
  show EvP (fun k => incunableref29_columns.l0 k n d 0 w h p w h p) _
  conv => arg 1; intro k; arg 10; rw [v.tab]
  refine EvP.rasterP (L0 := fun k y s => incunableref29_columns.l0 k n d y w h p w h s) (L1 := fun k y x s => incunableref29_columns.l1 k n d y (flr (y * n) d) x w h p w h s) (W := h) (H := w)
    (fun x y => y) (fun x y => (x + flr (y * n) d) % h) (fun u t => (t - flr (u * n) d) % h) (fun u t => u) (pix w h p) (fun u t => pix w h p u ((t - flr (u * n) d) % h)) hh hw hw hh ?_ ?_ ?_ ?_ ?_ ?_ ?_
  · exact fun x y a b c e => ⟨rot1 a b, rfl⟩
  · exact fun u t a b c e _ _ _ _ => ⟨rfl, rot2 c e⟩
  · intro y s y0 y1 hk
    have hs := flr_in (x := y) sl y0 (by omega)
    refine EvP.step (fun k => by rw [incunableref29_columns.l0]) ?_
    refine EvP.pos y1 ?_
    rw [w64 (x := y * n) (by omega) (by omega)]
    exact EvP.bindv (Down_is (by omega) (by omega) (by omega)) hk
  · refine EvP.step (fun k => by rw [incunableref29_columns.l0]) ?_
    refine EvP.neg (by omega) (EvP.ret ?_)
    unfold colL
    refine congrArg (fun l => (w, h, l)) (tab_congr hw hh (fun u t a b c e => ?_))
    have r0 := Int.emod_nonneg (t - flr (u * n) d) (show h ≠ 0 by omega)
    have r1 := Int.emod_lt_of_pos (t - flr (u * n) d) (show 0 < h by omega)
    rw [if_pos ⟨r0, r1, a, b⟩]
  · intro x y g x0 x1 y0 y1 _ _ f0 f1 _ hk
    have hs := flr_in (x := y) sl y0 (by omega)
    have v01 := v.pix01 y x
    refine EvP.step (fun k => by rw [incunableref29_columns.l1]) ?_
    rw [w64 (x := x + flr (y * n) d) (by omega) (by omega), w64 (x := x + 1) (by omega) (by omega)]
    refine EvP.pos x1 (EvP.bindv (around_is (by omega) (by omega) (by omega) (by omega)) (EvP.bindv (At_is v y x) (EvP.bindv (Put_is hw hh (by omega) y0 y1 f0 f1) ?_)))
    have ev : pix w h p y (((x + flr (y * n) d) % h - flr (y * n) d) % h) = pix w h p y x % 256 := by rw [rot1 x0 x1]; omega
    rw [← ev]
    exact hk
  · intro x y g x0 x1 y0 y1 hn _
    exfalso
    refine hn ⟨y0, y1, Int.emod_nonneg _ (by omega), Int.emod_lt_of_pos _ (by omega)⟩
  · intro y s y0 y1 hk
    refine EvP.step (fun k => by rw [incunableref29_columns.l1]) ?_
    refine EvP.neg (by omega) ?_
    rw [w64 (x := y + 1) (by omega) (by omega)]
    exact hk

def mixv (op a b : Int) : Int := if op = 0 then b else if op = 1 then (if a < b then b else a) else if op = 2 then (if b < a then b else a) else if op = 3 then (a + b) % 2 else (a + b + 1) % 2
theorem five {op : Int} (h0 : 0 ≤ op) (h1 : op ≤ 4) : op = 0 ∨ op = 1 ∨ op = 2 ∨ op = 3 ∨ op = 4 := by omega
theorem bit {a : Int} (h0 : 0 ≤ a) (h1 : a ≤ 1) : a = 0 ∨ a = 1 := by omega
theorem mix_01 {op a b : Int} (h0 : 0 ≤ op) (h1 : op ≤ 4) (a0 : 0 ≤ a) (a1 : a ≤ 1) (b0 : 0 ≤ b) (b1 : b ≤ 1) : 0 ≤ mixv op a b ∧ mixv op a b ≤ 1 := by
  rcases five h0 h1 with rfl | rfl | rfl | rfl | rfl <;> rcases bit a0 a1 with rfl | rfl <;> rcases bit b0 b1 with rfl | rfl <;> decide +kernel
theorem mix3 {a b : Int} (a0 : 0 ≤ a) (a1 : a ≤ 1) (b0 : 0 ≤ b) (b1 : b ≤ 1) : mixv 3 (mixv 3 a b) b = a := by
  rcases bit a0 a1 with rfl | rfl <;> rcases bit b0 b1 with rfl | rfl <;> decide +kernel
theorem mix3_ne {a b : Int} (a0 : 0 ≤ a) (a1 : a ≤ 1) (b0 : 0 ≤ b) (b1 : b ≤ 1) : mixv 3 a b = if a = b then 0 else 1 := by
  rcases bit a0 a1 with rfl | rfl <;> rcases bit b0 b1 with rfl | rfl <;> decide +kernel
theorem mix1_zero {b : Int} (b0 : 0 ≤ b) (b1 : b ≤ 1) : mixv 1 0 b = b := by
  rcases bit b0 b1 with rfl | rfl <;> decide +kernel
theorem mix0 (a b : Int) : mixv 0 a b = b := rfl

/-- What is drawn. -/
def drawG (g : Int → Int → Int) (w' h' : Int) (s : List Int) (x y op : Int) : Int → Int → Int := fun u t => if 0 ≤ u - x ∧ u - x < w' ∧ 0 ≤ t - y ∧ t - y < h' then mixv op (g u t) (pix w' h' s (u - x) (t - y)) else g u t
def Shf (x y : Int) : Prop := -100000 ≤ x ∧ x ≤ 100000 ∧ -100000 ≤ y ∧ y ≤ 100000
instance (x y : Int) : Decidable (Shf x y) := by unfold Shf; exact inferInstance
def drawR (w h : Int) (p : List Int) (w' h' : Int) (s : List Int) (x y op : Int) : Int × Int × List Int × Int :=
  if ¬ (Val w h p ∧ Val w' h' s) then (0, 0, [], 30) else if op < 0 ∨ op > 4 ∨ ¬ Shf x y then (0, 0, [], 2) else (w, h, tab w h (drawG (pix w h p) w' h' s x y op), 0)
theorem drawG_01 {g : Int → Int → Int} {w' h' : Int} {s : List Int} {x y op : Int} (v : Val w' h' s) (h0 : 0 ≤ op) (h1 : op ≤ 4) {u t : Int} (hg : 0 ≤ g u t ∧ g u t ≤ 1) : 0 ≤ drawG g w' h' s x y op u t ∧ drawG g w' h' s x y op u t ≤ 1 := by
  unfold drawG
  split
  · have b := v.pix01 (u - x) (t - y)
    exact mix_01 h0 h1 hg.1 hg.2 b.1 b.2
  · exact hg

/-- A part of a bitmap. -/
def partG (w h : Int) (p : List Int) (x y : Int) : Int → Int → Int := fun u t => pix w h p (x + u) (y + t)
def cutR (w h : Int) (p : List Int) (x y w' h' : Int) : Int × Int × List Int × Int :=
  if ¬ Val w h p then (0, 0, [], 30) else if w' < 0 ∨ h' < 0 ∨ ¬ Shf x y then (0, 0, [], 2) else if Sid w' h' then (w', h', tab w' h' (partG w h p x y), 0) else (0, 0, [], 4)
theorem part_val {w h : Int} {p : List Int} {x y w' h' : Int} (v : Val w h p) (s : Sid w' h') : Val w' h' (tab w' h' (partG w h p x y)) := val_tab s (fun _ _ _ _ _ _ => v.pix01 _ _)
theorem nil_byt' : Byt [] := fun x hx => by simp at hx
theorem cutR_byt (w h : Int) (p : List Int) (x y w' h' : Int) : Byt (cutR w h p x y w' h').2.2.1 := by
  unfold cutR
  by_cases a : Val w h p
  · rw [if_neg (c := ¬ Val w h p) (fun q => q a)]
    split
    · exact nil_byt'
    · split
      · rename_i s
        exact val_byt (part_val a s)
      · exact nil_byt'
  · rw [if_pos a]
    exact nil_byt'
theorem cutR_ok {w h : Int} {p : List Int} {x y w' h' : Int} (e : (cutR w h p x y w' h').2.2.2 = 0) : Val w h p ∧ Shf x y ∧ Sid w' h' ∧ cutR w h p x y w' h' = (w', h', tab w' h' (partG w h p x y), 0) := by
  unfold cutR at e ⊢
  by_cases a : Val w h p
  · rw [if_neg (c := ¬ Val w h p) (fun q => q a)] at e ⊢
    by_cases b : w' < 0 ∨ h' < 0 ∨ ¬ Shf x y
    · rw [if_pos b] at e
      exact absurd e (by decide)
    · rw [if_neg b] at e ⊢
      by_cases c : Sid w' h'
      · rw [if_pos c]
        exact ⟨a, Classical.not_not.mp (fun q => b (.inr (.inr q))), c, rfl⟩
      · rw [if_neg c] at e
        exact absurd e (by decide)
  · rw [if_pos a] at e
    exact absurd e (by decide)
theorem cutR_all {w h : Int} {p : List Int} (v : Val w h p) : cutR w h p 0 0 w h = (w, h, p, 0) := by
  unfold cutR
  rw [if_neg (c := ¬ Val w h p) (fun q => q v), if_neg (by intro q; rcases q with q | q | q; exact absurd v.1 (by omega); exact absurd v.2.1 (by omega); exact q (by unfold Shf; omega)), if_pos v.sid]
  have e : tab w h (partG w h p 0 0) = p := by
    refine Eq.trans (tab_congr v.1 v.2.1 (fun u t a b c d => ?_)) v.tab.symm
    unfold partG
    rw [Int.zero_add, Int.zero_add]
  rw [e]

theorem make2_l0 (w h c : Int) (a b : Int) (hw : 0 ≤ w) (hh : 0 ≤ h) (hw' : w ≤ 200) (hh' : h ≤ 200) : EvP (fun k => incunableref05_make2.l0 k w h c 0 a b []) (· = (a, b, List.replicate (w * h).toNat (c % 256))) := by
  have hm := sid_mul hw hh hw' hh'
  refine EvP.up (L := fun k i (s : List Int) => incunableref05_make2.l0 k w h c i a b s) (fun i s => 0 ≤ i ∧ s = List.replicate i.toNat (c % 256)) (w * h) ?_ 0 [] (by omega) ⟨by omega, rfl⟩
  intro i s ⟨h0, hs⟩ hi ih
  subst hs
  refine EvP.step (fun k => by rw [incunableref05_make2.l0]) ?_
  rw [w64 (x := w * h) (by omega) (by omega)]
  refine EvP.ite (fun h1 => ?_) (fun h1 => ?_)
  · refine EvP.pos (by rw [List.length_replicate]; omega) ?_
    rw [w64 (by omega) (by omega)]
    refine ih _ h1 ⟨by omega, ?_⟩
    rw [show (i + 1).toNat = i.toNat + 1 by omega, List.replicate_succ']
  · have : i = w * h := by omega
    subst this
    exact EvP.ret rfl
theorem make2_is (w h c : Int) (hw : 0 ≤ w) (hh : 0 ≤ h) (hw' : w ≤ 200) (hh' : h ≤ 200) : EvP (fun k => incunableref05_make2.f k w h c) (· = (w, h, tab w h (fun _ _ => c % 256))) := by
  unfold incunableref05_make2.f
  refine (make2_l0 w h c w h hw hh hw' hh').mono ?_
  rintro r rfl
  rw [replicate_tab hw hh]

theorem Part_is {w h : Int} {p : List Int} {x y w' h' : Int} (v : Val w h p) (s : 0 ≤ w' ∧ 0 ≤ h' ∧ w' ≤ 200 ∧ h' ≤ 200) (hx : -1000000 ≤ x ∧ x ≤ 1000000) (hy : -1000000 ≤ y ∧ y ≤ 1000000) :
    EvP (fun k => incunableref05_Part.f k w h p x y w' h') (· = (w', h', tab w' h' (partG w h p x y))) := by
  obtain ⟨hw', hh', w200', h200'⟩ := s
  have hm := sid_mul hw' hh' w200' h200'
  unfold incunableref05_Part.f
  refine EvP.bind (make2_is w' h' 0 hw' hh' w200' h200') ?_
  rintro _ rfl
  have e0 : tab w' h' (fun u t => if 0 ≤ u ∧ u < w' ∧ 0 ≤ t ∧ t < h' then partG w h p x y u t else 0 % 256) = tab w' h' (partG w h p x y) := tab_congr hw' hh' (fun u t a b c d => if_pos ⟨a, b, c, d⟩)
  refine EvP.rasterP (L0 := fun k j (l : List Int) => incunableref05_Part.l0 k x y w' h' j w h p w' h' l) (L1 := fun k j i (l : List Int) => incunableref05_Part.l1 k x y w' h' j i w h p w' h' l) (W := w') (H := h')
    (fun i j => i) (fun i j => j) (fun u t => u) (fun u t => t) (fun _ _ => 0 % 256) (partG w h p x y) hw' hh' hw' hh' ?_ ?_ ?_ ?_ ?_ ?_ ?_
  · intro i j a b c d
    exact ⟨rfl, rfl⟩
  · intro u t a b c d e f g' h'
    exact ⟨rfl, rfl⟩
  · intro j l a b hk
    refine EvP.step (fun k => by rw [incunableref05_Part.l0]) ?_
    exact EvP.pos b hk
  · refine EvP.step (fun k => by rw [incunableref05_Part.l0]) ?_
    refine EvP.neg (by omega) (EvP.ret ?_)
    rw [e0]
  · intro i j g' a b c d p0 p1 q0 q1 e hk
    refine EvP.step (fun k => by rw [incunableref05_Part.l1]) ?_
    refine EvP.pos b ?_
    rw [w64 (x := x + i) (by omega) (by omega), w64 (x := y + j) (by omega) (by omega)]
    refine EvP.bindv (At_is v _ _) ?_
    refine EvP.bindv (Put_is hw' hh' (by omega) a b c d) ?_
    have e3 := v.pix01 (x + i) (y + j)
    rw [w64 (x := i + 1) (by omega) (by omega), show pix w h p (x + i) (y + j) % 256 = pix w h p (x + i) (y + j) by omega]
    exact hk
  · intro i j g' a b c d q hk
    exact absurd ⟨a, b, c, d⟩ q
  · intro j l a b hk
    refine EvP.step (fun k => by rw [incunableref05_Part.l1]) ?_
    refine EvP.neg (by omega) ?_
    rw [w64 (x := j + 1) (by omega) (by omega)]
    exact hk

theorem Blacks_is (w h : Int) (p : List Int) (hp : Byt p) (hl : (p.length : Int) ≤ 1000000000) : EvP (fun k => incunableref05_Blacks.f k w h p) (· = blk p) := by
  unfold incunableref05_Blacks.f
  refine EvP.up (L := fun k i (s : Int) => incunableref05_Blacks.l0 k s i w h p) (fun i s => 0 ≤ i ∧ s = sm i.toNat (fun j => rd p j)) p.length ?_ 0 0 (by omega) ⟨by omega, rfl⟩
  intro i s ⟨h0, hs⟩ hi ih
  refine EvP.step (fun k => by rw [incunableref05_Blacks.l0]) ?_
  refine EvP.ite (fun h1 => ?_) (fun h1 => ?_)
  · refine EvP.pos h0 ?_
    have hb := hp _ (rd_mem h0 h1)
    have hsm := sm_bound (n := i.toNat) (f := fun j => rd p j) (c := 255) (by omega) (fun j a b => hp _ (rd_mem a (by omega)))
    rw [w64 (x := rd p i) (by omega) (by omega), w64 (x := s + rd p i) (by omega) (by omega), w64 (x := i + 1) (by omega) (by omega)]
    refine ih _ h1 ⟨by omega, ?_⟩
    rw [hs, show (i + 1).toNat = i.toNat + 1 by omega, sm_s, show ((i.toNat : Nat) : Int) = i by omega]
  · refine EvP.ret ?_
    have : i.toNat = p.length := by omega
    rw [hs, this]
    rfl

theorem refenergy_is {w h : Int} {p : List Int} (v : Val w h p) : EvP (fun k => incunableref29_energy.f k w h p) (· = enR w h p) := by
  unfold incunableref29_energy.f
  obtain ⟨hw, hh, hw2, hh2, hm, hl2, _⟩ := id v
  refine EvP.up (L := fun k y (s : Int) => incunableref29_energy.l0 k s y w h p) (fun y s => 0 ≤ y ∧ s = enS w h p y.toNat) h ?_ 0 0 hh ⟨by omega, rfl⟩
  intro y s ⟨y0, hs⟩ hy ih
  refine EvP.step (fun k => by rw [incunableref29_energy.l0]) ?_
  refine EvP.ite (fun y1 => ?_) (fun y1 => ?_)
  · refine EvP.bind (Part_is v (x := 0) (y := y) (w' := w) (h' := 1) ⟨hw, by omega, hw2, by omega⟩ (by omega) (by omega)) ?_
    rintro _ rfl
    have sd : Sid w 1 := ⟨hw, by omega, hw2, by omega, by omega⟩
    have vp := part_val (x := 0) (y := y) v sd
    have lp : ((tab w 1 (partG w h p 0 y)).length : Int) ≤ 8192 := by rw [vp.2.2.2.2.2.1]; exact vp.2.2.2.2.1
    refine EvP.bind (Blacks_is w 1 (tab w 1 (partG w h p 0 y)) (val_byt vp) (by omega)) ?_
    rintro _ rfl
    have eb : blk (tab w 1 (partG w h p 0 y)) = rsum w h p y := by
      refine (sm_tab hw (by omega) _).trans ?_
      show sm 1 (fun t => sm w.toNat (fun x => partG w h p 0 y x t)) = _
      rw [sm_s, sm_0]
      unfold rsum
      rw [Int.zero_add]
      refine sm_congr (fun x _ _ => ?_)
      show pix w h p (0 + x) (y + ((0 : Nat) : Int)) = _
      rw [Int.zero_add, show y + ((0 : Nat) : Int) = y by omega]
    have b1 := rsq_in v y
    have b2 := enS_in v y.toNat
    rw [eb, w64 (x := rsum w h p y * rsum w h p y) (by omega) (by omega), w64 (x := s + rsum w h p y * rsum w h p y) (by omega) (by omega), w64 (x := y + 1) (by omega) (by omega)]
    refine ih _ y1 ⟨by omega, ?_⟩
    rw [show (y + 1).toNat = y.toNat + 1 by omega, hs]
    show _ = sm (y.toNat + 1) _
    rw [sm_s, show ((y.toNat : Nat) : Int) = y by omega]
    rfl
  · refine EvP.ret ?_
    have : y.toNat = h.toNat := by omega
    rw [hs, this]
    rfl

theorem Sides_is (w h : Int) : incunableref05_Sides.f w h = some (decide (Sid w h)) := by
  unfold incunableref05_Sides.f
  by_cases h1 : 0 ≤ w ∧ 0 ≤ h ∧ w ≤ 200 ∧ h ≤ 200
  · obtain ⟨a, b, c, d⟩ := h1
    have := sid_mul a b c d
    rw [if_pos (by omega), if_pos (by omega), if_pos c, if_pos d, w64 (by omega) (by omega)]
    simp [Sid, a, b, c, d]
  · have h2 : ¬ Sid w h := fun s => h1 ⟨s.1, s.2.1, s.2.2.1, s.2.2.2.1⟩
    simp only [h2, decide_false]
    split
    · split
      · split
        · split
          · omega
          · rfl
        · rfl
      · rfl
    · rfl

theorem refValid_l0 (w h : Int) (p : List Int) (hl : (p.length : Int) ≤ 9223372036854775807) : EvP (fun k => incunableref05_Valid.l0 k 0 w h p) (· = decide (∀ x ∈ p, x ≤ 1)) := by
  refine EvP.up (L := fun k i (_ : Unit) => incunableref05_Valid.l0 k i w h p) (fun i _ => 0 ≤ i ∧ ∀ j, 0 ≤ j → j < i → rd p j ≤ 1) p.length ?_ 0 () (by omega) ⟨by omega, fun j _ _ => by omega⟩
  intro i _ ⟨h0, hb⟩ hi ih
  refine EvP.step (fun k => by rw [incunableref05_Valid.l0]) ?_
  refine EvP.ite (fun h1 => ?_) (fun h1 => ?_)
  · refine EvP.pos h0 (EvP.ite (fun h2 => EvP.ret ?_) (fun h2 => ?_))
    · symm
      rw [decide_eq_false_iff_not]
      intro hall
      have := hall _ (rd_mem h0 h1)
      omega
    · rw [w64 (by omega) (by omega)]
      refine ih () h1 ⟨by omega, fun j hj hj' => ?_⟩
      rcases Int.lt_or_le j i with hji | hji
      · exact hb j hj hji
      · have : j = i := by omega
        subst this
        omega
  · refine EvP.ret ?_
    symm
    rw [decide_eq_true_iff]
    intro x hx
    obtain ⟨n, hn, rfl⟩ := List.getElem_of_mem hx
    have := hb (n : Int) (by omega) (by omega)
    rwa [rd_get p n hn] at this
theorem refValid_is (w h : Int) (p : List Int) (hp : ∀ x ∈ p, 0 ≤ x) (hl : (p.length : Int) ≤ 9223372036854775807) : EvP (fun k => incunableref05_Valid.f k w h p) (· = decide (Val w h p)) := by
  unfold incunableref05_Valid.f
  refine EvP.bindv (Sides_is w h) ?_
  refine EvP.ite (fun h1 => ?_) (fun h1 => ?_)
  · rw [decide_eq_true_iff] at h1
    have hm := sid_mul h1.1 h1.2.1 h1.2.2.1 h1.2.2.2.1
    rw [w64 (by omega) (by omega)]
    refine EvP.step (fun k => by rw [incunableref05_Valid.j0]) ?_
    refine EvP.ite (fun h2 => EvP.ret ?_) (fun h2 => ?_)
    · symm
      rw [decide_eq_false_iff_not]
      intro v
      simp [v.2.2.2.2.2.1] at h2
    · refine (refValid_l0 w h p hl).mono ?_
      rintro r rfl
      have e : (p.length : Int) = w * h := by simpa using h2
      apply decide_eq_decide.mpr
      constructor
      · intro hall
        exact ⟨h1.1, h1.2.1, h1.2.2.1, h1.2.2.2.1, h1.2.2.2.2, e, fun x hx => ⟨hp x hx, hall x hx⟩⟩
      · intro v x hx
        exact (v.2.2.2.2.2.2 x hx).2
  · refine EvP.step (fun k => by rw [incunableref05_Valid.j0]) ?_
    refine EvP.pos rfl (EvP.ret ?_)
    symm
    rw [decide_eq_false_iff_not]
    intro v
    exact h1 (decide_eq_true v.sid)

theorem refTilt_is (w h : Int) (p l : List Int) (d : Int) (hp : ∀ x ∈ p, 0 ≤ x) (hl : (p.length : Int) ≤ 9223372036854775807) (hl2 : (l.length : Int) ≤ 9223372036854775807) (h0 : -9223372036854775808 ≤ d) (h1 : d ≤ 9223372036854775807) : EvP (fun k => incunableref29_Tilt.f k w h p l d) (tiR w h p l d) := by
  unfold incunableref29_Tilt.f
  refine EvP.bind (refValid_is w h p hp hl) ?_
  rintro _ rfl
  refine EvP.ite (fun q => ?_) (fun q => EvP.ret ⟨fun _ => rfl, fun v => absurd (decide_eq_true v) q, fun v => absurd (decide_eq_true v) q⟩)
  have v : Val w h p := by simpa using q
  have bad : (l.length = 0 ∨ l.length > 50 ∨ ¬ allS l d) → EvP (fun k => incunableref29_Tilt.j0 k l d true w h p) (tiR w h p l d) := fun c =>
    EvP.step (fun k => by rw [incunableref29_Tilt.j0]) (EvP.pos rfl (EvP.ret ⟨fun z => absurd v z, fun _ _ => rfl, fun _ z => absurd c z⟩))
  refine EvP.ite (fun a => bad (.inl (by omega))) (fun a => ?_)
  by_cases b : (l.length : Int) > 50
  · rw [decide_eq_true b]
    exact bad (.inr (.inl (by omega)))
  rw [decide_eq_false b]
  refine EvP.step (fun k => by rw [incunableref29_Tilt.j0]) ?_
  refine EvP.neg (by simp) ?_
  refine EvP.up (L := fun k i (_ : Unit) => incunableref29_Tilt.l0 k l d i w h p) (fun i _ => 0 ≤ i ∧ ∀ j, 0 ≤ j → j < i → slope (rd l j) d) l.length ?_ 0 () (by omega) ⟨by omega, fun j _ _ => by omega⟩
  intro i s ⟨i0, hs⟩ hi ih
  refine EvP.step (fun k => by rw [incunableref29_Tilt.l0]) ?_
  refine EvP.ite (fun i1 => ?_) (fun i1 => ?_)
  · refine EvP.pos i0 (EvP.bindv (isSlope_is (rd l i) d h0 h1) ?_)
    refine EvP.ite (fun c => ?_) (fun c => EvP.ret ⟨fun z => absurd v z, fun _ _ => rfl, fun _ z => absurd (.inr (.inr (fun q => c (decide_eq_true (q i i0 i1))))) z⟩)
    have c : slope (rd l i) d := by simpa using c
    rw [w64 (by omega) (by omega)]
    refine ih () i1 ⟨by omega, fun j a b => ?_⟩
    by_cases z : j = i
    · subst z; exact c
    · exact hs j a (by omega)
  · have ha : allS l d := fun j a b => hs j a (by omega)
    have nc : ¬ (l.length = 0 ∨ l.length > 50 ∨ ¬ allS l d) := by
      rintro (z | z | z)
      · omega
      · omega
      · exact z ha
    refine EvP.up (L := fun k i (s : Int × Int) => incunableref29_Tilt.l1 k l d s.1 s.2 i w h p) (fun i s => 0 ≤ i ∧ s = bst w h p l d i.toNat) l.length ?_ 0 (0, -1) (by omega) ⟨by omega, rfl⟩
    intro i s ⟨i0, hs⟩ hi ih
    refine EvP.step (fun k => by rw [incunableref29_Tilt.l1]) ?_
    refine EvP.ite (fun i1 => ?_) (fun i1 => ?_)
    · refine EvP.pos i0 ?_
      refine EvP.bind (refcolumns_is v (ha i i0 i1)) ?_
      rintro _ rfl
      refine EvP.bind (refenergy_is (col_val v (rd l i) d)) ?_
      rintro _ rfl
      have eb : bst w h p l d (i + 1).toNat = if tE w h p l d i > (bst w h p l d i.toNat).2 then (rd l i, tE w h p l d i) else bst w h p l d i.toNat := by
        rw [show (i + 1).toNat = i.toNat + 1 by omega]
        show (if _ then _ else _) = _
        rw [show ((i.toNat : Nat) : Int) = i by omega]
      rw [w64 (x := i + 1) (by omega) (by omega)]
      refine EvP.ite (fun c => ih (rd l i, tE w h p l d i) i1 ⟨by omega, ?_⟩) (fun c => ih s i1 ⟨by omega, ?_⟩)
      · rw [eb, if_pos (by rw [← hs]; exact c)]
      · rw [eb, if_neg (by rw [← hs]; exact c)]
        exact hs
    · have e : i.toNat = l.length := by omega
      refine EvP.ret ⟨fun z => absurd v z, fun _ z => absurd z nc, fun _ _ => ?_⟩
      rw [hs, e]

def enQ (w h : Int) (p : List Int) : Int × Int := if Val w h p then (enR w h p, 0) else (0, 30)
theorem Energy_is (w h : Int) (p : List Int) (hp : ∀ x ∈ p, 0 ≤ x) (hl : (p.length : Int) ≤ 9223372036854775807) : EvP (fun k => scan_Energy.f k w h p) (· = enQ w h p) := by
  unfold scan_Energy.f enQ
  refine EvP.bind (Valid_is w h p hp hl) ?_
  rintro _ rfl
  refine EvP.ite (fun q => ?_) (fun q => EvP.ret (by rw [if_neg (by simpa using q)]))
  have v : Val w h p := by simpa using q
  rw [if_pos v]
  refine EvP.bind (scan_energy_is v) ?_
  rintro _ rfl
  exact EvP.ret rfl
theorem refEnergy_is (w h : Int) (p : List Int) (hp : ∀ x ∈ p, 0 ≤ x) (hl : (p.length : Int) ≤ 9223372036854775807) : EvP (fun k => incunableref29_Energy.f k w h p) (· = enQ w h p) := by
  unfold incunableref29_Energy.f enQ
  refine EvP.bind (refValid_is w h p hp hl) ?_
  rintro _ rfl
  refine EvP.ite (fun q => ?_) (fun q => EvP.ret (by rw [if_neg (by simpa using q)]))
  have v : Val w h p := by simpa using q
  rw [if_pos v]
  refine EvP.bind (refenergy_is v) ?_
  rintro _ rfl
  exact EvP.ret rfl

def mdl : Int := 2147483647
def stc (x : Int) : Int := (x * 48271) % 2147483647
def itc : Nat → Int → Int
  | 0, x => x
  | n + 1, x => stc (itc n x)
def bgn (s : Int) : Int := if s % 2147483647 = 0 then 1 else s % 2147483647
def chl (n : Nat) (s : Int) : List Int := lmap n (fun i => itc (i.toNat + 1) (bgn s))
theorem bgn_in (s : Int) : 0 ≤ bgn s ∧ bgn s ≤ 2147483646 := by
  unfold bgn
  split <;> omega
theorem stc_in (x : Int) : 0 ≤ stc x ∧ stc x ≤ 2147483646 := by
  unfold stc
  omega
theorem itc_in (n : Nat) {x : Int} (h0 : 0 ≤ x) (h1 : x ≤ 2147483646) : 0 ≤ itc n x ∧ itc n x ≤ 2147483646 := by
  cases n with
  | zero => exact ⟨h0, h1⟩
  | succ n => exact stc_in _
theorem stc_is {x : Int} (h0 : 0 ≤ x) (h1 : x ≤ 2147483646) : Int.tmod (wrap64 (x * 48271)) 2147483647 = stc x := by
  rw [w64 (by omega) (by omega), tmod_pos (by omega)]
  rfl
theorem lmap_snoc (n : Nat) (f : Int → Int) : lmap (n + 1) f = lmap n f ++ [f n] := by
  unfold lmap
  rw [List.range_succ, List.map_append]
  rfl
theorem lmap_take (n m : Nat) (f : Int → Int) (h : m ≤ n) : (lmap n f).take m = lmap m f := by
  unfold lmap
  rw [← List.map_take, List.take_range, Nat.min_eq_left h]

theorem begin_is (s : Int) (h0 : -9223372036854775808 ≤ s) (h1 : s ≤ 9223372036854775807) : scan_begin.f s = some (bgn s) := by
  unfold scan_begin.f bgn
  rw [qm (by omega) (by omega) h0 h1]
  split <;> rfl
theorem next_is {x : Int} (h0 : 0 ≤ x) (h1 : x ≤ 2147483646) : scan_chance_next.f x = some (stc x, stc x) := by
  unfold scan_chance_next.f
  rw [stc_is h0 h1]
def chanceR (s n : Int) : List Int × Int := if n < 0 ∨ n > 8192 then ([], 2) else (chl n.toNat s, 0)
theorem Chance_j0 (s n : Int) (h0 : -9223372036854775808 ≤ s) (h1 : s ≤ 9223372036854775807) (b : Bool) (hb : b = true ↔ (n < 0 ∨ n > 8192)) : EvP (fun k => scan_Chance.j0 k s n b) (· = chanceR s n) := by
  unfold chanceR
  refine EvP.step (fun k => by rw [scan_Chance.j0]) ?_
  refine EvP.ite (fun a => EvP.ret (by rw [if_pos (hb.mp a)])) (fun a => ?_)
  have a : ¬ (n < 0 ∨ n > 8192) := fun x => a (hb.mpr x)
  rw [if_neg a]
  refine EvP.bindv (begin_is s h0 h1) ?_
  have b0 := bgn_in s
  refine EvP.up (L := fun k i (x : List Int × Int) => scan_Chance.l0 k x.1 n i x.2) (fun i x => 0 ≤ i ∧ x = (chl i.toNat s, itc i.toNat (bgn s))) n ?_ 0 ([], bgn s) (by omega) ⟨by omega, rfl⟩
  intro i x ⟨i0, hx⟩ hi ih
  subst hx
  refine EvP.step (fun k => by rw [scan_Chance.l0]) ?_
  refine EvP.ite (fun c => ?_) (fun c => ?_)
  · have bi := itc_in i.toNat b0.1 b0.2
    refine EvP.bindv (next_is bi.1 bi.2) ?_
    refine EvP.pos (by show (chl i.toNat s).length < _; unfold chl; rw [lmap_length]; omega) ?_
    rw [w64 (x := i + 1) (by omega) (by omega)]
    refine ih (chl i.toNat s ++ [stc (itc i.toNat (bgn s))], stc (itc i.toNat (bgn s))) c ⟨by omega, ?_⟩
    rw [show (i + 1).toNat = i.toNat + 1 by omega]
    unfold chl
    rw [lmap_snoc]
    rfl
  · have : i = n := by omega
    subst this
    exact EvP.ret rfl
theorem Chance_is (s n : Int) (h0 : -9223372036854775808 ≤ s) (h1 : s ≤ 9223372036854775807) : EvP (fun k => scan_Chance.f k s n) (· = chanceR s n) := by
  unfold scan_Chance.f
  exact EvP.ite (fun a => Chance_j0 s n h0 h1 true (by simp [a])) (fun a => Chance_j0 s n h0 h1 _ (by simp; omega))

theorem SameInts_self (l : List Int) (hl : (l.length : Int) ≤ 9223372036854775806) : EvP (fun k => incunableref01_SameInts.f k l l) (· = true) := by
  unfold incunableref01_SameInts.f
  refine EvP.pos rfl ?_
  refine EvP.up (L := fun k i (_ : Unit) => incunableref01_SameInts.l0 k l l i) (fun i _ => 0 ≤ i) l.length ?_ 0 () (by omega) (by omega)
  intro i _ i0 hi ih
  refine EvP.step (fun k => by rw [incunableref01_SameInts.l0]) ?_
  refine EvP.ite (fun c => ?_) (fun c => EvP.ret rfl)
  refine EvP.pos i0 (EvP.pos c (EvP.pos rfl ?_))
  rw [w64 (x := i + 1) (by omega) (by omega)]
  exact ih () c (by omega)

theorem Sane29_is : EvP (fun k => incunablelaw29_Sane.f k) (· = true) := by
  unfold incunablelaw29_Sane.f
  refine EvP.bind (Chance_is 1 2 (by omega) (by omega)) ?_
  rintro _ rfl
  have e : chanceR 1 2 = ([48271, 182605794], 0) := by decide +kernel
  rw [e]
  refine EvP.pos rfl ?_
  refine EvP.bind (SameInts_self _ (by simp)) ?_
  rintro _ rfl
  exact EvP.ret rfl

theorem Large_is (w h : Int) (p : List Int) : incunablelaw29_Large.f w h p = some (decide ((p.length : Int) > 2000)) := rfl
theorem tilts_l0 {w h : Int} {p : List Int} (v : Val w h p) (l : List Int) (d : Int) (ha : allS l d) (hl : l.length ≤ 50) (h0 : -9223372036854775808 ≤ d) (h1 : d ≤ 9223372036854775807) : EvP (fun k => incunablelaw29_ScanTilts.l0 k l d (bst w h p l d l.length).2 0 w h p) (· = true) := by
  have hlen : (p.length : Int) ≤ 8192 := by rw [v.2.2.2.2.2.1]; exact v.2.2.2.2.1
  refine EvP.up (L := fun k i (_ : Unit) => incunablelaw29_ScanTilts.l0 k l d (bst w h p l d l.length).2 i w h p) (fun i _ => 0 ≤ i) l.length ?_ 0 () (by omega) (by omega)
  intro i s i0 hi ih
  refine EvP.step (fun k => by rw [incunablelaw29_ScanTilts.l0]) ?_
  refine EvP.ite (fun i1 => ?_) (fun i1 => ?_)
  · have vc := col_val v (rd l i) d
    have lc : ((colL w h p (rd l i) d).length : Int) ≤ 8192 := by rw [vc.2.2.2.2.2.1]; exact vc.2.2.2.2.1
    have e2 : colR w h p (rd l i) d = (w, h, colL w h p (rd l i) d, 0) := by
      unfold colR
      rw [if_pos v, if_pos (ha i i0 i1)]
    refine EvP.pos i0 ?_
    refine EvP.bind (Columns_is w h p (rd l i) d (fun z hz => (val_byt v z hz).1) (by omega) h0 h1) ?_
    rintro _ rfl
    rw [e2]
    refine EvP.bind (Energy_is w h (colL w h p (rd l i) d) (fun z hz => (val_byt vc z hz).1) (by omega)) ?_
    rintro _ rfl
    have e3 : enQ w h (colL w h p (rd l i) d) = (tE w h p l d i, 0) := by
      unfold enQ
      rw [if_pos vc]
      rfl
    rw [e3]
    have := (bst_ok v l d l.length).2.2 i i0 i1
    refine EvP.pos rfl (EvP.pos rfl (EvP.neg (by show ¬ tE w h p l d i > _; omega) ?_))
    rw [w64 (by omega) (by omega)]
    exact ih () i1 (by omega)
  · refine EvP.bind Sane29_is ?_
    rintro _ rfl
    exact EvP.ret rfl
theorem tilts_j0 {w h : Int} {p : List Int} (l : List Int) (d : Int) (hb : Byt p) (hl : (p.length : Int) ≤ 2000) (hl2 : (l.length : Int) ≤ 9223372036854775807) (h0 : -9223372036854775808 ≤ d) (h1 : d ≤ 9223372036854775807) : EvP (fun k => incunablelaw29_ScanTilts.j0 k l d false w h p) (· = true) := by
  have hb0 : ∀ z ∈ p, 0 ≤ z := fun z hz => (hb z hz).1
  refine EvP.step (fun k => by rw [incunablelaw29_ScanTilts.j0]) ?_
  refine EvP.neg (by simp) ?_
  refine EvP.bind (Tilt_is w h p l d hb0 (by omega) hl2 h0 h1) (fun r hr => ?_)
  refine EvP.bind (refTilt_is w h p l d hb0 (by omega) hl2 h0 h1) (fun s hs => ?_)
  have e := tiR_eq hr hs
  subst e
  refine EvP.bind (Energy_is w h p hb0 (by omega)) ?_
  rintro _ rfl
  refine EvP.bind (refEnergy_is w h p hb0 (by omega)) ?_
  rintro _ rfl
  refine EvP.pos rfl (EvP.pos rfl (EvP.pos rfl ?_))
  refine EvP.step (fun k => by rw [incunablelaw29_ScanTilts.j1]) ?_
  refine EvP.neg (by simp) ?_
  have sane : EvP (fun k => (incunablelaw29_Sane.f k).bind fun t => some t) (· = true) := by
    refine EvP.bind Sane29_is ?_
    rintro _ rfl
    exact EvP.ret rfl
  by_cases v : Val w h p
  · by_cases c : l.length = 0 ∨ l.length > 50 ∨ ¬ allS l d
    · rw [hr.2.1 v c]
      exact EvP.neg (by decide) sane
    · have ha : allS l d := Classical.byContradiction (fun z => c (.inr (.inr z)))
      have hn : 0 < l.length ∧ l.length ≤ 50 := by
        refine ⟨?_, ?_⟩
        · rcases Nat.eq_zero_or_pos l.length with z | z
          · exact absurd (.inl z) c
          · exact z
        · rcases Nat.lt_or_ge 50 l.length with z | z
          · exact absurd (.inr (.inl z)) c
          · exact z
      obtain ⟨i, i0, i1, e⟩ := (bst_ok v l d l.length).2.1 hn.1
      rw [hr.2.2 v c]
      refine EvP.pos rfl ?_
      have vc := col_val v (rd l i) d
      have lc : ((colL w h p (rd l i) d).length : Int) ≤ 8192 := by rw [vc.2.2.2.2.2.1]; exact vc.2.2.2.2.1
      have e1 : (bst w h p l d l.length).1 = rd l i := by rw [e]
      have e4 : (bst w h p l d l.length).2 = tE w h p l d i := by rw [e]
      have e2 : colR w h p (rd l i) d = (w, h, colL w h p (rd l i) d, 0) := by
        unfold colR
        rw [if_pos v, if_pos (ha i i0 i1)]
      show EvP (fun k => (scan_Columns.f k w h p (bst w h p l d l.length).1 d).bind _) _
      rw [e1]
      refine EvP.bind (Columns_is w h p (rd l i) d hb0 (by omega) h0 h1) ?_
      rintro _ rfl
      rw [e2]
      refine EvP.bind (Energy_is w h (colL w h p (rd l i) d) (fun z hz => (val_byt vc z hz).1) (by omega)) ?_
      rintro _ rfl
      have e3 : enQ w h (colL w h p (rd l i) d) = (tE w h p l d i, 0) := by
        unfold enQ
        rw [if_pos vc]
        rfl
      rw [e3, ← e4]
      refine EvP.pos rfl ?_
      refine EvP.step (fun k => by rw [incunablelaw29_ScanTilts.j2]) ?_
      refine EvP.neg (by simp) ?_
      exact tilts_l0 v l d ha hn.2 h0 h1
  · rw [hr.1 v]
    exact EvP.neg (by decide) sane
theorem ScanTilts : incunablelaw29_ScanTilts.Pure := by
  intro w h p l d _ _ hp hl hd
  have hb := wf_byt hp.2.2
  obtain ⟨h0, h1⟩ := wf_i64 hd
  have hl2 : (l.length : Int) ≤ 9223372036854775807 := by have := hl.1; omega
  have yes : EvP (fun k => incunablelaw29_ScanTilts.j0 k l d true w h p) (· = true) := by
    refine EvP.step (fun k => by rw [incunablelaw29_ScanTilts.j0]) (EvP.pos rfl ?_)
    refine EvP.bind Sane29_is ?_
    rintro _ rfl
    exact EvP.ret rfl
  refine EvP.rounds ?_
  unfold incunablelaw29_ScanTilts.f
  refine EvP.bindv (Large_is w h p) ?_
  refine EvP.ite (fun _ => yes) (fun a => ?_)
  have a : ¬ (p.length : Int) > 2000 := by simpa using a
  have no := tilts_j0 (w := w) (h := h) l d hb (by omega) hl2 h0 h1
  refine EvP.ite (fun _ => yes) (fun _ => ?_)
  refine EvP.ite (fun _ => ?_) (fun _ => no)
  by_cases c : (l.length : Int) > 12
  · rw [decide_eq_true c]
    exact yes
  · rw [decide_eq_false c]
    exact no

end Go.Proofs.Ytkncofhgmcpagaa.Pure
