/- What Turn and Flip return is what the reference returns; turns add up, all four are nothing, Flip twice is nothing, and none changes the Count; for every input, no conditions. -/
import Derived.Test.YtgcjhpcegmblgaaPBitmapTurnsx7
import Derived.Test.YtgcjhpcegmblgaaQBase
namespace Go.Proofs.Ytgcjhpcegmblgaa.Pure
open Go.RowKit Go.Proofs.Ytgcjhpcegmblgaa.PBitmapTurns Go.Proofs.YtgcjhpcegmblgaaW.PrintWords Go.Proofs.YtgcjhpcegmblgaaW.PrintLast Go.Proofs.YtgcjhpcegmblgaaW.PrintMore Go.Proofs.YtgcjhpcegmblgaaW.Pu
set_option linter.unusedVariables false
set_option linter.unusedSimpArgs false
/-- The numbers of a list are those of bytes. -/
def Byt (p : List Int) : Prop := ∀ x ∈ p, 0 ≤ x ∧ x ≤ 255
theorem refSame_is (w h : Int) (p : List Int) (w' h' : Int) (p' : List Int) (hp : Byt p) (hp' : Byt p') : incunableref05_Same.f w h p w' h' p' = some (decide (w = w' ∧ h = h' ∧ p = p')) := by
  unfold incunableref05_Same.f
  rw [strOfNums_eq hp hp']
  by_cases a : w = w'
  · by_cases b : h = h'
    · simp [a, b]
    · simp [a, b]
  · simp [a]
theorem val_byt {w h : Int} {p : List Int} (v : Val w h p) : Byt p := fun x hx => ⟨(v.2.2.2.2.2.2 x hx).1, by have := (v.2.2.2.2.2.2 x hx).2; omega⟩

theorem wf_byt {p : List Int} (h : ∀ y ∈ p, (Lit.int .u8 y).wf = true) : Byt p := fun x hx => by
  have h1 : (decide (IntKind.u8.min ≤ x) && decide (x ≤ IntKind.u8.max)) = true := h x hx
  obtain ⟨a, b⟩ := Bool.and_eq_true_iff.mp h1
  exact ⟨of_decide_eq_true a, of_decide_eq_true b⟩
theorem wf_i64 {x : Int} (h : (Lit.int .i64 x).wf = true) : -9223372036854775808 ≤ x ∧ x ≤ 9223372036854775807 := by
  have h1 : (decide (IntKind.i64.min ≤ x) && decide (x ≤ IntKind.i64.max)) = true := h
  obtain ⟨a, b⟩ := Bool.and_eq_true_iff.mp h1
  exact ⟨of_decide_eq_true a, of_decide_eq_true b⟩

instance (w h : Int) (p : List Int) : Decidable (Val w h p) := by unfold Val; exact inferInstance
theorem sid_mul {w h : Int} (hw : 0 ≤ w) (hh : 0 ≤ h) (hw' : w ≤ 200) (hh' : h ≤ 200) : 0 ≤ w * h ∧ w * h ≤ 40000 := by
  have h1 : 0 ≤ w * h := Int.mul_nonneg hw hh
  have h2 : w * h ≤ 200 * h := Int.mul_le_mul_of_nonneg_right hw' hh
  omega

theorem fits_is (w h : Int) : bitmap_fits.f w h = some (decide (Sid w h)) := by
  unfold bitmap_fits.f
  by_cases h1 : 0 ≤ w ∧ 0 ≤ h ∧ w ≤ 200 ∧ h ≤ 200
  · obtain ⟨a, b, c, d⟩ := h1
    have := sid_mul a b c d
    rw [if_pos (by omega), if_pos (by omega), if_pos c, if_pos d, w64 (by omega) (by omega)]
    simp [Sid, a, b, c, d]
  · have h2 : ¬ Sid w h := fun s => h1 ⟨s.1, s.2.1, s.2.2.1, s.2.2.2.1⟩
    simp only [h2, decide_false]
    split
    · split
      · split
        · split
          · omega
          · rfl
        · rfl
      · rfl
    · rfl

theorem Valid_l0 (p : List Int) (hl : (p.length : Int) ≤ 9223372036854775807) : EvP (fun k => bitmap_Valid.l0 k p (p.length : Int) 0) (· = decide (∀ x ∈ p, x ≤ 1)) := by
  refine EvP.up (L := fun k i (_ : Unit) => bitmap_Valid.l0 k p (p.length : Int) i) (fun i _ => 0 ≤ i ∧ ∀ j, 0 ≤ j → j < i → rd p j ≤ 1) p.length ?_ 0 () (by omega) ⟨by omega, fun j _ _ => by omega⟩
  intro i _ ⟨h0, hb⟩ hi ih
  refine EvP.step (fun k => by rw [bitmap_Valid.l0]) ?_
  refine EvP.ite (fun h1 => ?_) (fun h1 => ?_)
  · refine EvP.pos h0 (EvP.pos h1 (EvP.ite (fun h2 => EvP.ret ?_) (fun h2 => ?_)))
    · symm
      rw [decide_eq_false_iff_not]
      intro hall
      have := hall _ (rd_mem h0 h1)
      omega
    · rw [w64 (by omega) (by omega)]
      refine ih () h1 ⟨by omega, fun j hj hj' => ?_⟩
      rcases Int.lt_or_le j i with hji | hji
      · exact hb j hj hji
      · have : j = i := by omega
        subst this
        omega
  · refine EvP.ret ?_
    symm
    rw [decide_eq_true_iff]
    intro x hx
    obtain ⟨n, hn, rfl⟩ := List.getElem_of_mem hx
    have := hb (n : Int) (by omega) (by omega)
    rwa [rd_get p n hn] at this
theorem Valid_is (w h : Int) (p : List Int) (hp : ∀ x ∈ p, 0 ≤ x) (hl : (p.length : Int) ≤ 9223372036854775807) : EvP (fun k => bitmap_Valid.f k w h p) (· = decide (Val w h p)) := by
  unfold bitmap_Valid.f
  refine EvP.bindv (fits_is w h) ?_
  refine EvP.ite (fun h1 => ?_) (fun h1 => ?_)
  · rw [decide_eq_true_iff] at h1
    have hm := sid_mul h1.1 h1.2.1 h1.2.2.1 h1.2.2.2.1
    rw [w64 (by omega) (by omega)]
    refine EvP.step (fun k => by rw [bitmap_Valid.j0]) ?_
    refine EvP.ite (fun h2 => EvP.ret ?_) (fun h2 => ?_)
    · symm
      rw [decide_eq_false_iff_not]
      intro v
      simp [v.2.2.2.2.2.1] at h2
    · refine (Valid_l0 p hl).mono ?_
      rintro r rfl
      have e : (p.length : Int) = w * h := by simpa using h2
      apply decide_eq_decide.mpr
      constructor
      · intro hall
        exact ⟨h1.1, h1.2.1, h1.2.2.1, h1.2.2.2.1, h1.2.2.2.2, e, fun x hx => ⟨hp x hx, hall x hx⟩⟩
      · intro v x hx
        exact (v.2.2.2.2.2.2 x hx).2
  · refine EvP.step (fun k => by rw [bitmap_Valid.j0]) ?_
    refine EvP.pos rfl (EvP.ret ?_)
    symm
    rw [decide_eq_false_iff_not]
    intro v
    exact h1 (decide_eq_true v.sid)

theorem at_is {w h : Int} {p : List Int} (v : Val w h p) (x y : Int) : bitmap_at.f w h p x y = some (pix w h p x y) := by
  unfold bitmap_at.f
  by_cases hc : 0 ≤ x ∧ x < w ∧ 0 ≤ y ∧ y < h
  · have hf := flat_lt hc.1 hc.2.1 hc.2.2.1 hc.2.2.2
    have hm := v.2.2.2.2.1
    have hl := v.2.2.2.2.2.1
    rw [if_neg (by omega), if_neg (by omega), if_neg (by omega), if_neg (by omega)]
    have e : wrap64 (y * w) = y * w := w64 (by omega) (by omega)
    rw [e, w64 (by omega) (by omega), if_pos hf.2.1, if_pos (by omega), pix_in hc.1 hc.2.1 hc.2.2.1 hc.2.2.2]
  · rw [pix_out hc]
    by_cases a : x < 0
    · rw [if_pos a]
    rw [if_neg a]
    by_cases b : y < 0
    · rw [if_pos b]
    rw [if_neg b]
    by_cases c : x ≥ w
    · rw [if_pos c]
    rw [if_neg c, if_pos (by omega)]

theorem clone_is (w h : Int) (p : List Int) (hl : p.length < 140737488355328) : bitmap_clone.f w h p = some (w, h, p) := by
  unfold bitmap_clone.f bytes_Clone.f
  simp only [Option.bind_some, List.length_nil, Nat.zero_add, List.nil_append]
  rw [if_pos hl]
  rfl

theorem q4 (q : Int) (h0 : -9223372036854775808 ≤ q) (h1 : q ≤ 9223372036854775807) : Int.tmod (wrap64 (Int.tmod q 4 + 4)) 4 = q % 4 := by
  rcases Int.lt_or_le q 0 with h | h
  · have e : Int.tmod q 4 = -((-q) % 4) := by
      rw [show q = -(-q) by omega, Int.neg_tmod, tmod_pos (by omega)]
      omega
    rw [e, w64 (by omega) (by omega), tmod_pos (by omega)]
    omega
  · rw [tmod_pos h, w64 (by omega) (by omega), tmod_pos (by omega)]
    omega
/-- One quarter. -/
def t1 (b : Int × Int × List Int) : Int × Int × List Int := (b.2.1, b.1, tab b.2.1 b.1 (fun x y => pix b.1 b.2.1 b.2.2 y (b.2.1 - 1 - x)))
def turnR : Nat → Int × Int × List Int → Int × Int × List Int
  | 0, b => b
  | n + 1, b => turnR n (t1 b)
theorem sid_swap {w h : Int} (s : Sid w h) : Sid h w := ⟨s.2.1, s.1, s.2.2.2.1, s.2.2.1, by rw [Int.mul_comm]; exact s.2.2.2.2⟩
theorem val_t1 {w h : Int} {p : List Int} (v : Val w h p) : Val (t1 (w, h, p)).1 (t1 (w, h, p)).2.1 (t1 (w, h, p)).2.2 :=
  val_tab (g := fun x y => pix w h p y (h - 1 - x)) (sid_swap v.sid) (fun _ _ _ _ _ _ => v.pix01 _ _)
theorem Turn_l1 {P : Int × Int × List Int × Int → Prop} {w h : Int} {p : List Int} (v : Val w h p) (n i : Int)
    (hk : EvP (fun k => bitmap_Turn.l0 k n (wrap64 (i + 1)) h w (tab h w (fun x y => pix w h p y (h - 1 - x)))) P) :
    EvP (fun k => bitmap_Turn.l1 k n i ((List.replicate p.length (0 : Int)).length : Int) 0 w h p h w (List.replicate p.length 0)) P := by
  have hl : ((List.replicate p.length (0 : Int)).length : Int) = h * w := by rw [List.length_replicate, v.2.2.2.2.2.1, Int.mul_comm]
  have hm := v.2.2.2.2.1
  have hm2 : h * w = w * h := Int.mul_comm h w
  refine EvP.fillT (L := fun k j s => bitmap_Turn.l1 k n i ((List.replicate p.length (0 : Int)).length : Int) j w h p h w s) v.2.1 v.1 (List.replicate p.length 0) hl (fun x y => pix w h p y (h - 1 - x)) ?_ ?_
  · intro j s h0 h1 hs hw a b c d e f _ _ hk
    obtain ⟨_, _, h200, h200', _⟩ := v.sid
    refine EvP.step (fun k => by rw [bitmap_Turn.l1]) ?_
    refine EvP.pos h1 (EvP.neg (by omega) ?_)
    rw [e, f, w64 (x := j / h) (by omega) (by omega), w64 (x := h - 1) (by omega) (by omega), w64 (by omega) (by omega)]
    refine EvP.bindv (at_is v _ _) ?_
    refine EvP.pos h0 (EvP.pos (by omega) ?_)
    rw [w64 (by omega) (by omega)]
    exact hk
  · refine EvP.step (fun k => by rw [bitmap_Turn.l1]) ?_
    exact EvP.neg (by omega) hk
theorem Turn_l0 (n : Int) (hn : n ≤ 4) : ∀ (d : Nat) (i w h : Int) (p : List Int), Val w h p → 0 ≤ i → i ≤ n → (n - i).toNat = d →
    EvP (fun k => bitmap_Turn.l0 k n i w h p) (· = ((turnR d (w, h, p)).1, (turnR d (w, h, p)).2.1, (turnR d (w, h, p)).2.2, 0)) := by
  intro d
  induction d with
  | zero =>
    intro i w h p v h0 h1 hd
    refine EvP.step (fun k => by rw [bitmap_Turn.l0]) ?_
    exact EvP.neg (by omega) (EvP.ret rfl)
  | succ d ih =>
    intro i w h p v h0 h1 hd
    have hlen : (p.length : Int) ≤ 8192 := by rw [v.2.2.2.2.2.1]; exact v.2.2.2.2.1
    refine EvP.step (fun k => by rw [bitmap_Turn.l0]) ?_
    refine EvP.pos (by omega) (EvP.pos (by omega) (EvP.pos (by omega) ?_))
    refine EvP.bindv rfl ?_
    rw [Int.toNat_natCast]
    refine Turn_l1 v n i ?_
    rw [w64 (by omega) (by omega)]
    exact ih (i + 1) h w _ (val_t1 v) (by omega) (by omega) (by omega)
/-- What Turn returns. -/
def turnQ (w h : Int) (p : List Int) (q : Int) : Int × Int × List Int := turnR (q % 4).toNat (w, h, p)
theorem Turn_is {w h : Int} {p : List Int} (v : Val w h p) (q : Int) (h0 : -9223372036854775808 ≤ q) (h1 : q ≤ 9223372036854775807) :
    EvP (fun k => bitmap_Turn.f k w h p q) (· = ((turnQ w h p q).1, (turnQ w h p q).2.1, (turnQ w h p q).2.2, 0)) := by
  have hlen : (p.length : Int) ≤ 8192 := by rw [v.2.2.2.2.2.1]; exact v.2.2.2.2.1
  unfold bitmap_Turn.f
  refine EvP.bind (Valid_is w h p (fun x hx => (v.2.2.2.2.2.2 x hx).1) (by omega)) ?_
  rintro _ rfl
  refine EvP.pos (decide_eq_true v) ?_
  refine EvP.bindv (clone_is w h p (by omega)) ?_
  rw [q4 q h0 h1]
  exact Turn_l0 (q % 4) (by omega) _ 0 w h p v (by omega) (by omega) (by omega)
theorem Turn_bad {w h : Int} {p : List Int} (v : ¬ Val w h p) (hp : ∀ x ∈ p, 0 ≤ x) (hl : (p.length : Int) ≤ 9223372036854775807) (q : Int) : EvP (fun k => bitmap_Turn.f k w h p q) (· = (0, 0, [], 30)) := by
  unfold bitmap_Turn.f
  refine EvP.bind (Valid_is w h p hp hl) ?_
  rintro _ rfl
  exact EvP.neg (by simpa using v) (EvP.ret rfl)

/-- The sum of the first numbers. -/
def sm : Nat → (Int → Int) → Int
  | 0, _ => 0
  | n + 1, f => sm n f + f (n : Int)
theorem sm_s (n : Nat) (f : Int → Int) : sm (n + 1) f = sm n f + f (n : Int) := rfl
theorem sm_0 (f : Int → Int) : sm 0 f = 0 := rfl
theorem sm_congr {f g : Int → Int} : ∀ {n : Nat}, (∀ i : Int, 0 ≤ i → i < n → f i = g i) → sm n f = sm n g
  | 0, _ => rfl
  | n + 1, h => by
    unfold sm
    rw [sm_congr (fun i h0 h1 => h i h0 (by omega)), h n (by omega) (by omega)]
theorem sm_bound {f : Int → Int} {c : Int} (hc : 0 ≤ c) : ∀ {n : Nat}, (∀ i : Int, 0 ≤ i → i < n → 0 ≤ f i ∧ f i ≤ c) → 0 ≤ sm n f ∧ sm n f ≤ n * c
  | 0, _ => by simp [sm]
  | n + 1, h => by
    have h1 := sm_bound hc (fun i h0 h1 => h i h0 (by omega)) (n := n)
    have h2 := h n (by omega) (by omega)
    unfold sm
    have e : ((n + 1 : Nat) : Int) * c = n * c + c := by rw [Int.natCast_add, Int.add_mul]; simp
    omega
theorem sm_zero {f : Int → Int} (h0 : ∀ i : Int, 0 ≤ i → 0 ≤ f i) : ∀ {n : Nat}, sm n f = 0 → ∀ i : Int, 0 ≤ i → i < n → f i = 0
  | 0, _, i, a, b => by omega
  | n + 1, h, i, a, b => by
    unfold sm at h
    have h1 : 0 ≤ sm n f := by
      have : ∀ m : Nat, 0 ≤ sm m f := by
        intro m
        induction m with
        | zero => simp [sm]
        | succ m ih => unfold sm; have := h0 m (by omega); omega
      exact this n
    have h2 := h0 n (by omega)
    rcases Int.lt_or_le i n with c | c
    · exact sm_zero h0 (show sm n f = 0 by omega) i a c
    · have : i = n := by omega
      subst this
      omega
theorem sm_const (c : Int) : ∀ n : Nat, sm n (fun _ => c) = n * c
  | 0 => by simp [sm]
  | n + 1 => by
    unfold sm
    rw [sm_const c n, Int.natCast_add, Int.add_mul]
    simp
theorem sm_add (f : Int → Int) (a : Nat) : ∀ b : Nat, sm (a + b) f = sm a f + sm b (fun i => f (a + i))
  | 0 => by simp [sm]
  | b + 1 => by
    rw [show a + (b + 1) = (a + b) + 1 from rfl, sm_s, sm_s, sm_add f a b]
    have e : ((a + b : Nat) : Int) = (a : Int) + (b : Int) := by omega
    rw [e]
    show sm a f + sm b (fun i => f (a + i)) + f (a + b) = sm a f + (sm b (fun i => f (a + i)) + f (a + b))
    omega
theorem sm_plus (f g : Int → Int) : ∀ n : Nat, sm n (fun i => f i + g i) = sm n f + sm n g
  | 0 => by simp [sm]
  | n + 1 => by
    rw [sm_s, sm_s, sm_s, sm_plus f g n]
    show sm n f + sm n g + (f n + g n) = sm n f + f n + (sm n g + g n)
    omega
theorem sm_swap (g : Int → Int → Int) (W : Nat) : ∀ H : Nat, sm H (fun y => sm W (fun x => g x y)) = sm W (fun x => sm H (fun y => g x y))
  | 0 => by
    have : sm W (fun x => sm 0 (fun y => g x y)) = sm W (fun _ => 0) := sm_congr (fun i _ _ => rfl)
    rw [this, sm_const 0 W, sm_0]
    simp
  | H + 1 => by
    rw [sm_s, sm_swap g W H]
    have : sm W (fun x => sm (H + 1) (fun y => g x y)) = sm W (fun x => sm H (fun y => g x y) + g x H) := sm_congr (fun i _ _ => rfl)
    rw [this, sm_plus]
theorem sm_front (f : Int → Int) : ∀ n : Nat, sm (n + 1) f = f 0 + sm n (fun i => f (i + 1))
  | 0 => by simp [sm]
  | n + 1 => by
    rw [show sm (n + 1 + 1) f = sm (n + 1) f + f ((n + 1 : Nat) : Int) from rfl, sm_front f n]
    rw [show sm (n + 1) (fun i => f (i + 1)) = sm n (fun i => f (i + 1)) + f ((n : Int) + 1) from rfl]
    have e : ((n + 1 : Nat) : Int) = (n : Int) + 1 := by omega
    rw [e]
    omega
theorem sm_mirror (f : Int → Int) : ∀ n : Nat, sm n (fun i => f ((n : Int) - 1 - i)) = sm n f
  | 0 => rfl
  | n + 1 => by
    rw [sm_front]
    have e : (((n + 1 : Nat) : Int) - 1 - 0) = (n : Int) := by omega
    rw [e]
    have e2 : sm n (fun i => f (((n + 1 : Nat) : Int) - 1 - (i + 1))) = sm n (fun i => f ((n : Int) - 1 - i)) := sm_congr (fun i _ _ => by
      have : ((n + 1 : Nat) : Int) - 1 - (i + 1) = (n : Int) - 1 - i := by omega
      rw [this])
    rw [e2, sm_mirror f n, sm_s]
    omega
/-- All pixels' sum. -/
def tot (w h : Int) (g : Int → Int → Int) : Int := sm h.toNat (fun y => sm w.toNat (fun x => g x y))
theorem sm_flat (g : Int → Int → Int) (W : Nat) : ∀ H : Nat, sm (W * H) (fun i => g (i % (W : Int)) (i / (W : Int))) = sm H (fun y => sm W (fun x => g x y))
  | 0 => rfl
  | H + 1 => by
    rw [Nat.mul_succ, sm_add, sm_flat g W H]
    rw [show sm (H + 1) (fun y => sm W (fun x => g x y)) = sm H (fun y => sm W (fun x => g x y)) + sm W (fun x => g x (H : Int)) from rfl]
    congr 1
    refine sm_congr (fun i h0 h1 => ?_)
    have e : ((W * H : Nat) : Int) + i = (H : Int) * (W : Int) + i := by rw [Int.natCast_mul, Int.mul_comm]
    rw [e, flat_mod h0 h1, flat_div h0 h1]
theorem sm_tab {w h : Int} (hw : 0 ≤ w) (hh : 0 ≤ h) (g : Int → Int → Int) : sm (tab w h g).length (fun i => rd (tab w h g) i) = tot w h g := by
  have h0 : 0 ≤ w * h := Int.mul_nonneg hw hh
  rw [tab_length]
  have e : (w * h).toNat = w.toNat * h.toNat := by
    have e1 : ((w.toNat * h.toNat : Nat) : Int) = w * h := by rw [Int.natCast_mul, Int.toNat_of_nonneg hw, Int.toNat_of_nonneg hh]
    omega
  have ew : ((w.toNat : Nat) : Int) = w := Int.toNat_of_nonneg hw
  unfold tot
  rw [← sm_flat g w.toNat h.toNat, e, ew]
  refine sm_congr (fun i a b => ?_)
  rw [rd_tab w h g i a (by omega)]
theorem tot_congr {w h : Int} {g g' : Int → Int → Int} (hg : ∀ x y, 0 ≤ x → x < w → 0 ≤ y → y < h → g x y = g' x y) : tot w h g = tot w h g' :=
  sm_congr (fun y a b => sm_congr (fun x c d => hg x y c (by omega) a (by omega)))
theorem tot_turn {w h : Int} (hw : 0 ≤ w) (hh : 0 ≤ h) (g : Int → Int → Int) : tot h w (fun x y => g y (h - 1 - x)) = tot w h g := by
  unfold tot
  have eh : ((h.toNat : Nat) : Int) = h := Int.toNat_of_nonneg hh
  rw [sm_swap (fun x y => g x y) w.toNat h.toNat]
  refine sm_congr (fun y a b => ?_)
  have := sm_mirror (fun i => g y i) h.toNat
  rw [eh] at this
  exact this
theorem tot_flip {w h : Int} (hw : 0 ≤ w) (hh : 0 ≤ h) (g : Int → Int → Int) : tot w h (fun x y => g (w - 1 - x) y) = tot w h g := by
  unfold tot
  have ew : ((w.toNat : Nat) : Int) = w := Int.toNat_of_nonneg hw
  refine sm_congr (fun y a b => ?_)
  have := sm_mirror (fun i => g i y) w.toNat
  rw [ew] at this
  exact this
/-- How many pixels are black. -/
def blk (p : List Int) : Int := sm p.length (fun i => rd p i)
theorem blk_val {w h : Int} {p : List Int} (v : Val w h p) : blk p = tot w h (pix w h p) := by
  unfold blk
  have e := sm_tab v.1 v.2.1 (pix w h p)
  rw [← v.tab] at e
  exact e

theorem val_turn : ∀ (n : Nat) {w h : Int} {p : List Int}, Val w h p → Val (turnR n (w, h, p)).1 (turnR n (w, h, p)).2.1 (turnR n (w, h, p)).2.2
  | 0, _, _, _, v => v
  | n + 1, _, _, _, v => val_turn n (val_t1 v)
theorem turn_add : ∀ (n m : Nat) (b : Int × Int × List Int), turnR m (turnR n b) = turnR (n + m) b
  | 0, m, b => by rw [Nat.zero_add]; rfl
  | n + 1, m, b => by
    rw [show n + 1 + m = (n + m) + 1 by omega]
    exact turn_add n m (t1 b)
theorem turn2 {w h : Int} {p : List Int} (v : Val w h p) : turnR 2 (w, h, p) = (w, h, tab w h (fun x y => pix w h p (w - 1 - x) (h - 1 - y))) := by
  show (w, h, tab w h _) = _
  refine congrArg (fun l => (w, h, l)) (tab_congr v.1 v.2.1 (fun x y a b c d => ?_))
  show pix h w (tab h w (fun x y => pix w h p y (h - 1 - x))) y (w - 1 - x) = _
  rw [pix_tab, if_pos (by omega)]
theorem turn3 {w h : Int} {p : List Int} (v : Val w h p) : turnR 3 (w, h, p) = (h, w, tab h w (fun x y => pix w h p (w - 1 - y) x)) := by
  have e : turnR 3 (w, h, p) = turnR 1 (turnR 2 (w, h, p)) := (turn_add 2 1 _).symm
  rw [e, turn2 v]
  show (h, w, tab h w _) = _
  refine congrArg (fun l => (h, w, l)) (tab_congr v.2.1 v.1 (fun x y a b c d => ?_))
  show pix w h (tab w h (fun x y => pix w h p (w - 1 - x) (h - 1 - y))) y (h - 1 - x) = _
  rw [pix_tab, if_pos (by omega), show h - 1 - (h - 1 - x) = x by omega]
theorem turn4 {w h : Int} {p : List Int} (v : Val w h p) : turnR 4 (w, h, p) = (w, h, p) := by
  have e : turnR 4 (w, h, p) = turnR 2 (turnR 2 (w, h, p)) := (turn_add 2 2 _).symm
  have v2 := val_turn 2 v
  rw [turn2 v] at v2
  rw [e, turn2 v, turn2 v2]
  have e2 : tab w h (fun x y => pix w h (tab w h (fun x y => pix w h p (w - 1 - x) (h - 1 - y))) (w - 1 - x) (h - 1 - y)) = p := by
    refine Eq.trans (tab_congr v.1 v.2.1 (fun x y a b c d => ?_)) v.tab.symm
    rw [pix_tab, if_pos (by omega), show w - 1 - (w - 1 - x) = x by omega, show h - 1 - (h - 1 - y) = y by omega]
  exact congrArg (fun l => (w, h, l)) e2
theorem turn_mod {w h : Int} {p : List Int} (v : Val w h p) (n : Nat) (hn : n < 8) : turnR n (w, h, p) = turnR (n % 4) (w, h, p) := by
  rcases Nat.lt_or_ge n 4 with a | a
  · rw [Nat.mod_eq_of_lt a]
  · have e : n = 4 + (n - 4) := by omega
    rw [show n % 4 = n - 4 by omega]
    conv => lhs; rw [e, ← turn_add 4 (n - 4), turn4 v]
theorem blk_t1 {w h : Int} {p : List Int} (v : Val w h p) : blk (t1 (w, h, p)).2.2 = blk p := by
  rw [blk_val v, ← tot_turn v.1 v.2.1 (pix w h p)]
  exact sm_tab v.2.1 v.1 (fun x y => pix w h p y (h - 1 - x))
theorem blk_turn : ∀ (n : Nat) {w h : Int} {p : List Int}, Val w h p → blk (turnR n (w, h, p)).2.2 = blk p
  | 0, _, _, _, _ => rfl
  | n + 1, _, _, _, v => (blk_turn n (val_t1 v)).trans (blk_t1 v)

theorem inside_is (w h : Int) (p : List Int) (x y : Int) : incunableref05_inside.f w h p x y = some (decide (0 ≤ x ∧ x < w ∧ 0 ≤ y ∧ y < h)) := by
  unfold incunableref05_inside.f
  by_cases a : x ≥ 0
  · rw [if_pos a]
    by_cases b : y ≥ 0
    · rw [if_pos b]
      by_cases c : x < w
      · rw [if_pos c]
        exact congrArg some (decide_eq_decide.mpr ⟨fun q => by omega, fun q => by omega⟩)
      · rw [if_neg c]
        exact congrArg some (decide_eq_false (by omega)).symm
    · rw [if_neg b]
      exact congrArg some (decide_eq_false (by omega)).symm
  · rw [if_neg a]
    exact congrArg some (decide_eq_false (by omega)).symm

theorem At_is {w h : Int} {p : List Int} (v : Val w h p) (x y : Int) : incunableref05_At.f w h p x y = some (pix w h p x y) := by
  unfold incunableref05_At.f
  rw [inside_is, Option.bind_some]
  by_cases hc : 0 ≤ x ∧ x < w ∧ 0 ≤ y ∧ y < h
  · have hf := flat_lt hc.1 hc.2.1 hc.2.2.1 hc.2.2.2
    have hm := v.2.2.2.2.1
    have hl := v.2.2.2.2.2.1
    have e : wrap64 (y * w) = y * w := w64 (by omega) (by omega)
    have hr := v.2.2.2.2.2.2 _ (rd_mem (l := p) hf.2.1 (by omega))
    rw [if_pos (decide_eq_true hc), e, w64 (by omega) (by omega), if_pos hf.2.1, if_pos (by omega), w64 (by omega) (by omega), pix_in hc.1 hc.2.1 hc.2.2.1 hc.2.2.2]
  · rw [if_neg (by simpa using hc), pix_out hc]

theorem Put_is {w h : Int} {g : Int → Int → Int} {x y v : Int} (hw : 0 ≤ w) (hh : 0 ≤ h) (hm : w * h ≤ 40000) (hx0 : 0 ≤ x) (hx : x < w) (hy0 : 0 ≤ y) (hy : y < h) :
    incunableref05_Put.f w h (tab w h g) x y v = some (tab w h (upd g x y (v % 256))) := by
  have h0 : 0 ≤ w * h := Int.mul_nonneg hw hh
  have hf := flat_lt hx0 hx hy0 hy
  unfold incunableref05_Put.f
  have e : wrap64 (y * w) = y * w := w64 (by omega) (by omega)
  rw [e, w64 (by omega) (by omega), if_pos hf.2.1, if_pos (by rw [tab_length]; omega), set_tab hw hh hx0 hx hy0 hy]

theorem make2_l0 (w h c : Int) (a b : Int) (hw : 0 ≤ w) (hh : 0 ≤ h) (hw' : w ≤ 200) (hh' : h ≤ 200) : EvP (fun k => incunableref05_make2.l0 k w h c 0 a b []) (· = (a, b, List.replicate (w * h).toNat (c % 256))) := by
  have hm := sid_mul hw hh hw' hh'
  refine EvP.up (L := fun k i (s : List Int) => incunableref05_make2.l0 k w h c i a b s) (fun i s => 0 ≤ i ∧ s = List.replicate i.toNat (c % 256)) (w * h) ?_ 0 [] (by omega) ⟨by omega, rfl⟩
  intro i s ⟨h0, hs⟩ hi ih
  subst hs
  refine EvP.step (fun k => by rw [incunableref05_make2.l0]) ?_
  rw [w64 (x := w * h) (by omega) (by omega)]
  refine EvP.ite (fun h1 => ?_) (fun h1 => ?_)
  · refine EvP.pos (by rw [List.length_replicate]; omega) ?_
    rw [w64 (by omega) (by omega)]
    refine ih _ h1 ⟨by omega, ?_⟩
    rw [show (i + 1).toNat = i.toNat + 1 by omega, List.replicate_succ']
  · have : i = w * h := by omega
    subst this
    exact EvP.ret rfl
theorem make2_is (w h c : Int) (hw : 0 ≤ w) (hh : 0 ≤ h) (hw' : w ≤ 200) (hh' : h ≤ 200) : EvP (fun k => incunableref05_make2.f k w h c) (· = (w, h, tab w h (fun _ _ => c % 256))) := by
  unfold incunableref05_make2.f
  refine (make2_l0 w h c w h hw hh hw' hh').mono ?_
  rintro r rfl
  rw [replicate_tab hw hh]

theorem Sides_is (w h : Int) : incunableref05_Sides.f w h = some (decide (Sid w h)) := by
  unfold incunableref05_Sides.f
  by_cases h1 : 0 ≤ w ∧ 0 ≤ h ∧ w ≤ 200 ∧ h ≤ 200
  · obtain ⟨a, b, c, d⟩ := h1
    have := sid_mul a b c d
    rw [if_pos (by omega), if_pos (by omega), if_pos c, if_pos d, w64 (by omega) (by omega)]
    simp [Sid, a, b, c, d]
  · have h2 : ¬ Sid w h := fun s => h1 ⟨s.1, s.2.1, s.2.2.1, s.2.2.2.1⟩
    simp only [h2, decide_false]
    split
    · split
      · split
        · split
          · omega
          · rfl
        · rfl
      · rfl
    · rfl

theorem refValid_l0 (w h : Int) (p : List Int) (hl : (p.length : Int) ≤ 9223372036854775807) : EvP (fun k => incunableref05_Valid.l0 k 0 w h p) (· = decide (∀ x ∈ p, x ≤ 1)) := by
  refine EvP.up (L := fun k i (_ : Unit) => incunableref05_Valid.l0 k i w h p) (fun i _ => 0 ≤ i ∧ ∀ j, 0 ≤ j → j < i → rd p j ≤ 1) p.length ?_ 0 () (by omega) ⟨by omega, fun j _ _ => by omega⟩
  intro i _ ⟨h0, hb⟩ hi ih
  refine EvP.step (fun k => by rw [incunableref05_Valid.l0]) ?_
  refine EvP.ite (fun h1 => ?_) (fun h1 => ?_)
  · refine EvP.pos h0 (EvP.ite (fun h2 => EvP.ret ?_) (fun h2 => ?_))
    · symm
      rw [decide_eq_false_iff_not]
      intro hall
      have := hall _ (rd_mem h0 h1)
      omega
    · rw [w64 (by omega) (by omega)]
      refine ih () h1 ⟨by omega, fun j hj hj' => ?_⟩
      rcases Int.lt_or_le j i with hji | hji
      · exact hb j hj hji
      · have : j = i := by omega
        subst this
        omega
  · refine EvP.ret ?_
    symm
    rw [decide_eq_true_iff]
    intro x hx
    obtain ⟨n, hn, rfl⟩ := List.getElem_of_mem hx
    have := hb (n : Int) (by omega) (by omega)
    rwa [rd_get p n hn] at this
theorem refValid_is (w h : Int) (p : List Int) (hp : ∀ x ∈ p, 0 ≤ x) (hl : (p.length : Int) ≤ 9223372036854775807) : EvP (fun k => incunableref05_Valid.f k w h p) (· = decide (Val w h p)) := by
  unfold incunableref05_Valid.f
  refine EvP.bindv (Sides_is w h) ?_
  refine EvP.ite (fun h1 => ?_) (fun h1 => ?_)
  · rw [decide_eq_true_iff] at h1
    have hm := sid_mul h1.1 h1.2.1 h1.2.2.1 h1.2.2.2.1
    rw [w64 (by omega) (by omega)]
    refine EvP.step (fun k => by rw [incunableref05_Valid.j0]) ?_
    refine EvP.ite (fun h2 => EvP.ret ?_) (fun h2 => ?_)
    · symm
      rw [decide_eq_false_iff_not]
      intro v
      simp [v.2.2.2.2.2.1] at h2
    · refine (refValid_l0 w h p hl).mono ?_
      rintro r rfl
      have e : (p.length : Int) = w * h := by simpa using h2
      apply decide_eq_decide.mpr
      constructor
      · intro hall
        exact ⟨h1.1, h1.2.1, h1.2.2.1, h1.2.2.2.1, h1.2.2.2.2, e, fun x hx => ⟨hp x hx, hall x hx⟩⟩
      · intro v x hx
        exact (v.2.2.2.2.2.2 x hx).2
  · refine EvP.step (fun k => by rw [incunableref05_Valid.j0]) ?_
    refine EvP.pos rfl (EvP.ret ?_)
    symm
    rw [decide_eq_false_iff_not]
    intro v
    exact h1 (decide_eq_true v.sid)

theorem refTurn_0 {w h : Int} {p : List Int} (v : Val w h p) : EvP (fun k => incunableref05_Turn.l0 k 0 0 w h p w h (tab w h (fun _ _ => 0 % 256))) (· = (w, h, tab w h (fun u t => pix w h p (u) (t)), 0)) := by
  obtain ⟨hw, hh, w200, h200, hm⟩ := v.sid
  have hm2 : h * w = w * h := Int.mul_comm h w
  have e0 : tab w h (fun u t => if 0 ≤ u ∧ u < w ∧ 0 ≤ t ∧ t < h then pix w h p (u) (t) else 0 % 256) = tab w h (fun u t => pix w h p (u) (t)) := tab_congr (by omega) (by omega) (fun u t a b c d => if_pos (by omega))
  refine EvP.rasterP (L0 := fun k j (l : List Int) => incunableref05_Turn.l0 k 0 j w h p w h l) (L1 := fun k j i (l : List Int) => incunableref05_Turn.l1 k 0 j i w h p w h l) (W := w) (H := h)
    (fun i j => i) (fun i j => j) (fun u t => u) (fun u t => t) (fun _ _ => 0 % 256) (fun u t => pix w h p (u) (t)) hw hh (by omega) (by omega) ?_ ?_ ?_ ?_ ?_ ?_ ?_
  · intro i j a b c d
    exact ⟨by show (i) = i; omega, by show (j) = j; omega⟩
  · intro u t a b c d e f g' h'
    exact ⟨by show (u) = u; omega, by show (t) = t; omega⟩
  · intro j l a b hk
    refine EvP.step (fun k => by rw [incunableref05_Turn.l0]) ?_
    exact EvP.pos b hk
  · refine EvP.step (fun k => by rw [incunableref05_Turn.l0]) ?_
    refine EvP.neg (by omega) (EvP.ret ?_)
    rw [e0]
  · intro i j g' a b c d p0 p1 q0 q1 e hk
    refine EvP.step (fun k => by rw [incunableref05_Turn.l1]) ?_
    refine EvP.pos b (EvP.pos rfl ?_)
    refine EvP.bindv (At_is v _ _) ?_
    skip
    refine EvP.bindv (Put_is (by omega) (by omega) (by omega) (show 0 ≤ i by omega) (by omega) (show 0 ≤ j by omega) (by omega)) ?_
    have e3 := v.pix01 i j
    rw [w64 (x := i + 1) (by omega) (by omega), show pix w h p i j % 256 = pix w h p i j by omega]
    have e5 : (i) = i := by omega
    have e6 : (j) = j := by omega
    try simp only [e5, e6] at hk
    exact hk
  · intro i j g' a b c d q hk
    have q : ¬ (0 ≤ i ∧ i < w ∧ 0 ≤ j ∧ j < h) := q
    exact absurd (by omega) q
  · intro j l a b hk
    refine EvP.step (fun k => by rw [incunableref05_Turn.l1]) ?_
    refine EvP.neg (by omega) ?_
    rw [w64 (x := j + 1) (by omega) (by omega)]
    exact hk
theorem refTurn_1 {w h : Int} {p : List Int} (v : Val w h p) : EvP (fun k => incunableref05_Turn.l0 k 1 0 w h p h w (tab h w (fun _ _ => 0 % 256))) (· = (h, w, tab h w (fun u t => pix w h p (t) (h - 1 - u)), 0)) := by
  obtain ⟨hw, hh, w200, h200, hm⟩ := v.sid
  have hm2 : h * w = w * h := Int.mul_comm h w
  have e0 : tab h w (fun u t => if 0 ≤ t ∧ t < w ∧ 0 ≤ h - 1 - u ∧ h - 1 - u < h then pix w h p (t) (h - 1 - u) else 0 % 256) = tab h w (fun u t => pix w h p (t) (h - 1 - u)) := tab_congr (by omega) (by omega) (fun u t a b c d => if_pos (by omega))
  refine EvP.rasterP (L0 := fun k j (l : List Int) => incunableref05_Turn.l0 k 1 j w h p h w l) (L1 := fun k j i (l : List Int) => incunableref05_Turn.l1 k 1 j i w h p h w l) (W := w) (H := h)
    (fun i j => h - 1 - j) (fun i j => i) (fun u t => t) (fun u t => h - 1 - u) (fun _ _ => 0 % 256) (fun u t => pix w h p (t) (h - 1 - u)) hw hh (by omega) (by omega) ?_ ?_ ?_ ?_ ?_ ?_ ?_
  · intro i j a b c d
    exact ⟨by show (i) = i; omega, by show h - 1 - (h - 1 - j) = j; omega⟩
  · intro u t a b c d e f g' h'
    exact ⟨by show h - 1 - (h - 1 - u) = u; omega, by show (t) = t; omega⟩
  · intro j l a b hk
    refine EvP.step (fun k => by rw [incunableref05_Turn.l0]) ?_
    exact EvP.pos b hk
  · refine EvP.step (fun k => by rw [incunableref05_Turn.l0]) ?_
    refine EvP.neg (by omega) (EvP.ret ?_)
    rw [e0]
  · intro i j g' a b c d p0 p1 q0 q1 e hk
    refine EvP.step (fun k => by rw [incunableref05_Turn.l1]) ?_
    refine EvP.pos b (EvP.neg (by decide) (EvP.pos rfl ?_))
    refine EvP.bindv (At_is v _ _) ?_
    rw [w64 (x := h - 1) (by omega) (by omega), w64 (x := h - 1 - j) (by omega) (by omega)]
    refine EvP.bindv (Put_is (by omega) (by omega) (by omega) (show 0 ≤ h - 1 - j by omega) (by omega) (show 0 ≤ i by omega) (by omega)) ?_
    have e3 := v.pix01 i j
    rw [w64 (x := i + 1) (by omega) (by omega), show pix w h p i j % 256 = pix w h p i j by omega]
    have e5 : (i) = i := by omega
    have e6 : h - 1 - (h - 1 - j) = j := by omega
    try simp only [e5, e6] at hk
    exact hk
  · intro i j g' a b c d q hk
    have q : ¬ (0 ≤ h - 1 - j ∧ h - 1 - j < h ∧ 0 ≤ i ∧ i < w) := q
    exact absurd (by omega) q
  · intro j l a b hk
    refine EvP.step (fun k => by rw [incunableref05_Turn.l1]) ?_
    refine EvP.neg (by omega) ?_
    rw [w64 (x := j + 1) (by omega) (by omega)]
    exact hk
theorem refTurn_2 {w h : Int} {p : List Int} (v : Val w h p) : EvP (fun k => incunableref05_Turn.l0 k 2 0 w h p w h (tab w h (fun _ _ => 0 % 256))) (· = (w, h, tab w h (fun u t => pix w h p (w - 1 - u) (h - 1 - t)), 0)) := by
  obtain ⟨hw, hh, w200, h200, hm⟩ := v.sid
  have hm2 : h * w = w * h := Int.mul_comm h w
  have e0 : tab w h (fun u t => if 0 ≤ w - 1 - u ∧ w - 1 - u < w ∧ 0 ≤ h - 1 - t ∧ h - 1 - t < h then pix w h p (w - 1 - u) (h - 1 - t) else 0 % 256) = tab w h (fun u t => pix w h p (w - 1 - u) (h - 1 - t)) := tab_congr (by omega) (by omega) (fun u t a b c d => if_pos (by omega))
  refine EvP.rasterP (L0 := fun k j (l : List Int) => incunableref05_Turn.l0 k 2 j w h p w h l) (L1 := fun k j i (l : List Int) => incunableref05_Turn.l1 k 2 j i w h p w h l) (W := w) (H := h)
    (fun i j => w - 1 - i) (fun i j => h - 1 - j) (fun u t => w - 1 - u) (fun u t => h - 1 - t) (fun _ _ => 0 % 256) (fun u t => pix w h p (w - 1 - u) (h - 1 - t)) hw hh (by omega) (by omega) ?_ ?_ ?_ ?_ ?_ ?_ ?_
  · intro i j a b c d
    exact ⟨by show w - 1 - (w - 1 - i) = i; omega, by show h - 1 - (h - 1 - j) = j; omega⟩
  · intro u t a b c d e f g' h'
    exact ⟨by show w - 1 - (w - 1 - u) = u; omega, by show h - 1 - (h - 1 - t) = t; omega⟩
  · intro j l a b hk
    refine EvP.step (fun k => by rw [incunableref05_Turn.l0]) ?_
    exact EvP.pos b hk
  · refine EvP.step (fun k => by rw [incunableref05_Turn.l0]) ?_
    refine EvP.neg (by omega) (EvP.ret ?_)
    rw [e0]
  · intro i j g' a b c d p0 p1 q0 q1 e hk
    refine EvP.step (fun k => by rw [incunableref05_Turn.l1]) ?_
    refine EvP.pos b (EvP.neg (by decide) (EvP.neg (by decide) (EvP.pos rfl ?_)))
    refine EvP.bindv (At_is v _ _) ?_
    rw [w64 (x := w - 1) (by omega) (by omega), w64 (x := w - 1 - i) (by omega) (by omega), w64 (x := h - 1) (by omega) (by omega), w64 (x := h - 1 - j) (by omega) (by omega)]
    refine EvP.bindv (Put_is (by omega) (by omega) (by omega) (show 0 ≤ w - 1 - i by omega) (by omega) (show 0 ≤ h - 1 - j by omega) (by omega)) ?_
    have e3 := v.pix01 i j
    rw [w64 (x := i + 1) (by omega) (by omega), show pix w h p i j % 256 = pix w h p i j by omega]
    have e5 : w - 1 - (w - 1 - i) = i := by omega
    have e6 : h - 1 - (h - 1 - j) = j := by omega
    try simp only [e5, e6] at hk
    exact hk
  · intro i j g' a b c d q hk
    have q : ¬ (0 ≤ w - 1 - i ∧ w - 1 - i < w ∧ 0 ≤ h - 1 - j ∧ h - 1 - j < h) := q
    exact absurd (by omega) q
  · intro j l a b hk
    refine EvP.step (fun k => by rw [incunableref05_Turn.l1]) ?_
    refine EvP.neg (by omega) ?_
    rw [w64 (x := j + 1) (by omega) (by omega)]
    exact hk
theorem refTurn_3 {w h : Int} {p : List Int} (v : Val w h p) : EvP (fun k => incunableref05_Turn.l0 k 3 0 w h p h w (tab h w (fun _ _ => 0 % 256))) (· = (h, w, tab h w (fun u t => pix w h p (w - 1 - t) (u)), 0)) := by
  obtain ⟨hw, hh, w200, h200, hm⟩ := v.sid
  have hm2 : h * w = w * h := Int.mul_comm h w
  have e0 : tab h w (fun u t => if 0 ≤ w - 1 - t ∧ w - 1 - t < w ∧ 0 ≤ u ∧ u < h then pix w h p (w - 1 - t) (u) else 0 % 256) = tab h w (fun u t => pix w h p (w - 1 - t) (u)) := tab_congr (by omega) (by omega) (fun u t a b c d => if_pos (by omega))
  refine EvP.rasterP (L0 := fun k j (l : List Int) => incunableref05_Turn.l0 k 3 j w h p h w l) (L1 := fun k j i (l : List Int) => incunableref05_Turn.l1 k 3 j i w h p h w l) (W := w) (H := h)
    (fun i j => j) (fun i j => w - 1 - i) (fun u t => w - 1 - t) (fun u t => u) (fun _ _ => 0 % 256) (fun u t => pix w h p (w - 1 - t) (u)) hw hh (by omega) (by omega) ?_ ?_ ?_ ?_ ?_ ?_ ?_
  · intro i j a b c d
    exact ⟨by show w - 1 - (w - 1 - i) = i; omega, by show (j) = j; omega⟩
  · intro u t a b c d e f g' h'
    exact ⟨by show (u) = u; omega, by show w - 1 - (w - 1 - t) = t; omega⟩
  · intro j l a b hk
    refine EvP.step (fun k => by rw [incunableref05_Turn.l0]) ?_
    exact EvP.pos b hk
  · refine EvP.step (fun k => by rw [incunableref05_Turn.l0]) ?_
    refine EvP.neg (by omega) (EvP.ret ?_)
    rw [e0]
  · intro i j g' a b c d p0 p1 q0 q1 e hk
    refine EvP.step (fun k => by rw [incunableref05_Turn.l1]) ?_
    refine EvP.pos b (EvP.neg (by decide) (EvP.neg (by decide) (EvP.neg (by decide) (EvP.pos rfl ?_))))
    refine EvP.bindv (At_is v _ _) ?_
    rw [w64 (x := w - 1) (by omega) (by omega), w64 (x := w - 1 - i) (by omega) (by omega)]
    refine EvP.bindv (Put_is (by omega) (by omega) (by omega) (show 0 ≤ j by omega) (by omega) (show 0 ≤ w - 1 - i by omega) (by omega)) ?_
    have e3 := v.pix01 i j
    rw [w64 (x := i + 1) (by omega) (by omega), show pix w h p i j % 256 = pix w h p i j by omega]
    have e5 : w - 1 - (w - 1 - i) = i := by omega
    have e6 : (j) = j := by omega
    try simp only [e5, e6] at hk
    exact hk
  · intro i j g' a b c d q hk
    have q : ¬ (0 ≤ j ∧ j < h ∧ 0 ≤ w - 1 - i ∧ w - 1 - i < w) := q
    exact absurd (by omega) q
  · intro j l a b hk
    refine EvP.step (fun k => by rw [incunableref05_Turn.l1]) ?_
    refine EvP.neg (by omega) ?_
    rw [w64 (x := j + 1) (by omega) (by omega)]
    exact hk
theorem refTurn_is {w h : Int} {p : List Int} (v : Val w h p) (q : Int) (h0 : -9223372036854775808 ≤ q) (h1 : q ≤ 9223372036854775807) :
    EvP (fun k => incunableref05_Turn.f k w h p q) (· = ((turnQ w h p q).1, (turnQ w h p q).2.1, (turnQ w h p q).2.2, 0)) := by
  have hlen : (p.length : Int) ≤ 8192 := by rw [v.2.2.2.2.2.1]; exact v.2.2.2.2.1
  obtain ⟨hw, hh, w200, h200, hm⟩ := v.sid
  unfold incunableref05_Turn.f
  refine EvP.bind (refValid_is w h p (fun x hx => (v.2.2.2.2.2.2 x hx).1) (by omega)) ?_
  rintro _ rfl
  refine EvP.pos (decide_eq_true v) ?_
  refine EvP.bind (make2_is w h 0 hw hh w200 h200) ?_
  rintro _ rfl
  rw [q4 q h0 h1]
  unfold turnQ
  have four : q % 4 = 0 ∨ q % 4 = 1 ∨ q % 4 = 2 ∨ q % 4 = 3 := by omega
  rcases four with e | e | e | e
  · rw [e]
    refine EvP.neg (by decide) (EvP.step (fun k => by rw [incunableref05_Turn.j0]) ?_)
    refine (refTurn_0 v).mono ?_
    rintro _ rfl
    show (w, h, tab w h (fun u t => pix w h p u t), 0) = (w, h, p, 0)
    rw [show tab w h (fun u t => pix w h p u t) = p from v.tab.symm]
  · rw [e]
    refine EvP.pos (by decide) ?_
    refine EvP.bind (make2_is h w 0 hh hw h200 w200) ?_
    rintro _ rfl
    refine EvP.step (fun k => by rw [incunableref05_Turn.j0]) ?_
    refine (refTurn_1 v).mono ?_
    rintro _ rfl
    rfl
  · rw [e]
    refine EvP.neg (by decide) (EvP.step (fun k => by rw [incunableref05_Turn.j0]) ?_)
    refine (refTurn_2 v).mono ?_
    rintro _ rfl
    have := turn2 v
    show _ = ((turnR 2 (w, h, p)).1, (turnR 2 (w, h, p)).2.1, (turnR 2 (w, h, p)).2.2, 0)
    rw [this]
  · rw [e]
    refine EvP.pos (by decide) ?_
    refine EvP.bind (make2_is h w 0 hh hw h200 w200) ?_
    rintro _ rfl
    refine EvP.step (fun k => by rw [incunableref05_Turn.j0]) ?_
    refine (refTurn_3 v).mono ?_
    rintro _ rfl
    have := turn3 v
    show _ = ((turnR 3 (w, h, p)).1, (turnR 3 (w, h, p)).2.1, (turnR 3 (w, h, p)).2.2, 0)
    rw [this]
theorem refTurn_bad {w h : Int} {p : List Int} (v : ¬ Val w h p) (hp : ∀ x ∈ p, 0 ≤ x) (hl : (p.length : Int) ≤ 9223372036854775807) (q : Int) : EvP (fun k => incunableref05_Turn.f k w h p q) (· = (0, 0, [], 30)) := by
  unfold incunableref05_Turn.f
  refine EvP.bind (refValid_is w h p hp hl) ?_
  rintro _ rfl
  exact EvP.neg (by simpa using v) (EvP.ret rfl)

def flipR (w h : Int) (p : List Int) : List Int := tab w h (fun x y => pix w h p (w - 1 - x) y)
theorem flip_val {w h : Int} {p : List Int} (v : Val w h p) : Val w h (flipR w h p) := val_tab (g := fun x y => pix w h p (w - 1 - x) y) v.sid (fun _ _ _ _ _ _ => v.pix01 _ _)
theorem flip_flip {w h : Int} {p : List Int} (v : Val w h p) : flipR w h (flipR w h p) = p := by
  refine Eq.trans (tab_congr v.1 v.2.1 (fun x y a b c d => ?_)) v.tab.symm
  unfold flipR
  rw [pix_tab, if_pos (by omega), show w - 1 - (w - 1 - x) = x by omega]
theorem Flip_is {w h : Int} {p : List Int} (v : Val w h p) : EvP (fun k => bitmap_Flip.f k w h p) (· = (w, h, flipR w h p, 0)) := by
  have hlen : (p.length : Int) ≤ 8192 := by rw [v.2.2.2.2.2.1]; exact v.2.2.2.2.1
  unfold bitmap_Flip.f
  refine EvP.bind (Valid_is w h p (fun x hx => (v.2.2.2.2.2.2 x hx).1) (by omega)) ?_
  rintro _ rfl
  refine EvP.pos (decide_eq_true v) ?_
  refine EvP.bindv (clone_is w h p (by omega)) ?_
  obtain ⟨_, _, w200, h200, _⟩ := v.sid
  refine EvP.fillT (L := fun k i l => bitmap_Flip.l0 k (p.length : Int) i w h p w h l) v.1 v.2.1 p v.2.2.2.2.2.1 (fun x y => pix w h p (w - 1 - x) y) ?_ ?_
  · intro i l h0 h2 hl hw0 p0 p1 q0 q1 e1 e2 _ _ hk
    refine EvP.step (fun k => by rw [bitmap_Flip.l0]) ?_
    refine EvP.pos h2 (EvP.neg (by omega) ?_)
    rw [e1, e2, w64 (x := i / w) (by omega) (by omega), w64 (x := w - 1) (by omega) (by omega), w64 (x := w - 1 - i % w) (by omega) (by omega)]
    refine EvP.bindv (at_is v _ _) ?_
    refine EvP.pos h0 (EvP.pos (by omega) ?_)
    rw [w64 (by omega) (by omega)]
    exact hk
  · refine EvP.step (fun k => by rw [bitmap_Flip.l0]) ?_
    exact EvP.neg (by omega) (EvP.ret rfl)
theorem Flip_bad {w h : Int} {p : List Int} (v : ¬ Val w h p) (hp : ∀ x ∈ p, 0 ≤ x) (hl : (p.length : Int) ≤ 9223372036854775807) : EvP (fun k => bitmap_Flip.f k w h p) (· = (0, 0, [], 30)) := by
  unfold bitmap_Flip.f
  refine EvP.bind (Valid_is w h p hp hl) ?_
  rintro _ rfl
  exact EvP.neg (by simpa using v) (EvP.ret rfl)

theorem refFlip_is {w h : Int} {p : List Int} (v : Val w h p) : EvP (fun k => incunableref05_Flip.f k w h p) (· = (w, h, flipR w h p, 0)) := by
  have hlen : (p.length : Int) ≤ 8192 := by rw [v.2.2.2.2.2.1]; exact v.2.2.2.2.1
  obtain ⟨hw, hh, w200, h200, hm⟩ := v.sid
  unfold incunableref05_Flip.f
  refine EvP.bind (refValid_is w h p (fun x hx => (v.2.2.2.2.2.2 x hx).1) (by omega)) ?_
  rintro _ rfl
  refine EvP.pos (decide_eq_true v) ?_
  refine EvP.bind (make2_is w h 0 hw hh w200 h200) ?_
  rintro _ rfl
  have e0 : tab w h (fun u t => if 0 ≤ w - 1 - u ∧ w - 1 - u < w ∧ 0 ≤ t ∧ t < h then pix w h p (w - 1 - u) t else 0 % 256) = flipR w h p := tab_congr hw hh (fun u t a b c d => if_pos (by omega))
  refine EvP.rasterP (L0 := fun k j (l : List Int) => incunableref05_Flip.l0 k j w h p w h l) (L1 := fun k j i (l : List Int) => incunableref05_Flip.l1 k j i w h p w h l) (W := w) (H := h)
    (fun i j => w - 1 - i) (fun i j => j) (fun u t => w - 1 - u) (fun u t => t) (fun _ _ => 0 % 256) (fun u t => pix w h p (w - 1 - u) t) hw hh hw hh ?_ ?_ ?_ ?_ ?_ ?_ ?_
  · intro i j a b c d
    exact ⟨by show w - 1 - (w - 1 - i) = i; omega, rfl⟩
  · intro u t a b c d e f g' h'
    exact ⟨by show w - 1 - (w - 1 - u) = u; omega, rfl⟩
  · intro j l a b hk
    refine EvP.step (fun k => by rw [incunableref05_Flip.l0]) ?_
    exact EvP.pos b hk
  · refine EvP.step (fun k => by rw [incunableref05_Flip.l0]) ?_
    refine EvP.neg (by omega) (EvP.ret ?_)
    rw [e0]
  · intro i j g' a b c d p0 p1 q0 q1 e hk
    refine EvP.step (fun k => by rw [incunableref05_Flip.l1]) ?_
    refine EvP.pos b ?_
    refine EvP.bindv (At_is v _ _) ?_
    rw [w64 (x := w - 1) (by omega) (by omega), w64 (x := w - 1 - i) (by omega) (by omega)]
    refine EvP.bindv (Put_is hw hh (by omega) (show 0 ≤ w - 1 - i by omega) (by omega) c d) ?_
    have e3 := v.pix01 i j
    rw [w64 (x := i + 1) (by omega) (by omega), show pix w h p i j % 256 = pix w h p i j by omega]
    have e5 : w - 1 - (w - 1 - i) = i := by omega
    simp only [e5] at hk
    exact hk
  · intro i j g' a b c d q hk
    have q : ¬ (0 ≤ w - 1 - i ∧ w - 1 - i < w ∧ 0 ≤ j ∧ j < h) := q
    exact absurd (by omega) q
  · intro j l a b hk
    refine EvP.step (fun k => by rw [incunableref05_Flip.l1]) ?_
    refine EvP.neg (by omega) ?_
    rw [w64 (x := j + 1) (by omega) (by omega)]
    exact hk
theorem refFlip_bad {w h : Int} {p : List Int} (v : ¬ Val w h p) (hp : ∀ x ∈ p, 0 ≤ x) (hl : (p.length : Int) ≤ 9223372036854775807) : EvP (fun k => incunableref05_Flip.f k w h p) (· = (0, 0, [], 30)) := by
  unfold incunableref05_Flip.f
  refine EvP.bind (refValid_is w h p hp hl) ?_
  rintro _ rfl
  exact EvP.neg (by simpa using v) (EvP.ret rfl)

theorem Blacks_is (w h : Int) (p : List Int) (hp : Byt p) (hl : (p.length : Int) ≤ 1000000000) : EvP (fun k => incunableref05_Blacks.f k w h p) (· = blk p) := by
  unfold incunableref05_Blacks.f
  refine EvP.up (L := fun k i (s : Int) => incunableref05_Blacks.l0 k s i w h p) (fun i s => 0 ≤ i ∧ s = sm i.toNat (fun j => rd p j)) p.length ?_ 0 0 (by omega) ⟨by omega, rfl⟩
  intro i s ⟨h0, hs⟩ hi ih
  refine EvP.step (fun k => by rw [incunableref05_Blacks.l0]) ?_
  refine EvP.ite (fun h1 => ?_) (fun h1 => ?_)
  · refine EvP.pos h0 ?_
    have hb := hp _ (rd_mem h0 h1)
    have hsm := sm_bound (n := i.toNat) (f := fun j => rd p j) (c := 255) (by omega) (fun j a b => hp _ (rd_mem a (by omega)))
    rw [w64 (x := rd p i) (by omega) (by omega), w64 (x := s + rd p i) (by omega) (by omega), w64 (x := i + 1) (by omega) (by omega)]
    refine ih _ h1 ⟨by omega, ?_⟩
    rw [hs, show (i + 1).toNat = i.toNat + 1 by omega, sm_s, show ((i.toNat : Nat) : Int) = i by omega]
  · refine EvP.ret ?_
    have : i.toNat = p.length := by omega
    rw [hs, this]
    rfl

theorem Sane_is : EvP (fun k => incunablelaw05_Sane.f k) (· = true) := by
  unfold incunablelaw05_Sane.f
  refine EvP.bind (Turn_is (w := 2) (h := 1) (p := [1, 0]) (by unfold Val; decide) 1 (by omega) (by omega)) ?_
  rintro _ rfl
  refine EvP.pos rfl ?_
  refine EvP.bindv (refSame_is _ _ _ _ _ _ ?_ ?_) (EvP.ret ?_)
  · unfold Byt
    decide
  · unfold Byt
    decide
  · decide

theorem Huge_is (w h : Int) (p : List Int) : incunablelaw05_Huge.f w h p = some (decide ((p.length : Int) > 20000)) := rfl

theorem turns_ok {w h : Int} {p : List Int} (v : Val w h p) (m n : Int) (m0 : -9223372036854775808 ≤ m) (m1 : m ≤ 9223372036854775807) (n0 : -9223372036854775808 ≤ n) (n1 : n ≤ 9223372036854775807) :
    EvP (fun k => incunablelaw05_BitmapTurns.j0 k m n 0 false w h p (turnQ w h p m).1 (turnQ w h p m).2.1 (turnQ w h p m).2.2 w h (flipR w h p)) (· = true) := by
  have vm := val_turn (m % 4).toNat v
  have em : ∃ M, Int.tmod m 4 = M ∧ -4 < M ∧ M < 4 ∧ M % 4 = m % 4 := by
    rcases Int.lt_or_le m 0 with a | a
    · refine ⟨_, rfl, ?_⟩
      have e : Int.tmod m 4 = -((-m) % 4) := by
        rw [show m = -(-m) by omega, Int.neg_tmod, tmod_pos (by omega)]
        omega
      rw [e]
      omega
    · exact ⟨_, rfl, by rw [tmod_pos a]; omega⟩
  have en : ∃ M, Int.tmod n 4 = M ∧ -4 < M ∧ M < 4 ∧ M % 4 = n % 4 := by
    rcases Int.lt_or_le n 0 with a | a
    · refine ⟨_, rfl, ?_⟩
      have e : Int.tmod n 4 = -((-n) % 4) := by
        rw [show n = -(-n) by omega, Int.neg_tmod, tmod_pos (by omega)]
        omega
      rw [e]
      omega
    · exact ⟨_, rfl, by rw [tmod_pos a]; omega⟩
  obtain ⟨M, eM, a1, a2, a3⟩ := em
  obtain ⟨N, eN, b1, b2, b3⟩ := en
  have ea : ∀ q : Int, turnQ (turnQ w h p m).1 (turnQ w h p m).2.1 (turnQ w h p m).2.2 q = turnR (((m % 4).toNat + (q % 4).toNat) % 4) (w, h, p) := by
    intro q
    rw [← turn_mod v _ (by omega), ← turn_add]
    rfl
  have e1 : turnQ (turnQ w h p m).1 (turnQ w h p m).2.1 (turnQ w h p m).2.2 N = turnQ w h p (M + N) := by
    rw [ea]
    unfold turnQ
    congr 1
    omega
  have e2 : turnQ (turnQ w h p m).1 (turnQ w h p m).2.1 (turnQ w h p m).2.2 (-M) = (w, h, p) := by
    rw [ea, show ((m % 4).toNat + (-M % 4).toNat) % 4 = 0 by omega]
    rfl
  have vs := val_turn ((M + N) % 4).toNat v
  have hlen : (p.length : Int) ≤ 8192 := by rw [v.2.2.2.2.2.1]; exact v.2.2.2.2.1
  have tlen : ((turnQ w h p m).2.2.length : Int) ≤ 8192 := by
    have := vm.2.2.2.2.2.1
    have t := vm.2.2.2.2.1
    unfold turnQ
    omega
  have vf := flip_val v
  have flen : ((flipR w h p).length : Int) ≤ 8192 := by rw [vf.2.2.2.2.2.1]; exact vf.2.2.2.2.1
  refine EvP.step (fun k => by rw [incunablelaw05_BitmapTurns.j0]) ?_
  refine EvP.neg (by decide) (EvP.pos rfl ?_)
  rw [eM, eN]
  refine EvP.bind (Turn_is vm N (by omega) (by omega)) ?_
  rintro _ rfl
  rw [w64 (x := M + N) (by omega) (by omega), w64 (x := -M) (by omega) (by omega)]
  refine EvP.bind (Turn_is v (M + N) (by omega) (by omega)) ?_
  rintro _ rfl
  refine EvP.bind (Turn_is vm (-M) (by omega) (by omega)) ?_
  rintro _ rfl
  refine EvP.bind (Flip_is vf) ?_
  rintro _ rfl
  refine EvP.pos rfl (EvP.pos rfl (EvP.pos rfl ?_))
  refine EvP.step (fun k => by rw [incunablelaw05_BitmapTurns.j1]) ?_
  refine EvP.neg (by simp) ?_
  have e1' : turnQ (turnR (m % 4).toNat (w, h, p)).1 (turnR (m % 4).toNat (w, h, p)).2.1 (turnR (m % 4).toNat (w, h, p)).2.2 N = turnQ w h p (M + N) := e1
  have e2' : turnQ (turnR (m % 4).toNat (w, h, p)).1 (turnR (m % 4).toNat (w, h, p)).2.1 (turnR (m % 4).toNat (w, h, p)).2.2 (-M) = (w, h, p) := e2
  rw [e1', e2', flip_flip v]
  refine EvP.bindv (refSame_is _ _ _ _ _ _ (val_byt vs) (val_byt vs)) ?_
  refine EvP.pos (by simp [turnQ]) ?_
  refine EvP.bindv (refSame_is _ _ _ _ _ _ (val_byt v) (val_byt v)) ?_
  refine EvP.pos (by simp) ?_
  refine EvP.bindv (refSame_is _ _ _ _ _ _ (val_byt v) (val_byt v)) ?_
  refine EvP.pos (by simp) ?_
  refine EvP.bind (Blacks_is _ _ _ (val_byt vm) (by omega)) ?_
  rintro _ rfl
  refine EvP.bind (Blacks_is w h p (val_byt v) (by omega)) ?_
  rintro _ rfl
  refine EvP.pos (blk_turn _ v) ?_
  refine EvP.bind (Blacks_is _ _ _ (val_byt vf) (by omega)) ?_
  rintro _ rfl
  refine EvP.bind (Blacks_is w h p (val_byt v) (by omega)) ?_
  rintro _ rfl
  refine EvP.pos ?_ ?_
  · rw [blk_val v, ← tot_flip v.1 v.2.1 (pix w h p)]
    exact sm_tab v.1 v.2.1 (fun x y => pix w h p (w - 1 - x) y)
  · refine EvP.bind Sane_is ?_
    rintro _ rfl
    exact EvP.ret rfl
theorem BitmapTurns : incunablelaw05_BitmapTurns.Pure := by
  intro w h p m n _ _ hp hm hn
  have hb := wf_byt hp.2.2
  obtain ⟨m0, m1⟩ := wf_i64 hm
  obtain ⟨n0, n1⟩ := wf_i64 hn
  refine EvP.rounds ?_
  unfold incunablelaw05_BitmapTurns.f
  refine EvP.bindv (Huge_is w h p) ?_
  refine EvP.ite (fun a => ?_) (fun a => ?_)
  · refine EvP.bind Sane_is ?_
    rintro _ rfl
    exact EvP.ret rfl
  have a : ¬ (p.length : Int) > 20000 := by simpa using a
  by_cases v : Val w h p
  · have vm := val_turn (m % 4).toNat v
    have vf := flip_val v
    refine EvP.bind (Turn_is v m m0 m1) ?_
    rintro _ rfl
    refine EvP.bind (refTurn_is v m m0 m1) ?_
    rintro _ rfl
    refine EvP.bind (Flip_is v) ?_
    rintro _ rfl
    refine EvP.bind (refFlip_is v) ?_
    rintro _ rfl
    refine EvP.pos rfl (EvP.pos rfl ?_)
    refine EvP.bindv (refSame_is _ _ _ _ _ _ (val_byt vm) (val_byt vm)) ?_
    refine EvP.pos (by simp [turnQ]) ?_
    refine EvP.bindv (refSame_is _ _ _ _ _ _ (val_byt vf) (val_byt vf)) ?_
    have := turns_ok v m n m0 m1 n0 n1
    simpa using this
  · refine EvP.bind (Turn_bad v (fun x hx => (hb x hx).1) (by omega) m) ?_
    rintro _ rfl
    refine EvP.bind (refTurn_bad v (fun x hx => (hb x hx).1) (by omega) m) ?_
    rintro _ rfl
    refine EvP.bind (Flip_bad v (fun x hx => (hb x hx).1) (by omega)) ?_
    rintro _ rfl
    refine EvP.bind (refFlip_bad v (fun x hx => (hb x hx).1) (by omega)) ?_
    rintro _ rfl
    have nb : Byt [] := fun x hx => by simp at hx
    refine EvP.pos rfl (EvP.pos rfl ?_)
    refine EvP.bindv (refSame_is _ _ _ _ _ _ nb nb) ?_
    refine EvP.pos (by simp) ?_
    refine EvP.bindv (refSame_is _ _ _ _ _ _ nb nb) ?_
    refine EvP.step (fun k => by rw [incunablelaw05_BitmapTurns.j0]) ?_
    refine EvP.neg (by simp) (EvP.neg (by decide) ?_)
    refine EvP.bind Sane_is ?_
    rintro _ rfl
    exact EvP.ret rfl

end Go.Proofs.Ytgcjhpcegmblgaa.Pure
