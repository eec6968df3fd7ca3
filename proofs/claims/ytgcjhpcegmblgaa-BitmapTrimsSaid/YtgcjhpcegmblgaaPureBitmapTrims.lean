/- What Trim returns is what the reference returns, and drawn at its place into a white bitmap it is the bitmap; for every input, no conditions. -/
import Derived.Test.YtgcjhpcegmblgaaPBitmapTrimsx7
import Derived.Test.YtgcjhpcegmblgaaQBase
namespace Go.Proofs.Ytgcjhpcegmblgaa.Pure
open Go.RowKit Go.Proofs.Ytgcjhpcegmblgaa.PBitmapTrims Go.Proofs.YtgcjhpcegmblgaaW.PrintWords Go.Proofs.YtgcjhpcegmblgaaW.PrintLast Go.Proofs.YtgcjhpcegmblgaaW.PrintMore Go.Proofs.YtgcjhpcegmblgaaW.Pu
set_option linter.unusedVariables false
set_option linter.unusedSimpArgs false
/-- The numbers of a list are those of bytes. -/
def Byt (p : List Int) : Prop := ∀ x ∈ p, 0 ≤ x ∧ x ≤ 255
theorem refSame_is (w h : Int) (p : List Int) (w' h' : Int) (p' : List Int) (hp : Byt p) (hp' : Byt p') : incunableref05_Same.f w h p w' h' p' = some (decide (w = w' ∧ h = h' ∧ p = p')) := by
  unfold incunableref05_Same.f
  rw [strOfNums_eq hp hp']
  by_cases a : w = w'
  · by_cases b : h = h'
    · simp [a, b]
    · simp [a, b]
  · simp [a]
theorem val_byt {w h : Int} {p : List Int} (v : Val w h p) : Byt p := fun x hx => ⟨(v.2.2.2.2.2.2 x hx).1, by have := (v.2.2.2.2.2.2 x hx).2; omega⟩

theorem wf_byt {p : List Int} (h : ∀ y ∈ p, (Lit.int .u8 y).wf = true) : Byt p := fun x hx => by
  have h1 : (decide (IntKind.u8.min ≤ x) && decide (x ≤ IntKind.u8.max)) = true := h x hx
  obtain ⟨a, b⟩ := Bool.and_eq_true_iff.mp h1
  exact ⟨of_decide_eq_true a, of_decide_eq_true b⟩
theorem wf_i64 {x : Int} (h : (Lit.int .i64 x).wf = true) : -9223372036854775808 ≤ x ∧ x ≤ 9223372036854775807 := by
  have h1 : (decide (IntKind.i64.min ≤ x) && decide (x ≤ IntKind.i64.max)) = true := h
  obtain ⟨a, b⟩ := Bool.and_eq_true_iff.mp h1
  exact ⟨of_decide_eq_true a, of_decide_eq_true b⟩

def mixv (op a b : Int) : Int := if op = 0 then b else if op = 1 then (if a < b then b else a) else if op = 2 then (if b < a then b else a) else if op = 3 then (a + b) % 2 else (a + b + 1) % 2
theorem five {op : Int} (h0 : 0 ≤ op) (h1 : op ≤ 4) : op = 0 ∨ op = 1 ∨ op = 2 ∨ op = 3 ∨ op = 4 := by omega
theorem bit {a : Int} (h0 : 0 ≤ a) (h1 : a ≤ 1) : a = 0 ∨ a = 1 := by omega
theorem mix_01 {op a b : Int} (h0 : 0 ≤ op) (h1 : op ≤ 4) (a0 : 0 ≤ a) (a1 : a ≤ 1) (b0 : 0 ≤ b) (b1 : b ≤ 1) : 0 ≤ mixv op a b ∧ mixv op a b ≤ 1 := by
  rcases five h0 h1 with rfl | rfl | rfl | rfl | rfl <;> rcases bit a0 a1 with rfl | rfl <;> rcases bit b0 b1 with rfl | rfl <;> decide +kernel
theorem mix3 {a b : Int} (a0 : 0 ≤ a) (a1 : a ≤ 1) (b0 : 0 ≤ b) (b1 : b ≤ 1) : mixv 3 (mixv 3 a b) b = a := by
  rcases bit a0 a1 with rfl | rfl <;> rcases bit b0 b1 with rfl | rfl <;> decide +kernel
theorem mix3_ne {a b : Int} (a0 : 0 ≤ a) (a1 : a ≤ 1) (b0 : 0 ≤ b) (b1 : b ≤ 1) : mixv 3 a b = if a = b then 0 else 1 := by
  rcases bit a0 a1 with rfl | rfl <;> rcases bit b0 b1 with rfl | rfl <;> decide +kernel
theorem mix1_zero {b : Int} (b0 : 0 ≤ b) (b1 : b ≤ 1) : mixv 1 0 b = b := by
  rcases bit b0 b1 with rfl | rfl <;> decide +kernel
theorem mix0 (a b : Int) : mixv 0 a b = b := rfl

instance (w h : Int) (p : List Int) : Decidable (Val w h p) := by unfold Val; exact inferInstance
theorem sid_mul {w h : Int} (hw : 0 ≤ w) (hh : 0 ≤ h) (hw' : w ≤ 200) (hh' : h ≤ 200) : 0 ≤ w * h ∧ w * h ≤ 40000 := by
  have h1 : 0 ≤ w * h := Int.mul_nonneg hw hh
  have h2 : w * h ≤ 200 * h := Int.mul_le_mul_of_nonneg_right hw' hh
  omega

/-- What is drawn. -/
def drawG (g : Int → Int → Int) (w' h' : Int) (s : List Int) (x y op : Int) : Int → Int → Int := fun u t => if 0 ≤ u - x ∧ u - x < w' ∧ 0 ≤ t - y ∧ t - y < h' then mixv op (g u t) (pix w' h' s (u - x) (t - y)) else g u t
def Shf (x y : Int) : Prop := -100000 ≤ x ∧ x ≤ 100000 ∧ -100000 ≤ y ∧ y ≤ 100000
instance (x y : Int) : Decidable (Shf x y) := by unfold Shf; exact inferInstance
def drawR (w h : Int) (p : List Int) (w' h' : Int) (s : List Int) (x y op : Int) : Int × Int × List Int × Int :=
  if ¬ (Val w h p ∧ Val w' h' s) then (0, 0, [], 30) else if op < 0 ∨ op > 4 ∨ ¬ Shf x y then (0, 0, [], 2) else (w, h, tab w h (drawG (pix w h p) w' h' s x y op), 0)
theorem drawG_01 {g : Int → Int → Int} {w' h' : Int} {s : List Int} {x y op : Int} (v : Val w' h' s) (h0 : 0 ≤ op) (h1 : op ≤ 4) {u t : Int} (hg : 0 ≤ g u t ∧ g u t ≤ 1) : 0 ≤ drawG g w' h' s x y op u t ∧ drawG g w' h' s x y op u t ≤ 1 := by
  unfold drawG
  split
  · have b := v.pix01 (u - x) (t - y)
    exact mix_01 h0 h1 hg.1 hg.2 b.1 b.2
  · exact hg

/-- A part of a bitmap. -/
def partG (w h : Int) (p : List Int) (x y : Int) : Int → Int → Int := fun u t => pix w h p (x + u) (y + t)
def cutR (w h : Int) (p : List Int) (x y w' h' : Int) : Int × Int × List Int × Int :=
  if ¬ Val w h p then (0, 0, [], 30) else if w' < 0 ∨ h' < 0 ∨ ¬ Shf x y then (0, 0, [], 2) else if Sid w' h' then (w', h', tab w' h' (partG w h p x y), 0) else (0, 0, [], 4)
theorem part_val {w h : Int} {p : List Int} {x y w' h' : Int} (v : Val w h p) (s : Sid w' h') : Val w' h' (tab w' h' (partG w h p x y)) := val_tab s (fun _ _ _ _ _ _ => v.pix01 _ _)
theorem nil_byt' : Byt [] := fun x hx => by simp at hx
theorem cutR_byt (w h : Int) (p : List Int) (x y w' h' : Int) : Byt (cutR w h p x y w' h').2.2.1 := by
  unfold cutR
  by_cases a : Val w h p
  · rw [if_neg (c := ¬ Val w h p) (fun q => q a)]
    split
    · exact nil_byt'
    · split
      · rename_i s
        exact val_byt (part_val a s)
      · exact nil_byt'
  · rw [if_pos a]
    exact nil_byt'
theorem cutR_ok {w h : Int} {p : List Int} {x y w' h' : Int} (e : (cutR w h p x y w' h').2.2.2 = 0) : Val w h p ∧ Shf x y ∧ Sid w' h' ∧ cutR w h p x y w' h' = (w', h', tab w' h' (partG w h p x y), 0) := by
  unfold cutR at e ⊢
  by_cases a : Val w h p
  · rw [if_neg (c := ¬ Val w h p) (fun q => q a)] at e ⊢
    by_cases b : w' < 0 ∨ h' < 0 ∨ ¬ Shf x y
    · rw [if_pos b] at e
      exact absurd e (by decide)
    · rw [if_neg b] at e ⊢
      by_cases c : Sid w' h'
      · rw [if_pos c]
        exact ⟨a, Classical.not_not.mp (fun q => b (.inr (.inr q))), c, rfl⟩
      · rw [if_neg c] at e
        exact absurd e (by decide)
  · rw [if_pos a] at e
    exact absurd e (by decide)
theorem cutR_all {w h : Int} {p : List Int} (v : Val w h p) : cutR w h p 0 0 w h = (w, h, p, 0) := by
  unfold cutR
  rw [if_neg (c := ¬ Val w h p) (fun q => q v), if_neg (by intro q; rcases q with q | q | q; exact absurd v.1 (by omega); exact absurd v.2.1 (by omega); exact q (by unfold Shf; omega)), if_pos v.sid]
  have e : tab w h (partG w h p 0 0) = p := by
    refine Eq.trans (tab_congr v.1 v.2.1 (fun u t a b c d => ?_)) v.tab.symm
    unfold partG
    rw [Int.zero_add, Int.zero_add]
  rw [e]

def mnv (a b : Int) : Int := if b < a then b else a
def mxv (a b : Int) : Int := if a < b then b else a
/-- The box of the black pixels, one pixel more. -/
def stp (w : Int) (p : List Int) (i : Int) (s : Int × Int × Int × Int) : Int × Int × Int × Int := if rd p i = 1 then (mnv s.1 (i % w), mnv s.2.1 (i / w), mxv s.2.2.1 (i % w), mxv s.2.2.2 (i / w)) else s
def trf (w h : Int) (p : List Int) : Nat → Int × Int × Int × Int
  | 0 => (w, h, -1, -1)
  | n + 1 => stp w p (n : Int) (trf w h p n)
/-- What is known of the box of the first n pixels. -/
def Box (w h : Int) (p : List Int) (n : Nat) (s : Int × Int × Int × Int) : Prop :=
  (s = (w, h, -1, -1) ∧ ∀ i : Int, 0 ≤ i → i < n → rd p i ≠ 1) ∨
  (0 ≤ s.1 ∧ s.1 ≤ s.2.2.1 ∧ s.2.2.1 < w ∧ 0 ≤ s.2.1 ∧ s.2.1 ≤ s.2.2.2 ∧ s.2.2.2 < h ∧ ∀ i : Int, 0 ≤ i → i < n → rd p i = 1 → s.1 ≤ i % w ∧ i % w ≤ s.2.2.1 ∧ s.2.1 ≤ i / w ∧ i / w ≤ s.2.2.2)
theorem trf_box {w h : Int} {p : List Int} (hw : 0 ≤ w) : ∀ n : Nat, (n : Int) ≤ w * h → Box w h p n (trf w h p n)
  | 0, _ => .inl ⟨rfl, fun i a b => by omega⟩
  | n + 1, hn => by
    have ih := trf_box (h := h) (p := p) hw n (by omega)
    obtain ⟨hw', a, b, c, d, _⟩ := flat_of (w := w) (h := h) (i := (n : Int)) hw (by omega) (by omega)
    show Box w h p (n + 1) (stp w p n (trf w h p n))
    unfold stp
    by_cases e : rd p n = 1
    · rw [if_pos e]
      rcases ih with ⟨e1, e2⟩ | ⟨q1, q2, q3, q4, q5, q6, q7⟩
      · right
        rw [e1]
        unfold mnv mxv
        refine ⟨?_, ?_, ?_, ?_, ?_, ?_, ?_⟩
        · show 0 ≤ (if (n : Int) % w < w then (n : Int) % w else w); split <;> omega
        · show (if (n : Int) % w < w then (n : Int) % w else w) ≤ (if -1 < (n : Int) % w then (n : Int) % w else -1); split <;> split <;> omega
        · show (if -1 < (n : Int) % w then (n : Int) % w else -1) < w; split <;> omega
        · show 0 ≤ (if (n : Int) / w < h then (n : Int) / w else h); split <;> omega
        · show (if (n : Int) / w < h then (n : Int) / w else h) ≤ (if -1 < (n : Int) / w then (n : Int) / w else -1); split <;> split <;> omega
        · show (if -1 < (n : Int) / w then (n : Int) / w else -1) < h; split <;> omega
        · intro i i0 i1 hi
          have : i = n := by
            rcases Int.lt_or_le i n with z | z
            · exact absurd hi (e2 i i0 z)
            · omega
          subst this
          refine ⟨?_, ?_, ?_, ?_⟩
          · show (if (n : Int) % w < w then (n : Int) % w else w) ≤ _; split <;> omega
          · show _ ≤ (if -1 < (n : Int) % w then (n : Int) % w else -1); split <;> omega
          · show (if (n : Int) / w < h then (n : Int) / w else h) ≤ _; split <;> omega
          · show _ ≤ (if -1 < (n : Int) / w then (n : Int) / w else -1); split <;> omega
      · right
        generalize trf w h p n = s at q1 q2 q3 q4 q5 q6 q7
        unfold mnv mxv
        refine ⟨?_, ?_, ?_, ?_, ?_, ?_, ?_⟩
        · show 0 ≤ (if (n : Int) % w < s.1 then (n : Int) % w else s.1); split <;> omega
        · show (if (n : Int) % w < s.1 then (n : Int) % w else s.1) ≤ (if s.2.2.1 < (n : Int) % w then (n : Int) % w else s.2.2.1); split <;> split <;> omega
        · show (if s.2.2.1 < (n : Int) % w then (n : Int) % w else s.2.2.1) < w; split <;> omega
        · show 0 ≤ (if (n : Int) / w < s.2.1 then (n : Int) / w else s.2.1); split <;> omega
        · show (if (n : Int) / w < s.2.1 then (n : Int) / w else s.2.1) ≤ (if s.2.2.2 < (n : Int) / w then (n : Int) / w else s.2.2.2); split <;> split <;> omega
        · show (if s.2.2.2 < (n : Int) / w then (n : Int) / w else s.2.2.2) < h; split <;> omega
        · intro i i0 i1 hi
          have hb : i = n ∨ (s.1 ≤ i % w ∧ i % w ≤ s.2.2.1 ∧ s.2.1 ≤ i / w ∧ i / w ≤ s.2.2.2) := by
            rcases Int.lt_or_le i n with z | z
            · exact .inr (q7 i i0 z hi)
            · left; omega
          refine ⟨?_, ?_, ?_, ?_⟩
          · show (if (n : Int) % w < s.1 then (n : Int) % w else s.1) ≤ _
            rcases hb with rfl | hb <;> split <;> omega
          · show _ ≤ (if s.2.2.1 < (n : Int) % w then (n : Int) % w else s.2.2.1)
            rcases hb with rfl | hb <;> split <;> omega
          · show (if (n : Int) / w < s.2.1 then (n : Int) / w else s.2.1) ≤ _
            rcases hb with rfl | hb <;> split <;> omega
          · show _ ≤ (if s.2.2.2 < (n : Int) / w then (n : Int) / w else s.2.2.2)
            rcases hb with rfl | hb <;> split <;> omega
    · rw [if_neg e]
      rcases ih with ⟨e1, e2⟩ | ⟨q1, q2, q3, q4, q5, q6, q7⟩
      · left
        refine ⟨e1, fun i a b hi => ?_⟩
        rcases Int.lt_or_le i n with z | z
        · exact e2 i a z hi
        · have : i = n := by omega
          subst this
          exact e hi
      · right
        refine ⟨q1, q2, q3, q4, q5, q6, fun i a b hi => ?_⟩
        rcases Int.lt_or_le i n with z | z
        · exact q7 i a z hi
        · have : i = n := by omega
          subst this
          exact absurd hi e
/-- The box of all black pixels. -/
def trb (w h : Int) (p : List Int) : Int × Int × Int × Int := trf w h p (w * h).toNat
theorem trb_box {w h : Int} {p : List Int} (hw : 0 ≤ w) (hh : 0 ≤ h) : Box w h p (w * h).toNat (trb w h p) :=
  trf_box hw _ (by have := Int.mul_nonneg hw hh; omega)
def trimT (w h : Int) (p : List Int) (s : Int × Int × Int × Int) : Int × Int × List Int × Int × Int × Int :=
  if s.2.2.1 < 0 then (0, 0, [], 0, 0, 0) else (s.2.2.1 - s.1 + 1, s.2.2.2 - s.2.1 + 1, tab (s.2.2.1 - s.1 + 1) (s.2.2.2 - s.2.1 + 1) (partG w h p s.1 s.2.1), s.1, s.2.1, 0)
def trimR (w h : Int) (p : List Int) : Int × Int × List Int × Int × Int × Int := if Val w h p then trimT w h p (trb w h p) else (0, 0, [], 0, 0, 30)
theorem box_sid {w h : Int} {p : List Int} (s : Sid w h) {n : Nat} {b : Int × Int × Int × Int} (hb : Box w h p n b) (hr : ¬ b.2.2.1 < 0) :
    Sid (b.2.2.1 - b.1 + 1) (b.2.2.2 - b.2.1 + 1) ∧ 0 ≤ b.1 ∧ 0 ≤ b.2.1 ∧ b.1 ≤ 200 ∧ b.2.1 ≤ 200 ∧ b.2.2.1 < w ∧ b.2.2.2 < h ∧ b.1 ≤ b.2.2.1 ∧ b.2.1 ≤ b.2.2.2 := by
  obtain ⟨s1, s2, s3, s4, s5⟩ := s
  rcases hb with ⟨e, _⟩ | ⟨q1, q2, q3, q4, q5, q6, _⟩
  · rw [e] at hr
    exact absurd (by decide : (-1 : Int) < 0) hr
  · have h1 : (b.2.2.1 - b.1 + 1) * (b.2.2.2 - b.2.1 + 1) ≤ w * (b.2.2.2 - b.2.1 + 1) := Int.mul_le_mul_of_nonneg_right (by omega) (by omega)
    have h2 : w * (b.2.2.2 - b.2.1 + 1) ≤ w * h := Int.mul_le_mul_of_nonneg_left (by omega) s1
    exact ⟨⟨by omega, by omega, by omega, by omega, by omega⟩, by omega, by omega, by omega, by omega, by omega, by omega, by omega, by omega⟩
theorem trimR_byt {w h : Int} {p : List Int} : Byt (trimR w h p).2.2.1 := by
  unfold trimR
  by_cases v : Val w h p
  · rw [if_pos v]
    unfold trimT
    by_cases r : (trb w h p).2.2.1 < 0
    · rw [if_pos r]
      exact fun x hx => by simp at hx
    · rw [if_neg r]
      exact val_byt (part_val v (box_sid v.sid (trb_box v.1 v.2.1) r).1)
  · rw [if_neg v]
    exact fun x hx => by simp at hx

theorem fits_is (w h : Int) : bitmap_fits.f w h = some (decide (Sid w h)) := by
  unfold bitmap_fits.f
  by_cases h1 : 0 ≤ w ∧ 0 ≤ h ∧ w ≤ 200 ∧ h ≤ 200
  · obtain ⟨a, b, c, d⟩ := h1
    have := sid_mul a b c d
    rw [if_pos (by omega), if_pos (by omega), if_pos c, if_pos d, w64 (by omega) (by omega)]
    simp [Sid, a, b, c, d]
  · have h2 : ¬ Sid w h := fun s => h1 ⟨s.1, s.2.1, s.2.2.1, s.2.2.2.1⟩
    simp only [h2, decide_false]
    split
    · split
      · split
        · split
          · omega
          · rfl
        · rfl
      · rfl
    · rfl

theorem Valid_l0 (p : List Int) (hl : (p.length : Int) ≤ 9223372036854775807) : EvP (fun k => bitmap_Valid.l0 k p (p.length : Int) 0) (· = decide (∀ x ∈ p, x ≤ 1)) := by
  refine EvP.up (L := fun k i (_ : Unit) => bitmap_Valid.l0 k p (p.length : Int) i) (fun i _ => 0 ≤ i ∧ ∀ j, 0 ≤ j → j < i → rd p j ≤ 1) p.length ?_ 0 () (by omega) ⟨by omega, fun j _ _ => by omega⟩
  intro i _ ⟨h0, hb⟩ hi ih
  refine EvP.step (fun k => by rw [bitmap_Valid.l0]) ?_
  refine EvP.ite (fun h1 => ?_) (fun h1 => ?_)
  · refine EvP.pos h0 (EvP.pos h1 (EvP.ite (fun h2 => EvP.ret ?_) (fun h2 => ?_)))
    · symm
      rw [decide_eq_false_iff_not]
      intro hall
      have := hall _ (rd_mem h0 h1)
      omega
    · rw [w64 (by omega) (by omega)]
      refine ih () h1 ⟨by omega, fun j hj hj' => ?_⟩
      rcases Int.lt_or_le j i with hji | hji
      · exact hb j hj hji
      · have : j = i := by omega
        subst this
        omega
  · refine EvP.ret ?_
    symm
    rw [decide_eq_true_iff]
    intro x hx
    obtain ⟨n, hn, rfl⟩ := List.getElem_of_mem hx
    have := hb (n : Int) (by omega) (by omega)
    rwa [rd_get p n hn] at this
theorem Valid_is (w h : Int) (p : List Int) (hp : ∀ x ∈ p, 0 ≤ x) (hl : (p.length : Int) ≤ 9223372036854775807) : EvP (fun k => bitmap_Valid.f k w h p) (· = decide (Val w h p)) := by
  unfold bitmap_Valid.f
  refine EvP.bindv (fits_is w h) ?_
  refine EvP.ite (fun h1 => ?_) (fun h1 => ?_)
  · rw [decide_eq_true_iff] at h1
    have hm := sid_mul h1.1 h1.2.1 h1.2.2.1 h1.2.2.2.1
    rw [w64 (by omega) (by omega)]
    refine EvP.step (fun k => by rw [bitmap_Valid.j0]) ?_
    refine EvP.ite (fun h2 => EvP.ret ?_) (fun h2 => ?_)
    · symm
      rw [decide_eq_false_iff_not]
      intro v
      simp [v.2.2.2.2.2.1] at h2
    · refine (Valid_l0 p hl).mono ?_
      rintro r rfl
      have e : (p.length : Int) = w * h := by simpa using h2
      apply decide_eq_decide.mpr
      constructor
      · intro hall
        exact ⟨h1.1, h1.2.1, h1.2.2.1, h1.2.2.2.1, h1.2.2.2.2, e, fun x hx => ⟨hp x hx, hall x hx⟩⟩
      · intro v x hx
        exact (v.2.2.2.2.2.2 x hx).2
  · refine EvP.step (fun k => by rw [bitmap_Valid.j0]) ?_
    refine EvP.pos rfl (EvP.ret ?_)
    symm
    rw [decide_eq_false_iff_not]
    intro v
    exact h1 (decide_eq_true v.sid)

theorem at_is {w h : Int} {p : List Int} (v : Val w h p) (x y : Int) : bitmap_at.f w h p x y = some (pix w h p x y) := by
  unfold bitmap_at.f
  by_cases hc : 0 ≤ x ∧ x < w ∧ 0 ≤ y ∧ y < h
  · have hf := flat_lt hc.1 hc.2.1 hc.2.2.1 hc.2.2.2
    have hm := v.2.2.2.2.1
    have hl := v.2.2.2.2.2.1
    rw [if_neg (by omega), if_neg (by omega), if_neg (by omega), if_neg (by omega)]
    have e : wrap64 (y * w) = y * w := w64 (by omega) (by omega)
    rw [e, w64 (by omega) (by omega), if_pos hf.2.1, if_pos (by omega), pix_in hc.1 hc.2.1 hc.2.2.1 hc.2.2.2]
  · rw [pix_out hc]
    by_cases a : x < 0
    · rw [if_pos a]
    rw [if_neg a]
    by_cases b : y < 0
    · rw [if_pos b]
    rw [if_neg b]
    by_cases c : x ≥ w
    · rw [if_pos c]
    rw [if_neg c, if_pos (by omega)]

theorem blank_is (w h : Int) : bitmap_blank.f w h = some (if Sid w h then (w, h, tab w h (fun _ _ => 0), 0) else (0, 0, [], 4)) := by
  unfold bitmap_blank.f
  rw [fits_is, Option.bind_some]
  by_cases s : Sid w h
  · have hm := sid_mul s.1 s.2.1 s.2.2.1 s.2.2.2.1
    rw [if_pos (decide_eq_true s), if_pos s, w64 (by omega) (by omega), if_pos (by omega), if_pos (by omega), replicate_tab s.1 s.2.1]
  · rw [if_neg (by simpa using s), if_neg s]

theorem isShift_is (x y : Int) : bitmap_isShift.f x y = some (decide (Shf x y)) := by
  unfold bitmap_isShift.f mn mx
  by_cases a : Shf x y
  · obtain ⟨b, c, d, e⟩ := a
    rw [if_pos (by split <;> omega)]
    refine congrArg some ?_
    rw [decide_eq_true (show Shf x y from ⟨b, c, d, e⟩), decide_eq_true (by split <;> omega)]
  · rw [decide_eq_false a]
    by_cases q : (if y < x then y else x) ≥ -100000
    · rw [if_pos q]
      refine congrArg some (decide_eq_false (fun r => a ?_))
      refine ⟨?_, ?_, ?_, ?_⟩ <;> (split at q <;> split at r <;> omega)
    · rw [if_neg q]

theorem Cut_is (w h : Int) (p : List Int) (x y w' h' : Int) (hp : ∀ x ∈ p, 0 ≤ x) (hl : (p.length : Int) ≤ 9223372036854775807) : EvP (fun k => bitmap_Cut.f k w h p x y w' h') (· = cutR w h p x y w' h') := by
  unfold bitmap_Cut.f
  refine EvP.bind (Valid_is w h p hp hl) ?_
  rintro _ rfl
  unfold cutR
  refine EvP.ite (fun h1 => ?_) (fun h1 => EvP.ret (by rw [if_pos (by simpa using h1)]))
  have v : Val w h p := by simpa using h1
  rw [if_neg (c := ¬ Val w h p) (fun q => q v)]
  refine EvP.ite (fun a => EvP.ret (by rw [if_pos (.inl a)])) (fun a => ?_)
  refine EvP.ite (fun b => EvP.ret (by rw [if_pos (.inr (.inl b))])) (fun b => ?_)
  refine EvP.bindv (isShift_is x y) ?_
  refine EvP.ite (fun c => ?_) (fun c => EvP.ret (by rw [if_pos (.inr (.inr (by simpa using c)))]))
  have hs : Shf x y := by simpa using c
  rw [if_neg (fun q => q.elim a (fun q => q.elim b (fun q => q hs)))]
  refine EvP.bindv (blank_is w' h') ?_
  by_cases s : Sid w' h'
  · simp only [if_pos s]
    obtain ⟨sx0, sx1, sy0, sy1⟩ := hs
    have hm := sid_mul s.1 s.2.1 s.2.2.1 s.2.2.2.1
    have hlen : ((tab w' h' fun _ _ => (0 : Int)).length : Int) = w' * h' := by rw [tab_length]; omega
    obtain ⟨_, _, w200, h200, _⟩ := s
    refine EvP.fillT (L := fun k i l => bitmap_Cut.l0 k x y w' 0 ((tab w' h' fun _ _ => 0).length : Int) i w h p w' h' l) (by omega) (by omega) (tab w' h' fun _ _ => 0) hlen (partG w h p x y) ?_ ?_
    · intro i l h0 h2 hl hw0 p0 p1 q0 q1 e1 e2 _ _ hk
      refine EvP.step (fun k => by rw [bitmap_Cut.l0]) ?_
      refine EvP.pos h2 (EvP.neg (by omega) ?_)
      rw [e1, e2, w64 (x := i / w') (by omega) (by omega), w64 (x := x + i % w') (by omega) (by omega), w64 (x := y + i / w') (by omega) (by omega)]
      refine EvP.bindv (at_is v _ _) ?_
      refine EvP.pos h0 (EvP.pos (by omega) ?_)
      rw [w64 (by omega) (by omega)]
      exact hk
    · refine EvP.step (fun k => by rw [bitmap_Cut.l0]) ?_
      exact EvP.neg (by omega) (EvP.ret rfl)
  · simp only [if_neg s]
    refine EvP.step (fun k => by rw [bitmap_Cut.l0]) ?_
    exact EvP.neg (by simp) (EvP.ret rfl)

theorem mn_v (a b : Int) : mn a b = mnv a b := rfl
theorem mx_v (a b : Int) : mx a b = mxv a b := rfl
theorem Trim_is (w h : Int) (p : List Int) (hp : ∀ x ∈ p, 0 ≤ x) (hl : (p.length : Int) ≤ 9223372036854775807) : EvP (fun k => bitmap_Trim.f k w h p) (· = trimR w h p) := by
  unfold bitmap_Trim.f trimR
  refine EvP.bind (Valid_is w h p hp hl) ?_
  rintro _ rfl
  refine EvP.ite (fun h1 => ?_) (fun h1 => EvP.ret (by rw [if_neg (by simpa using h1)]))
  have v : Val w h p := by simpa using h1
  rw [if_pos v]
  obtain ⟨hw, hh, w200, h200, hm⟩ := v.sid
  have hlen := v.2.2.2.2.2.1
  have h0 : 0 ≤ w * h := Int.mul_nonneg hw hh
  refine EvP.up (L := fun k i (s : Int × Int × Int × Int) => bitmap_Trim.l0 k s.1 s.2.1 s.2.2.1 s.2.2.2 p (p.length : Int) i w h p) (fun i s => 0 ≤ i ∧ s = trf w h p i.toNat) p.length ?_ 0 (w, h, -1, -1) (by omega) ⟨by omega, rfl⟩
  intro i s ⟨i0, hs⟩ hi ih
  refine EvP.step (fun k => by rw [bitmap_Trim.l0]) ?_
  refine EvP.ite (fun h2 => ?_) (fun h2 => ?_)
  · refine EvP.pos i0 (EvP.pos h2 ?_)
    obtain ⟨hw', a, b, c, d, _⟩ := flat_of (h := h) hw i0 (show i < w * h by omega)
    have es : trf w h p (i + 1).toNat = stp w p i s := by
      rw [show (i + 1).toNat = i.toNat + 1 by omega, hs]
      show stp w p (i.toNat : Int) _ = _
      rw [show ((i.toNat : Nat) : Int) = i by omega]
    refine EvP.ite (fun h3 => ?_) (fun h3 => ?_)
    · refine EvP.neg (by omega) ?_
      rw [tmod_pos i0, tdiv_pos i0, w64 (x := i / w) (by omega) (by omega), w64 (x := i + 1) (by omega) (by omega)]
      refine ih (mnv s.1 (i % w), mnv s.2.1 (i / w), mxv s.2.2.1 (i % w), mxv s.2.2.2 (i / w)) h2 ⟨by omega, ?_⟩
      rw [es]
      unfold stp
      rw [if_pos h3]
    · rw [w64 (x := i + 1) (by omega) (by omega)]
      refine ih s h2 ⟨by omega, ?_⟩
      rw [es]
      unfold stp
      rw [if_neg h3]
  · have e : s = trb w h p := by
      rw [hs]
      unfold trb
      congr 1
      omega
    subst e
    have hb := trb_box (p := p) hw hh
    unfold trimT
    refine EvP.ite (fun r => EvP.ret (by rw [if_pos r])) (fun r => ?_)
    rw [if_neg r]
    obtain ⟨sd, b1, b2, b3, b4, b5, b6, b7, b8⟩ := box_sid v.sid hb r
    rw [w64 (x := (trb w h p).2.2.1 - (trb w h p).1) (by omega) (by omega), w64 (x := (trb w h p).2.2.2 - (trb w h p).2.1) (by omega) (by omega), w64 (x := (trb w h p).2.2.1 - (trb w h p).1 + 1) (by omega) (by omega), w64 (x := (trb w h p).2.2.2 - (trb w h p).2.1 + 1) (by omega) (by omega)]
    refine EvP.bind (Cut_is w h p _ _ _ _ hp hl) ?_
    rintro _ rfl
    refine EvP.ret ?_
    have hs : Shf (trb w h p).1 (trb w h p).2.1 := ⟨by omega, by omega, by omega, by omega⟩
    unfold cutR
    rw [if_neg (c := ¬ Val w h p) (fun q => q v), if_neg (by intro q; rcases q with q | q | q; omega; omega; exact q hs), if_pos sd]

theorem inside_is (w h : Int) (p : List Int) (x y : Int) : incunableref05_inside.f w h p x y = some (decide (0 ≤ x ∧ x < w ∧ 0 ≤ y ∧ y < h)) := by
  unfold incunableref05_inside.f
  by_cases a : x ≥ 0
  · rw [if_pos a]
    by_cases b : y ≥ 0
    · rw [if_pos b]
      by_cases c : x < w
      · rw [if_pos c]
        exact congrArg some (decide_eq_decide.mpr ⟨fun q => by omega, fun q => by omega⟩)
      · rw [if_neg c]
        exact congrArg some (decide_eq_false (by omega)).symm
    · rw [if_neg b]
      exact congrArg some (decide_eq_false (by omega)).symm
  · rw [if_neg a]
    exact congrArg some (decide_eq_false (by omega)).symm

theorem At_is {w h : Int} {p : List Int} (v : Val w h p) (x y : Int) : incunableref05_At.f w h p x y = some (pix w h p x y) := by
  unfold incunableref05_At.f
  rw [inside_is, Option.bind_some]
  by_cases hc : 0 ≤ x ∧ x < w ∧ 0 ≤ y ∧ y < h
  · have hf := flat_lt hc.1 hc.2.1 hc.2.2.1 hc.2.2.2
    have hm := v.2.2.2.2.1
    have hl := v.2.2.2.2.2.1
    have e : wrap64 (y * w) = y * w := w64 (by omega) (by omega)
    have hr := v.2.2.2.2.2.2 _ (rd_mem (l := p) hf.2.1 (by omega))
    rw [if_pos (decide_eq_true hc), e, w64 (by omega) (by omega), if_pos hf.2.1, if_pos (by omega), w64 (by omega) (by omega), pix_in hc.1 hc.2.1 hc.2.2.1 hc.2.2.2]
  · rw [if_neg (by simpa using hc), pix_out hc]

theorem Put_is {w h : Int} {g : Int → Int → Int} {x y v : Int} (hw : 0 ≤ w) (hh : 0 ≤ h) (hm : w * h ≤ 40000) (hx0 : 0 ≤ x) (hx : x < w) (hy0 : 0 ≤ y) (hy : y < h) :
    incunableref05_Put.f w h (tab w h g) x y v = some (tab w h (upd g x y (v % 256))) := by
  have h0 : 0 ≤ w * h := Int.mul_nonneg hw hh
  have hf := flat_lt hx0 hx hy0 hy
  unfold incunableref05_Put.f
  have e : wrap64 (y * w) = y * w := w64 (by omega) (by omega)
  rw [e, w64 (by omega) (by omega), if_pos hf.2.1, if_pos (by rw [tab_length]; omega), set_tab hw hh hx0 hx hy0 hy]

theorem make2_l0 (w h c : Int) (a b : Int) (hw : 0 ≤ w) (hh : 0 ≤ h) (hw' : w ≤ 200) (hh' : h ≤ 200) : EvP (fun k => incunableref05_make2.l0 k w h c 0 a b []) (· = (a, b, List.replicate (w * h).toNat (c % 256))) := by
  have hm := sid_mul hw hh hw' hh'
  refine EvP.up (L := fun k i (s : List Int) => incunableref05_make2.l0 k w h c i a b s) (fun i s => 0 ≤ i ∧ s = List.replicate i.toNat (c % 256)) (w * h) ?_ 0 [] (by omega) ⟨by omega, rfl⟩
  intro i s ⟨h0, hs⟩ hi ih
  subst hs
  refine EvP.step (fun k => by rw [incunableref05_make2.l0]) ?_
  rw [w64 (x := w * h) (by omega) (by omega)]
  refine EvP.ite (fun h1 => ?_) (fun h1 => ?_)
  · refine EvP.pos (by rw [List.length_replicate]; omega) ?_
    rw [w64 (by omega) (by omega)]
    refine ih _ h1 ⟨by omega, ?_⟩
    rw [show (i + 1).toNat = i.toNat + 1 by omega, List.replicate_succ']
  · have : i = w * h := by omega
    subst this
    exact EvP.ret rfl
theorem make2_is (w h c : Int) (hw : 0 ≤ w) (hh : 0 ≤ h) (hw' : w ≤ 200) (hh' : h ≤ 200) : EvP (fun k => incunableref05_make2.f k w h c) (· = (w, h, tab w h (fun _ _ => c % 256))) := by
  unfold incunableref05_make2.f
  refine (make2_l0 w h c w h hw hh hw' hh').mono ?_
  rintro r rfl
  rw [replicate_tab hw hh]

theorem Part_is {w h : Int} {p : List Int} {x y w' h' : Int} (v : Val w h p) (s : 0 ≤ w' ∧ 0 ≤ h' ∧ w' ≤ 200 ∧ h' ≤ 200) (hx : -1000000 ≤ x ∧ x ≤ 1000000) (hy : -1000000 ≤ y ∧ y ≤ 1000000) :
    EvP (fun k => incunableref05_Part.f k w h p x y w' h') (· = (w', h', tab w' h' (partG w h p x y))) := by
  obtain ⟨hw', hh', w200', h200'⟩ := s
  have hm := sid_mul hw' hh' w200' h200'
  unfold incunableref05_Part.f
  refine EvP.bind (make2_is w' h' 0 hw' hh' w200' h200') ?_
  rintro _ rfl
  have e0 : tab w' h' (fun u t => if 0 ≤ u ∧ u < w' ∧ 0 ≤ t ∧ t < h' then partG w h p x y u t else 0 % 256) = tab w' h' (partG w h p x y) := tab_congr hw' hh' (fun u t a b c d => if_pos ⟨a, b, c, d⟩)
  refine EvP.rasterP (L0 := fun k j (l : List Int) => incunableref05_Part.l0 k x y w' h' j w h p w' h' l) (L1 := fun k j i (l : List Int) => incunableref05_Part.l1 k x y w' h' j i w h p w' h' l) (W := w') (H := h')
    (fun i j => i) (fun i j => j) (fun u t => u) (fun u t => t) (fun _ _ => 0 % 256) (partG w h p x y) hw' hh' hw' hh' ?_ ?_ ?_ ?_ ?_ ?_ ?_
  · intro i j a b c d
    exact ⟨rfl, rfl⟩
  · intro u t a b c d e f g' h'
    exact ⟨rfl, rfl⟩
  · intro j l a b hk
    refine EvP.step (fun k => by rw [incunableref05_Part.l0]) ?_
    exact EvP.pos b hk
  · refine EvP.step (fun k => by rw [incunableref05_Part.l0]) ?_
    refine EvP.neg (by omega) (EvP.ret ?_)
    rw [e0]
  · intro i j g' a b c d p0 p1 q0 q1 e hk
    refine EvP.step (fun k => by rw [incunableref05_Part.l1]) ?_
    refine EvP.pos b ?_
    rw [w64 (x := x + i) (by omega) (by omega), w64 (x := y + j) (by omega) (by omega)]
    refine EvP.bindv (At_is v _ _) ?_
    refine EvP.bindv (Put_is hw' hh' (by omega) a b c d) ?_
    have e3 := v.pix01 (x + i) (y + j)
    rw [w64 (x := i + 1) (by omega) (by omega), show pix w h p (x + i) (y + j) % 256 = pix w h p (x + i) (y + j) by omega]
    exact hk
  · intro i j g' a b c d q hk
    exact absurd ⟨a, b, c, d⟩ q
  · intro j l a b hk
    refine EvP.step (fun k => by rw [incunableref05_Part.l1]) ?_
    refine EvP.neg (by omega) ?_
    rw [w64 (x := j + 1) (by omega) (by omega)]
    exact hk

theorem Sides_is (w h : Int) : incunableref05_Sides.f w h = some (decide (Sid w h)) := by
  unfold incunableref05_Sides.f
  by_cases h1 : 0 ≤ w ∧ 0 ≤ h ∧ w ≤ 200 ∧ h ≤ 200
  · obtain ⟨a, b, c, d⟩ := h1
    have := sid_mul a b c d
    rw [if_pos (by omega), if_pos (by omega), if_pos c, if_pos d, w64 (by omega) (by omega)]
    simp [Sid, a, b, c, d]
  · have h2 : ¬ Sid w h := fun s => h1 ⟨s.1, s.2.1, s.2.2.1, s.2.2.2.1⟩
    simp only [h2, decide_false]
    split
    · split
      · split
        · split
          · omega
          · rfl
        · rfl
      · rfl
    · rfl

theorem refValid_l0 (w h : Int) (p : List Int) (hl : (p.length : Int) ≤ 9223372036854775807) : EvP (fun k => incunableref05_Valid.l0 k 0 w h p) (· = decide (∀ x ∈ p, x ≤ 1)) := by
  refine EvP.up (L := fun k i (_ : Unit) => incunableref05_Valid.l0 k i w h p) (fun i _ => 0 ≤ i ∧ ∀ j, 0 ≤ j → j < i → rd p j ≤ 1) p.length ?_ 0 () (by omega) ⟨by omega, fun j _ _ => by omega⟩
  intro i _ ⟨h0, hb⟩ hi ih
  refine EvP.step (fun k => by rw [incunableref05_Valid.l0]) ?_
  refine EvP.ite (fun h1 => ?_) (fun h1 => ?_)
  · refine EvP.pos h0 (EvP.ite (fun h2 => EvP.ret ?_) (fun h2 => ?_))
    · symm
      rw [decide_eq_false_iff_not]
      intro hall
      have := hall _ (rd_mem h0 h1)
      omega
    · rw [w64 (by omega) (by omega)]
      refine ih () h1 ⟨by omega, fun j hj hj' => ?_⟩
      rcases Int.lt_or_le j i with hji | hji
      · exact hb j hj hji
      · have : j = i := by omega
        subst this
        omega
  · refine EvP.ret ?_
    symm
    rw [decide_eq_true_iff]
    intro x hx
    obtain ⟨n, hn, rfl⟩ := List.getElem_of_mem hx
    have := hb (n : Int) (by omega) (by omega)
    rwa [rd_get p n hn] at this
theorem refValid_is (w h : Int) (p : List Int) (hp : ∀ x ∈ p, 0 ≤ x) (hl : (p.length : Int) ≤ 9223372036854775807) : EvP (fun k => incunableref05_Valid.f k w h p) (· = decide (Val w h p)) := by
  unfold incunableref05_Valid.f
  refine EvP.bindv (Sides_is w h) ?_
  refine EvP.ite (fun h1 => ?_) (fun h1 => ?_)
  · rw [decide_eq_true_iff] at h1
    have hm := sid_mul h1.1 h1.2.1 h1.2.2.1 h1.2.2.2.1
    rw [w64 (by omega) (by omega)]
    refine EvP.step (fun k => by rw [incunableref05_Valid.j0]) ?_
    refine EvP.ite (fun h2 => EvP.ret ?_) (fun h2 => ?_)
    · symm
      rw [decide_eq_false_iff_not]
      intro v
      simp [v.2.2.2.2.2.1] at h2
    · refine (refValid_l0 w h p hl).mono ?_
      rintro r rfl
      have e : (p.length : Int) = w * h := by simpa using h2
      apply decide_eq_decide.mpr
      constructor
      · intro hall
        exact ⟨h1.1, h1.2.1, h1.2.2.1, h1.2.2.2.1, h1.2.2.2.2, e, fun x hx => ⟨hp x hx, hall x hx⟩⟩
      · intro v x hx
        exact (v.2.2.2.2.2.2 x hx).2
  · refine EvP.step (fun k => by rw [incunableref05_Valid.j0]) ?_
    refine EvP.pos rfl (EvP.ret ?_)
    symm
    rw [decide_eq_false_iff_not]
    intro v
    exact h1 (decide_eq_true v.sid)

theorem refTrim_is (w h : Int) (p : List Int) (hp : ∀ x ∈ p, 0 ≤ x) (hl : (p.length : Int) ≤ 9223372036854775807) : EvP (fun k => incunableref05_Trim.f k w h p) (· = trimR w h p) := by
  unfold incunableref05_Trim.f trimR
  refine EvP.bind (refValid_is w h p hp hl) ?_
  rintro _ rfl
  refine EvP.ite (fun h1 => ?_) (fun h1 => EvP.ret (by rw [if_neg (by simpa using h1)]))
  have v : Val w h p := by simpa using h1
  rw [if_pos v]
  obtain ⟨hw, hh, w200, h200, hm⟩ := v.sid
  have hlen := v.2.2.2.2.2.1
  have h0 : 0 ≤ w * h := Int.mul_nonneg hw hh
  refine EvP.raster (L0 := fun k y (s : Int × Int × Int × Int) => incunableref05_Trim.l0 k s.1 s.2.1 s.2.2.1 s.2.2.2 y w h p) (L1 := fun k y x (s : Int × Int × Int × Int) => incunableref05_Trim.l1 k s.1 s.2.1 s.2.2.1 s.2.2.2 y x w h p)
    (fun y x s => s = trf w h p (y * w + x).toNat) w h hw hh ?_ ?_ ?_ ?_ (w, h, -1, -1) (by rw [Int.zero_mul]; rfl)
  · intro y s a b _ hk
    refine EvP.step (fun k => by rw [incunableref05_Trim.l0]) ?_
    exact EvP.pos b hk
  · intro s hs
    have e : s = trb w h p := by
      rw [hs]
      unfold trb
      congr 1
      rw [Int.mul_comm w h]
      omega
    subst e
    have hb := trb_box (p := p) hw hh
    refine EvP.step (fun k => by rw [incunableref05_Trim.l0]) ?_
    refine EvP.neg (by omega) ?_
    unfold trimT
    refine EvP.ite (fun r => EvP.ret (by rw [if_pos r])) (fun r => ?_)
    rw [if_neg r]
    obtain ⟨sd, b1, b2, b3, b4, b5, b6, b7, b8⟩ := box_sid v.sid hb r
    rw [w64 (x := (trb w h p).2.2.1 - (trb w h p).1) (by omega) (by omega), w64 (x := (trb w h p).2.2.2 - (trb w h p).2.1) (by omega) (by omega), w64 (x := (trb w h p).2.2.1 - (trb w h p).1 + 1) (by omega) (by omega), w64 (x := (trb w h p).2.2.2 - (trb w h p).2.1 + 1) (by omega) (by omega)]
    refine EvP.bind (Part_is v ⟨sd.1, sd.2.1, sd.2.2.1, sd.2.2.2.1⟩ (by omega) (by omega)) ?_
    rintro _ rfl
    exact EvP.ret rfl
  · intro y x s a b c d hs
    have hf := flat_lt c d a b
    have es : trf w h p (y * w + (x + 1)).toNat = stp w p (y * w + x) s := by
      rw [show (y * w + (x + 1)).toNat = (y * w + x).toNat + 1 by omega, hs]
      show stp w p ((y * w + x).toNat : Int) _ = _
      rw [show (((y * w + x).toNat : Nat) : Int) = y * w + x by omega]
    have ep : pix w h p x y = rd p (y * w + x) := pix_in c d a b
    refine ⟨stp w p (y * w + x) s, es.symm, fun hk => ?_⟩
    refine EvP.step (fun k => by rw [incunableref05_Trim.l1]) ?_
    refine EvP.pos d ?_
    refine EvP.bindv (At_is v x y) ?_
    rw [ep, w64 (x := x + 1) (by omega) (by omega)]
    unfold stp at hk
    refine EvP.ite (fun r => ?_) (fun r => ?_)
    · rw [if_pos r, flat_mod c d, flat_div c d] at hk
      exact hk
    · rw [if_neg r] at hk
      exact hk
  · intro y s a b hs
    refine ⟨?_, fun hk => ?_⟩
    · rw [hs]
      congr 1
      rw [Int.add_mul]
      omega
    · refine EvP.step (fun k => by rw [incunableref05_Trim.l1]) ?_
      refine EvP.neg (by omega) ?_
      rw [w64 (x := y + 1) (by omega) (by omega)]
      exact hk

/-- What New returns. -/
def newR (w h c : Int) : Int × Int × List Int × Int := if w < 0 ∨ h < 0 ∨ (c ≠ 0 ∧ c ≠ 1) then (0, 0, [], 2) else if Sid w h then (w, h, tab w h (fun _ _ => c), 0) else (0, 0, [], 4)
theorem New_j0 (w h c : Int) (b : Bool) (hb : b = true ↔ (w < 0 ∨ h < 0 ∨ (c ≠ 0 ∧ c ≠ 1))) : EvP (fun k => bitmap_New.j0 k w h c b) (· = newR w h c) := by
  refine EvP.step (fun k => by rw [bitmap_New.j0]) ?_
  refine EvP.ite (fun h1 => EvP.ret ?_) (fun h1 => ?_)
  · unfold newR
    rw [if_pos (hb.mp h1)]
  · have hn : ¬ (w < 0 ∨ h < 0 ∨ (c ≠ 0 ∧ c ≠ 1)) := fun q => h1 (hb.mpr q)
    unfold newR
    rw [if_neg hn]
    refine EvP.bindv (blank_is w h) ?_
    by_cases s : Sid w h
    · simp only [if_pos s]
      have hm := sid_mul s.1 s.2.1 s.2.2.1 s.2.2.2.1
      have hlen : ((tab w h fun _ _ => (0 : Int)).length : Int) = w * h := by rw [tab_length]; omega
      refine EvP.fill (L := fun k i l => bitmap_New.l0 k c 0 ((tab w h fun _ _ => 0).length : Int) i w h l) (tab w h fun _ _ => 0) (fun _ => c) ?_ ?_
      · intro i l h0 h2 hl hr hk
        refine EvP.step (fun k => by rw [bitmap_New.l0]) ?_
        refine EvP.pos h2 (EvP.pos h0 (EvP.pos (by omega) ?_))
        rw [w64 (by omega) (by omega), show c % 256 = c by omega]
        exact hk
      · refine EvP.step (fun k => by rw [bitmap_New.l0]) ?_
        refine EvP.neg (by omega) (EvP.ret ?_)
        rw [lmap_tab (w := w) (h := h) (g := fun _ _ => c) s.1 s.2.1 (by omega) (fun _ _ _ _ _ _ => rfl)]
    · simp only [if_neg s]
      refine EvP.step (fun k => by rw [bitmap_New.l0]) ?_
      exact EvP.neg (by simp) (EvP.ret rfl)
theorem New_is (w h c : Int) : EvP (fun k => bitmap_New.f k w h c) (· = newR w h c) := by
  unfold bitmap_New.f
  refine EvP.ite (fun h1 => New_j0 w h c true (by simp [h1])) (fun h1 => ?_)
  refine EvP.ite (fun h2 => New_j0 w h c true (by simp [h2])) (fun h2 => ?_)
  refine EvP.ite (fun h3 => New_j0 w h c _ (by simp; omega)) (fun h3 => New_j0 w h c _ (by simp; omega))

theorem combine_is {op a b : Int} (h0 : 0 ≤ op) (h1 : op ≤ 4) (a0 : 0 ≤ a) (a1 : a ≤ 1) (b0 : 0 ≤ b) (b1 : b ≤ 1) : bitmap_combine.f a b op = some (mixv op a b) := by
  rcases five h0 h1 with rfl | rfl | rfl | rfl | rfl <;> rcases bit a0 a1 with rfl | rfl <;> rcases bit b0 b1 with rfl | rfl <;> decide +kernel

theorem clone_is (w h : Int) (p : List Int) (hl : p.length < 140737488355328) : bitmap_clone.f w h p = some (w, h, p) := by
  unfold bitmap_clone.f bytes_Clone.f
  simp only [Option.bind_some, List.length_nil, Nat.zero_add, List.nil_append]
  rw [if_pos hl]
  rfl

theorem Draw_l0 {w h : Int} {p : List Int} {w' h' : Int} {s : List Int} {x y op : Int} (v : Val w h p) (v' : Val w' h' s) (h0 : 0 ≤ op) (h1 : op ≤ 4) (hs : Shf x y) :
    EvP (fun k => bitmap_Draw.l0 k x y op h' 0 w h p w' h' s w h p) (· = (w, h, tab w h (drawG (pix w h p) w' h' s x y op), 0)) := by
  obtain ⟨hw, hh, w200, h200, hm⟩ := v.sid
  obtain ⟨hw', hh', w200', h200', _⟩ := v'.sid
  obtain ⟨sx0, sx1, sy0, sy1⟩ := hs
  have h00 : 0 ≤ w * h := Int.mul_nonneg hw hh
  have ep : EvP (fun k => bitmap_Draw.l0 k x y op h' 0 w h p w' h' s w h (tab w h (pix w h p))) (· = (w, h, tab w h (drawG (pix w h p) w' h' s x y op), 0)) := by
    refine EvP.rasterP (L0 := fun k j (l : List Int) => bitmap_Draw.l0 k x y op h' j w h p w' h' s w h l) (L1 := fun k j i (l : List Int) => bitmap_Draw.l1 k x y op j h' j w' i w h p w' h' s w h l) (W := w') (H := h')
      (fun i j => x + i) (fun i j => y + j) (fun u t => u - x) (fun u t => t - y) (pix w h p) (fun u t => mixv op (pix w h p u t) (pix w' h' s (u - x) (t - y))) hw' hh' hw hh ?_ ?_ ?_ ?_ ?_ ?_ ?_
    · intro i j a b c d
      exact ⟨by show x + i - x = i; omega, by show y + j - y = j; omega⟩
    · intro u t a b c d e f g' h'
      exact ⟨by show x + (u - x) = u; omega, by show y + (t - y) = t; omega⟩
    · intro j l a b hk
      refine EvP.step (fun k => by rw [bitmap_Draw.l0]) ?_
      exact EvP.pos b hk
    · refine EvP.step (fun k => by rw [bitmap_Draw.l0]) ?_
      exact EvP.neg (by omega) (EvP.ret rfl)
    · intro i j g' a b c d p0 p1 q0 q1 e hk
      have p0 : 0 ≤ x + i := p0
      have p1 : x + i < w := p1
      have q0 : 0 ≤ y + j := q0
      have q1 : y + j < h := q1
      have e1 := v.pix01 (x + i) (y + j)
      have hf := flat_lt p0 p1 q0 q1
      refine EvP.step (fun k => by rw [bitmap_Draw.l1]) ?_
      refine EvP.pos b ?_
      rw [w64 (x := x + i) (by omega) (by omega), w64 (x := y + j) (by omega) (by omega)]
      refine EvP.pos p0 (EvP.pos q0 (EvP.pos p1 ?_))
      refine EvP.step (fun k => by rw [bitmap_Draw.j3]) ?_
      refine EvP.pos (decide_eq_true q1) ?_
      rw [w64 (x := (y + j) * w) (by omega) (by omega), w64 (x := (y + j) * w + (x + i)) (by omega) (by omega)]
      refine EvP.pos hf.2.1 (EvP.pos (by rw [tab_length]; omega) ?_)
      refine EvP.bindv (at_is v' i j) ?_
      have e2 : g' (x + i) (y + j) = pix w h p (x + i) (y + j) := e
      rw [rd_tab_at _ _ _ _ _ p0 p1 q0 q1, e2]
      have e3 := v'.pix01 i j
      refine EvP.bindv (combine_is h0 h1 e1.1 e1.2 e3.1 e3.2) ?_
      rw [set_tab hw hh p0 p1 q0 q1, w64 (x := i + 1) (by omega) (by omega)]
      have e5 : x + i - x = i := by omega
      have e6 : y + j - y = j := by omega
      simp only [e5, e6] at hk
      exact hk
    · intro i j g' a b c d q hk
      have q : ¬ (0 ≤ x + i ∧ x + i < w ∧ 0 ≤ y + j ∧ y + j < h) := q
      have skip : EvP (fun k => bitmap_Draw.j3 k x y op j i (x + i) (y + j) h' j w' i false w h p w' h' s w h (tab w h g')) (· = (w, h, tab w h (drawG (pix w h p) w' h' s x y op), 0)) := by
        refine EvP.step (fun k => by rw [bitmap_Draw.j3]) ?_
        refine EvP.neg (by simp) ?_
        rw [w64 (x := i + 1) (by omega) (by omega)]
        exact hk
      refine EvP.step (fun k => by rw [bitmap_Draw.l1]) ?_
      refine EvP.pos b ?_
      rw [w64 (x := x + i) (by omega) (by omega), w64 (x := y + j) (by omega) (by omega)]
      refine EvP.ite (fun q1 => EvP.ite (fun q2 => EvP.ite (fun q3 => ?_) (fun q3 => skip)) (fun q2 => skip)) (fun q1 => skip)
      rw [decide_eq_false (show ¬ y + j < h by omega)]
      exact skip
    · intro j l a b hk
      refine EvP.step (fun k => by rw [bitmap_Draw.l1]) ?_
      refine EvP.neg (by omega) ?_
      rw [w64 (x := j + 1) (by omega) (by omega)]
      exact hk
  rw [← v.tab] at ep
  exact ep
theorem Draw_is (w h : Int) (p : List Int) (w' h' : Int) (s : List Int) (x y op : Int) (hp : ∀ x ∈ p, 0 ≤ x) (hl : (p.length : Int) ≤ 9223372036854775807) (hp' : ∀ x ∈ s, 0 ≤ x) (hl' : (s.length : Int) ≤ 9223372036854775807) :
    EvP (fun k => bitmap_Draw.f k w h p w' h' s x y op) (· = drawR w h p w' h' s x y op) := by
  unfold bitmap_Draw.f
  refine EvP.bind (Valid_is w h p hp hl) ?_
  rintro _ rfl
  refine EvP.ite (fun h1 => ?_) (fun h1 => ?_)
  · refine EvP.bind (Valid_is w' h' s hp' hl') ?_
    rintro _ rfl
    have v : Val w h p := by simpa using h1
    refine EvP.step (fun k => by rw [bitmap_Draw.j0]) ?_
    refine EvP.ite (fun h2 => EvP.ret ?_) (fun h2 => ?_)
    · unfold drawR
      rw [if_pos (fun q => by simp [q.2] at h2)]
    · have v' : Val w' h' s := by simpa using h2
      have hlen : (p.length : Int) ≤ 8192 := by rw [v.2.2.2.2.2.1]; exact v.2.2.2.2.1
      unfold drawR
      rw [if_neg (c := ¬ (Val w h p ∧ Val w' h' s)) (fun q => q ⟨v, v'⟩)]
      refine EvP.ite (fun a => EvP.ret (by rw [if_pos (.inl a)])) (fun a => ?_)
      refine EvP.ite (fun b => EvP.ret (by rw [if_pos (.inr (.inl b))])) (fun b => ?_)
      refine EvP.bindv (isShift_is x y) ?_
      refine EvP.ite (fun c => ?_) (fun c => EvP.ret (by rw [if_pos (.inr (.inr (by simpa using c)))]))
      have hs : Shf x y := by simpa using c
      rw [if_neg (fun q => q.elim a (fun q => q.elim b (fun q => q hs)))]
      refine EvP.bindv (clone_is w h p (by omega)) ?_
      exact Draw_l0 v v' (by omega) (by omega) hs
  · have v : ¬ Val w h p := by simpa using h1
    refine EvP.step (fun k => by rw [bitmap_Draw.j0]) ?_
    refine EvP.pos rfl (EvP.ret ?_)
    unfold drawR
    rw [if_pos (fun q => v q.1)]

theorem nil_byt : Byt [] := fun x hx => by simp at hx
theorem drawR_val {w h : Int} {p : List Int} {w' h' : Int} {s : List Int} {x y op : Int} (e : (drawR w h p w' h' s x y op).2.2.2 = 0) :
    Val w h p ∧ Val w' h' s ∧ 0 ≤ op ∧ op ≤ 4 ∧ Shf x y ∧ drawR w h p w' h' s x y op = (w, h, tab w h (drawG (pix w h p) w' h' s x y op), 0) := by
  unfold drawR at e ⊢
  by_cases a : ¬ (Val w h p ∧ Val w' h' s)
  · rw [if_pos a] at e
    exact absurd e (by decide)
  · rw [if_neg a] at e ⊢
    by_cases b : op < 0 ∨ op > 4 ∨ ¬ Shf x y
    · rw [if_pos b] at e
      exact absurd e (by decide)
    · rw [if_neg b]
      have a := Classical.not_not.mp a
      exact ⟨a.1, a.2, by omega, by omega, Classical.not_not.mp (fun q => b (.inr (.inr q))), rfl⟩
theorem drawG_val {w h : Int} {p : List Int} {w' h' : Int} {s : List Int} {x y op : Int} (v : Val w h p) (v' : Val w' h' s) (h0 : 0 ≤ op) (h1 : op ≤ 4) : Val w h (tab w h (drawG (pix w h p) w' h' s x y op)) :=
  val_tab v.sid (fun u t _ _ _ _ => drawG_01 v' h0 h1 (v.pix01 u t))
theorem drawR_byt (w h : Int) (p : List Int) (w' h' : Int) (s : List Int) (x y op : Int) : Byt (drawR w h p w' h' s x y op).2.2.1 := by
  by_cases e : (drawR w h p w' h' s x y op).2.2.2 = 0
  · obtain ⟨v, v', h0, h1, _, q⟩ := drawR_val e
    rw [q]
    exact val_byt (drawG_val v v' h0 h1)
  · unfold drawR at e ⊢
    by_cases a : ¬ (Val w h p ∧ Val w' h' s)
    · rw [if_pos a]
      exact nil_byt
    · rw [if_neg a] at e ⊢
      by_cases b : op < 0 ∨ op > 4 ∨ ¬ Shf x y
      · rw [if_pos b]
        exact nil_byt
      · rw [if_neg b] at e
        exact absurd rfl e

theorem q4 (q : Int) (h0 : -9223372036854775808 ≤ q) (h1 : q ≤ 9223372036854775807) : Int.tmod (wrap64 (Int.tmod q 4 + 4)) 4 = q % 4 := by
  rcases Int.lt_or_le q 0 with h | h
  · have e : Int.tmod q 4 = -((-q) % 4) := by
      rw [show q = -(-q) by omega, Int.neg_tmod, tmod_pos (by omega)]
      omega
    rw [e, w64 (by omega) (by omega), tmod_pos (by omega)]
    omega
  · rw [tmod_pos h, w64 (by omega) (by omega), tmod_pos (by omega)]
    omega
/-- One quarter. -/
def t1 (b : Int × Int × List Int) : Int × Int × List Int := (b.2.1, b.1, tab b.2.1 b.1 (fun x y => pix b.1 b.2.1 b.2.2 y (b.2.1 - 1 - x)))
def turnR : Nat → Int × Int × List Int → Int × Int × List Int
  | 0, b => b
  | n + 1, b => turnR n (t1 b)
theorem sid_swap {w h : Int} (s : Sid w h) : Sid h w := ⟨s.2.1, s.1, s.2.2.2.1, s.2.2.1, by rw [Int.mul_comm]; exact s.2.2.2.2⟩
theorem val_t1 {w h : Int} {p : List Int} (v : Val w h p) : Val (t1 (w, h, p)).1 (t1 (w, h, p)).2.1 (t1 (w, h, p)).2.2 :=
  val_tab (g := fun x y => pix w h p y (h - 1 - x)) (sid_swap v.sid) (fun _ _ _ _ _ _ => v.pix01 _ _)
theorem Turn_l1 {P : Int × Int × List Int × Int → Prop} {w h : Int} {p : List Int} (v : Val w h p) (n i : Int)
    (hk : EvP (fun k => bitmap_Turn.l0 k n (wrap64 (i + 1)) h w (tab h w (fun x y => pix w h p y (h - 1 - x)))) P) :
    EvP (fun k => bitmap_Turn.l1 k n i ((List.replicate p.length (0 : Int)).length : Int) 0 w h p h w (List.replicate p.length 0)) P := by
  have hl : ((List.replicate p.length (0 : Int)).length : Int) = h * w := by rw [List.length_replicate, v.2.2.2.2.2.1, Int.mul_comm]
  have hm := v.2.2.2.2.1
  have hm2 : h * w = w * h := Int.mul_comm h w
  refine EvP.fillT (L := fun k j s => bitmap_Turn.l1 k n i ((List.replicate p.length (0 : Int)).length : Int) j w h p h w s) v.2.1 v.1 (List.replicate p.length 0) hl (fun x y => pix w h p y (h - 1 - x)) ?_ ?_
  · intro j s h0 h1 hs hw a b c d e f _ _ hk
    obtain ⟨_, _, h200, h200', _⟩ := v.sid
    refine EvP.step (fun k => by rw [bitmap_Turn.l1]) ?_
    refine EvP.pos h1 (EvP.neg (by omega) ?_)
    rw [e, f, w64 (x := j / h) (by omega) (by omega), w64 (x := h - 1) (by omega) (by omega), w64 (by omega) (by omega)]
    refine EvP.bindv (at_is v _ _) ?_
    refine EvP.pos h0 (EvP.pos (by omega) ?_)
    rw [w64 (by omega) (by omega)]
    exact hk
  · refine EvP.step (fun k => by rw [bitmap_Turn.l1]) ?_
    exact EvP.neg (by omega) hk
theorem Turn_l0 (n : Int) (hn : n ≤ 4) : ∀ (d : Nat) (i w h : Int) (p : List Int), Val w h p → 0 ≤ i → i ≤ n → (n - i).toNat = d →
    EvP (fun k => bitmap_Turn.l0 k n i w h p) (· = ((turnR d (w, h, p)).1, (turnR d (w, h, p)).2.1, (turnR d (w, h, p)).2.2, 0)) := by
  intro d
  induction d with
  | zero =>
    intro i w h p v h0 h1 hd
    refine EvP.step (fun k => by rw [bitmap_Turn.l0]) ?_
    exact EvP.neg (by omega) (EvP.ret rfl)
  | succ d ih =>
    intro i w h p v h0 h1 hd
    have hlen : (p.length : Int) ≤ 8192 := by rw [v.2.2.2.2.2.1]; exact v.2.2.2.2.1
    refine EvP.step (fun k => by rw [bitmap_Turn.l0]) ?_
    refine EvP.pos (by omega) (EvP.pos (by omega) (EvP.pos (by omega) ?_))
    refine EvP.bindv rfl ?_
    rw [Int.toNat_natCast]
    refine Turn_l1 v n i ?_
    rw [w64 (by omega) (by omega)]
    exact ih (i + 1) h w _ (val_t1 v) (by omega) (by omega) (by omega)
/-- What Turn returns. -/
def turnQ (w h : Int) (p : List Int) (q : Int) : Int × Int × List Int := turnR (q % 4).toNat (w, h, p)
theorem Turn_is {w h : Int} {p : List Int} (v : Val w h p) (q : Int) (h0 : -9223372036854775808 ≤ q) (h1 : q ≤ 9223372036854775807) :
    EvP (fun k => bitmap_Turn.f k w h p q) (· = ((turnQ w h p q).1, (turnQ w h p q).2.1, (turnQ w h p q).2.2, 0)) := by
  have hlen : (p.length : Int) ≤ 8192 := by rw [v.2.2.2.2.2.1]; exact v.2.2.2.2.1
  unfold bitmap_Turn.f
  refine EvP.bind (Valid_is w h p (fun x hx => (v.2.2.2.2.2.2 x hx).1) (by omega)) ?_
  rintro _ rfl
  refine EvP.pos (decide_eq_true v) ?_
  refine EvP.bindv (clone_is w h p (by omega)) ?_
  rw [q4 q h0 h1]
  exact Turn_l0 (q % 4) (by omega) _ 0 w h p v (by omega) (by omega) (by omega)
theorem Turn_bad {w h : Int} {p : List Int} (v : ¬ Val w h p) (hp : ∀ x ∈ p, 0 ≤ x) (hl : (p.length : Int) ≤ 9223372036854775807) (q : Int) : EvP (fun k => bitmap_Turn.f k w h p q) (· = (0, 0, [], 30)) := by
  unfold bitmap_Turn.f
  refine EvP.bind (Valid_is w h p hp hl) ?_
  rintro _ rfl
  exact EvP.neg (by simpa using v) (EvP.ret rfl)

theorem Sane_is : EvP (fun k => incunablelaw05_Sane.f k) (· = true) := by
  unfold incunablelaw05_Sane.f
  refine EvP.bind (Turn_is (w := 2) (h := 1) (p := [1, 0]) (by unfold Val; decide) 1 (by omega) (by omega)) ?_
  rintro _ rfl
  refine EvP.pos rfl ?_
  refine EvP.bindv (refSame_is _ _ _ _ _ _ ?_ ?_) (EvP.ret ?_)
  · unfold Byt
    decide
  · unfold Byt
    decide
  · decide

theorem Huge_is (w h : Int) (p : List Int) : incunablelaw05_Huge.f w h p = some (decide ((p.length : Int) > 20000)) := rfl

theorem trim_draw {w h : Int} {p : List Int} (v : Val w h p) : drawR w h (tab w h (fun _ _ => 0)) (trimT w h p (trb w h p)).1 (trimT w h p (trb w h p)).2.1 (trimT w h p (trb w h p)).2.2.1 (trimT w h p (trb w h p)).2.2.2.1 (trimT w h p (trb w h p)).2.2.2.2.1 1 = (w, h, p, 0) ∧ Byt (trimT w h p (trb w h p)).2.2.1 ∧ ((trimT w h p (trb w h p)).2.2.1.length : Int) ≤ 8192 := by
  have hb := trb_box (p := p) v.1 v.2.1
  have v0 : Val w h (tab w h (fun _ _ => 0)) := val_tab (g := fun _ _ => 0) v.sid (fun _ _ _ _ _ _ => by omega)
  have hlen := v.2.2.2.2.2.1
  have h0 : 0 ≤ w * h := Int.mul_nonneg v.1 v.2.1
  unfold trimT
  by_cases r : (trb w h p).2.2.1 < 0
  · rw [if_pos r]
    refine ⟨?_, fun x hx => by simp at hx, by simp⟩
    have ve : Val 0 0 [] := by unfold Val; simp
    unfold drawR
    rw [if_neg (c := ¬ (Val w h (tab w h (fun _ _ => 0)) ∧ Val 0 0 [])) (fun q => q ⟨v0, ve⟩), if_neg (by intro x; rcases x with x | x | x; omega; omega; exact x (show Shf 0 0 by unfold Shf; omega))]
    have e : tab w h (drawG (pix w h (tab w h (fun _ _ => 0))) 0 0 [] 0 0 1) = p := by
      refine Eq.trans (tab_congr v.1 v.2.1 (fun x y a b c d => ?_)) v.tab.symm
      unfold drawG
      rw [if_neg (by omega), pix_tab, if_pos ⟨a, b, c, d⟩]
      have hf := flat_lt a b c d
      have b1 := v.pix01 x y
      rcases hb with ⟨_, e2⟩ | ⟨q1, q2, _⟩
      · have := e2 (y * w + x) hf.2.1 (by omega)
        rw [← pix_in a b c d] at this
        omega
      · omega
    exact congrArg (fun l => (w, h, l, (0 : Int))) e
  · rw [if_neg r]
    obtain ⟨sd, b1, b2, b3, b4, b5, b6, b7, b8⟩ := box_sid v.sid hb r
    have vp := part_val (x := (trb w h p).1) (y := (trb w h p).2.1) v sd
    refine ⟨?_, val_byt vp, by show ((tab _ _ _).length : Int) ≤ _; have e1 := vp.2.2.2.2.2.1; have e2 := vp.2.2.2.2.1; omega⟩
    generalize hB : trb w h p = B at hb b1 b2 b3 b4 b5 b6 b7 b8 vp sd r
    have hs : Shf B.1 B.2.1 := ⟨by omega, by omega, by omega, by omega⟩
    show drawR w h (tab w h (fun _ _ => 0)) (B.2.2.1 - B.1 + 1) (B.2.2.2 - B.2.1 + 1) (tab (B.2.2.1 - B.1 + 1) (B.2.2.2 - B.2.1 + 1) (partG w h p B.1 B.2.1)) B.1 B.2.1 1 = (w, h, p, 0)
    unfold drawR
    rw [if_neg (c := ¬ (Val w h (tab w h (fun _ _ => 0)) ∧ _)) (fun q => q ⟨v0, vp⟩), if_neg (by intro x; rcases x with x | x | x; omega; omega; exact x hs)]
    have e : tab w h (drawG (pix w h (tab w h (fun _ _ => 0))) (B.2.2.1 - B.1 + 1) (B.2.2.2 - B.2.1 + 1) (tab (B.2.2.1 - B.1 + 1) (B.2.2.2 - B.2.1 + 1) (partG w h p B.1 B.2.1)) B.1 B.2.1 1) = p := by
      refine Eq.trans (tab_congr v.1 v.2.1 (fun x y a b c d => ?_)) v.tab.symm
      unfold drawG
      have hf := flat_lt a b c d
      have p1 := v.pix01 x y
      by_cases q : 0 ≤ x - B.1 ∧ x - B.1 < B.2.2.1 - B.1 + 1 ∧ 0 ≤ y - B.2.1 ∧ y - B.2.1 < B.2.2.2 - B.2.1 + 1
      · rw [if_pos q, pix_tab, if_pos ⟨a, b, c, d⟩, pix_tab, if_pos q]
        unfold partG
        rw [show B.1 + (x - B.1) = x by omega, show B.2.1 + (y - B.2.1) = y by omega]
        exact mix1_zero p1.1 p1.2
      · rw [if_neg q, pix_tab, if_pos ⟨a, b, c, d⟩]
        rcases hb with ⟨e1, _⟩ | ⟨q1, q2, q3, q4, q5, q6, q7⟩
        · rw [e1] at r
          exact absurd (by decide : (-1 : Int) < 0) r
        · by_cases one : rd p (y * w + x) = 1
          · have := q7 (y * w + x) hf.2.1 (by omega) one
            rw [flat_mod a b, flat_div a b] at this
            omega
          · rw [← pix_in a b c d] at one
            omega
    exact congrArg (fun l => (w, h, l, (0 : Int))) e
theorem BitmapTrims : incunablelaw05_BitmapTrims.Pure := by
  intro w h p _ _ hp
  have hb := wf_byt hp.2.2
  refine EvP.rounds ?_
  unfold incunablelaw05_BitmapTrims.f
  refine EvP.bindv (Huge_is w h p) ?_
  refine EvP.ite (fun a => ?_) (fun a => ?_)
  · refine EvP.bind Sane_is ?_
    rintro _ rfl
    exact EvP.ret rfl
  have a : ¬ (p.length : Int) > 20000 := by simpa using a
  refine EvP.bind (Trim_is w h p (fun z hz => (hb z hz).1) (by omega)) ?_
  rintro _ rfl
  refine EvP.bind (refTrim_is w h p (fun z hz => (hb z hz).1) (by omega)) ?_
  rintro _ rfl
  refine EvP.pos rfl (EvP.pos rfl (EvP.pos rfl ?_))
  refine EvP.bindv (refSame_is _ _ _ _ _ _ trimR_byt trimR_byt) ?_
  refine EvP.step (fun k => by rw [incunablelaw05_BitmapTrims.j0]) ?_
  refine EvP.neg (by simp) ?_
  refine EvP.ite (fun e => ?_) (fun e => ?_)
  · by_cases v : Val w h p
    · have et : trimR w h p = trimT w h p (trb w h p) := by
        unfold trimR
        rw [if_pos v]
      rw [et]
      obtain ⟨d1, d2, d3⟩ := trim_draw v
      have v0 : Val w h (tab w h (fun _ _ => 0)) := val_tab (g := fun _ _ => 0) v.sid (fun _ _ _ _ _ _ => by omega)
      have en : newR w h 0 = (w, h, tab w h (fun _ _ => 0), 0) := by
        unfold newR
        rw [if_neg (by have := v.1; have := v.2.1; omega), if_pos v.sid]
      refine EvP.bind (New_is w h 0) ?_
      rintro _ rfl
      rw [en]
      have l0 : ((tab w h (fun _ _ => (0 : Int))).length : Int) ≤ 8192 := by rw [v0.2.2.2.2.2.1]; exact v0.2.2.2.2.1
      refine EvP.bind (Draw_is w h _ _ _ _ _ _ 1 (fun z hz => (val_byt v0 z hz).1) (by show ((tab w h (fun _ _ => (0 : Int))).length : Int) ≤ _; omega) (fun z hz => (d2 z hz).1) (by omega)) ?_
      rintro _ rfl
      rw [d1]
      refine EvP.pos rfl (EvP.pos rfl ?_)
      refine EvP.bindv (refSame_is _ _ _ _ _ _ hb hb) ?_
      refine EvP.pos (by simp) ?_
      refine EvP.bind Sane_is ?_
      rintro _ rfl
      exact EvP.ret rfl
    · unfold trimR at e
      rw [if_neg v] at e
      exact absurd e (by decide)
  · refine EvP.bind Sane_is ?_
    rintro _ rfl
    exact EvP.ret rfl

end Go.Proofs.Ytgcjhpcegmblgaa.Pure
