/- Plain words for the pure statements: runs with rounds told by a post, lists of pixels, and loops over them. No conditions. -/
import Derived.Test.YtidgpjcgoocpeaaDoorWWords
import Derived.Test.YtidgpjcgoocpeaaDoorWLast
namespace Go.Proofs.YtidgpjcgoocpeaaDoorW.Pu
open Go.Proofs.YtidgpjcgoocpeaaDoorW.PrintWords Go.Proofs.YtidgpjcgoocpeaaDoorW.PrintLast Go.RowKit
set_option linter.unusedVariables false
set_option linter.unusedSimpArgs false
def EvP {α : Type} (g : Nat → Option α) (P : α → Prop) : Prop := ∃ r, Ev g r ∧ P r
theorem EvP.ret {α : Type} {r : α} {P : α → Prop} (h : P r) : EvP (fun _ => some r) P := ⟨r, Ev.now r, h⟩
theorem EvP.step {α : Type} {g f : Nat → Option α} {P : α → Prop} (h : ∀ k, g (k + 1) = f k) (k : EvP f P) : EvP g P := by
 obtain ⟨r, hr, hp⟩ := k
 exact ⟨r, Ev.step h hr, hp⟩
theorem EvP.bind {α β : Type} {g : Nat → Option α} {f : Nat → α → Option β} {Q : α → Prop} {P : β → Prop} (h : EvP g Q) (k : ∀ a, Q a → EvP (fun n => f n a) P) : EvP (fun n => (g n).bind (f n)) P := by
 obtain ⟨a, ha, hq⟩ := h
 obtain ⟨r, hr, hp⟩ := k a hq
 exact ⟨r, Ev.bind ha hr, hp⟩
theorem EvP.bindv {α β : Type} {o : Option α} {f : Nat → α → Option β} {a : α} {P : β → Prop} (h : o = some a) (k : EvP (fun n => f n a) P) : EvP (fun n => o.bind (f n)) P := by
 rw [h]
 exact k
theorem EvP.mono {α : Type} {g : Nat → Option α} {P Q : α → Prop} (h : EvP g P) (k : ∀ r, P r → Q r) : EvP g Q := by
 obtain ⟨r, hr, hp⟩ := h
 exact ⟨r, hr, k r hp⟩
theorem EvP.ite {α : Type} {c : Prop} [Decidable c] {a b : Nat → Option α} {P : α → Prop} (h : c → EvP a P) (k : ¬ c → EvP b P) : EvP (fun n => if c then a n else b n) P := by
 by_cases e : c
 ·obtain ⟨r, hr, hp⟩ := h e
  exact ⟨r, by simp only [if_pos e]; exact hr, hp⟩
 ·obtain ⟨r, hr, hp⟩ := k e
  exact ⟨r, by simp only [if_neg e]; exact hr, hp⟩
theorem EvP.pos {α : Type} {c : Prop} [Decidable c] {a b : Nat → Option α} {P : α → Prop} (e : c) (h : EvP a P) : EvP (fun n => if c then a n else b n) P := EvP.ite (fun _ => h) (fun k => absurd e k)
theorem EvP.neg {α : Type} {c : Prop} [Decidable c] {a b : Nat → Option α} {P : α → Prop} (e : ¬ c) (h : EvP b P) : EvP (fun n => if c then a n else b n) P := EvP.ite (fun k => absurd k e) (fun _ => h)
theorem EvP.rounds {α : Type} {g : Nat → Option α} {r : α} (h : EvP g (· = r)) : ∃ k, g k = some r := by
 obtain ⟨r', hr, rfl⟩ := h
 exact hr.rounds
theorem EvP.loop {σ α : Type} {L : Nat → σ → Option α} {P : α → Prop} (Inv : σ → Prop) (m : σ → Nat)
  (h : ∀ s, Inv s → (∀ s', Inv s' → m s' < m s → EvP (fun n => L n s') P) → EvP (fun n => L n s) P) : ∀ s, Inv s → EvP (fun n => L n s) P := by
 have key : ∀ (d : Nat) (s : σ), m s < d → Inv s → EvP (fun n => L n s) P := by
  intro d
  induction d with
  | zero => intro s hs; omega
  | succ d ih => intro s hs hi; exact h s hi (fun s' hi' hm => ih s' (by omega) hi')
 intro s hi
 exact key (m s + 1) s (by omega) hi
theorem EvP.up {σ α : Type} {L : Nat → Int → σ → Option α} {P : α → Prop} (Inv : Int → σ → Prop) (n : Int)
  (h : ∀ i s, Inv i s → i ≤ n → (∀ s', i < n → Inv (i + 1) s' → EvP (fun k => L k (i + 1) s') P) → EvP (fun k => L k i s) P) : ∀ i s, i ≤ n → Inv i s → EvP (fun k => L k i s) P := by
 intro i s hi hinv
 exact EvP.loop (L := fun k (x : Int × σ) => L k x.1 x.2) (fun x => x.1 ≤ n ∧ Inv x.1 x.2) (fun x => (n - x.1).toNat)
  (fun x hx ih => h x.1 x.2 hx.2 hx.1 (fun s' hl hv => ih (x.1 + 1, s') ⟨by show x.1 + 1 ≤ n; omega, hv⟩ (by show (n - (x.1 + 1)).toNat < (n - x.1).toNat; omega))) (i, s) ⟨hi, hinv⟩
theorem w64 {x : Int} (h0 : -9223372036854775808 ≤ x) (h1 : x ≤ 9223372036854775807) : wrap64 x = x := by unfold wrap64; omega
theorem rd_get (l : List Int) (i : Nat) (h : i < l.length) : rd l (i : Int) = l[i] := by simp [rd, List.getD, h]
theorem rd_mem {l : List Int} {i : Int} (h0 : 0 ≤ i) (h1 : i < (l.length : Int)) : rd l i ∈ l := by
 have : i.toNat < l.length := by omega
 simp only [rd, List.getD, List.getElem?_eq_getElem this]
 exact List.getElem_mem _
theorem rd_set (l : List Int) (i j v : Int) (h0 : 0 ≤ i) (h1 : i < (l.length : Int)) (hj : 0 ≤ j) : rd (l.set i.toNat v) j = if j = i then v else rd l j := by
 have hi : i.toNat < l.length := by omega
 unfold rd
 simp only [List.getD, List.getElem?_set]
 by_cases e : j = i
 ·subst e
  simp [hi]
 ·have : ¬ i.toNat = j.toNat := by omega
  simp [this, e]
theorem rd_ext {l m : List Int} (hl : l.length = m.length) (h : ∀ i : Int, 0 ≤ i → i < (l.length : Int) → rd l i = rd m i) : l = m := by
 apply List.ext_getElem hl
 intro i h1 h2
 have := h (i : Int) (by omega) (by omega)
 rwa [rd_get l i h1, rd_get m i h2] at this
theorem rd_replicate (n : Nat) (v : Int) (j : Int) (h0 : 0 ≤ j) (h1 : j < n) : rd (List.replicate n v) j = v := by
 have : j.toNat < n := by omega
 simp [rd, List.getD, this]
def lmap (n : Nat) (f : Int → Int) : List Int := (List.range n).map fun (i : Nat) => f (i : Int)
theorem lmap_length (n : Nat) (f : Int → Int) : (lmap n f).length = n := by simp [lmap]
theorem rd_lmap (n : Nat) (f : Int → Int) (i : Int) (h0 : 0 ≤ i) (h1 : i < n) : rd (lmap n f) i = f i := by
 have hi : i.toNat < n := by omega
 have e : ((i.toNat : Nat) : Int) = i := by omega
 simp [rd, lmap, List.getD, List.getElem?_map, List.getElem?_range hi, e]
theorem eq_lmap {l : List Int} {n : Nat} {f : Int → Int} (hl : l.length = n) (h : ∀ i, 0 ≤ i → i < (n : Int) → rd l i = f i) : l = lmap n f := by
 apply rd_ext
 ·rw [lmap_length, hl]
 ·intro i h0 h1
  rw [rd_lmap n f i h0 (by omega), h i h0 (by omega)]
theorem EvP.fill {α : Type} {L : Nat → Int → List Int → Option α} {P : α → Prop} (l : List Int) (f : Int → Int)
  (hstep : ∀ i s, 0 ≤ i → i < (l.length : Int) → s.length = l.length → (∀ j, i ≤ j → rd s j = rd l j) → EvP (fun k => L k (i + 1) (s.set i.toNat (f i))) P → EvP (fun k => L k i s) P)
  (hend : EvP (fun k => L k (l.length : Int) (lmap l.length f)) P) : EvP (fun k => L k 0 l) P := by
 refine EvP.up (L := L) (fun i s => 0 ≤ i ∧ s.length = l.length ∧ (∀ j, 0 ≤ j → j < i → rd s j = f j) ∧ ∀ j, i ≤ j → rd s j = rd l j) l.length ?_ 0 l (by omega) ⟨by omega, rfl, fun j _ _ => by omega, fun _ _ => rfl⟩
 intro i s ⟨h0, hs, hd, hr⟩ hi ih
 by_cases h1 : i < (l.length : Int)
 ·refine hstep i s h0 h1 hs hr (ih _ h1 ⟨by omega, by rw [List.length_set, hs], fun j hj hj' => ?_, fun j hj => ?_⟩)
  ·rw [rd_set s i j _ h0 (by omega) hj]
   split
   ·rename_i e; rw [e]
   ·exact hd j hj (by omega)
  ·rw [rd_set s i j _ h0 (by omega) (by omega), if_neg (by omega)]
   exact hr j (by omega)
 ·have e : i = (l.length : Int) := by omega
  subst e
  have : s = lmap l.length f := eq_lmap hs hd
  rw [this]
  exact hend
theorem flat_lt {w h x y : Int} (hx0 : 0 ≤ x) (hx : x < w) (hy0 : 0 ≤ y) (hy : y < h) : 0 ≤ y * w ∧ 0 ≤ y * w + x ∧ y * w + x < w * h := by
 have h1 : 0 ≤ y * w := Int.mul_nonneg hy0 (by omega)
 have h2 : (y + 1) * w ≤ h * w := Int.mul_le_mul_of_nonneg_right (by omega) (by omega)
 rw [Int.add_mul, Int.one_mul] at h2
 rw [Int.mul_comm w h]
 omega
theorem flat_div {w x y : Int} (hx0 : 0 ≤ x) (hx : x < w) : (y * w + x) / w = y := by
 rw [Int.add_comm, Int.add_mul_ediv_right _ _ (by omega), Int.ediv_eq_zero_of_lt hx0 hx]
 omega
theorem flat_mod {w x y : Int} (hx0 : 0 ≤ x) (hx : x < w) : (y * w + x) % w = x := by
 rw [Int.add_comm, Int.add_mul_emod_self_right, Int.emod_eq_of_lt hx0 hx]
theorem flat_of {w h i : Int} (hw : 0 ≤ w) (hi0 : 0 ≤ i) (hi : i < w * h) : 0 < w ∧ 0 ≤ i % w ∧ i % w < w ∧ 0 ≤ i / w ∧ i / w < h ∧ (i / w) * w + i % w = i := by
 have hw' : 0 < w := by
  rcases Int.lt_or_eq_of_le hw with h1 | h1
  ·exact h1
  ·rw [← h1, Int.zero_mul] at hi
   omega
 refine ⟨hw', Int.emod_nonneg _ (by omega), Int.emod_lt_of_pos _ hw', Int.ediv_nonneg hi0 hw, ?_, ?_⟩
 ·exact Int.ediv_lt_of_lt_mul hw' (by rw [Int.mul_comm]; exact hi)
 ·rw [Int.mul_comm]
  exact Int.mul_ediv_add_emod i w
def Val (w h : Int) (p : List Int) : Prop := 0 ≤ w ∧ 0 ≤ h ∧ w ≤ 200 ∧ h ≤ 200 ∧ w * h ≤ 8192 ∧ (p.length : Int) = w * h ∧ ∀ x ∈ p, 0 ≤ x ∧ x ≤ 1
def Sid (w h : Int) : Prop := 0 ≤ w ∧ 0 ≤ h ∧ w ≤ 200 ∧ h ≤ 200 ∧ w * h ≤ 8192
instance (w h : Int) : Decidable (Sid w h) := by unfold Sid; exact inferInstance
def pix (w h : Int) (p : List Int) (x y : Int) : Int := if 0 ≤ x ∧ x < w ∧ 0 ≤ y ∧ y < h then rd p (y * w + x) else 0
def tab (w h : Int) (g : Int → Int → Int) : List Int := (List.range (w * h).toNat).map fun (i : Nat) => g ((i : Int) % w) ((i : Int) / w)
theorem tab_length (w h : Int) (g : Int → Int → Int) : (tab w h g).length = (w * h).toNat := by simp [tab]
theorem rd_tab (w h : Int) (g : Int → Int → Int) (i : Int) (h0 : 0 ≤ i) (h1 : i < w * h) : rd (tab w h g) i = g (i % w) (i / w) := by
 have hi : i.toNat < (w * h).toNat := by omega
 have e : ((i.toNat : Nat) : Int) = i := by omega
 simp [rd, tab, List.getD, List.getElem?_map, List.getElem?_range hi, e]
theorem rd_tab_at (w h : Int) (g : Int → Int → Int) (x y : Int) (hx0 : 0 ≤ x) (hx : x < w) (hy0 : 0 ≤ y) (hy : y < h) : rd (tab w h g) (y * w + x) = g x y := by
 have := flat_lt hx0 hx hy0 hy
 rw [rd_tab _ _ _ _ this.2.1 this.2.2, flat_mod hx0 hx, flat_div hx0 hx]
theorem eq_tab {w h : Int} {p : List Int} {g : Int → Int → Int} (hw : 0 ≤ w) (hh : 0 ≤ h) (hl : (p.length : Int) = w * h) (hg : ∀ x y, 0 ≤ x → x < w → 0 ≤ y → y < h → rd p (y * w + x) = g x y) : p = tab w h g := by
 have h0 : 0 ≤ w * h := Int.mul_nonneg hw hh
 apply rd_ext
 ·rw [tab_length]; omega
 ·intro i hi0 hi1
  rw [hl] at hi1
  obtain ⟨_, a, b, c, d, e⟩ := flat_of hw hi0 hi1
  rw [rd_tab _ _ _ _ hi0 hi1, ← hg _ _ a b c d, e]
theorem tab_congr {w h : Int} {g g' : Int → Int → Int} (hw : 0 ≤ w) (hh : 0 ≤ h) (hg : ∀ x y, 0 ≤ x → x < w → 0 ≤ y → y < h → g x y = g' x y) : tab w h g = tab w h g' := by
 have h0 : 0 ≤ w * h := Int.mul_nonneg hw hh
 refine eq_tab hw hh (by rw [tab_length]; omega) (fun x y a b c d => ?_)
 rw [rd_tab_at _ _ _ _ _ a b c d, hg x y a b c d]
theorem pix_in {w h : Int} {p : List Int} {x y : Int} (hx0 : 0 ≤ x) (hx : x < w) (hy0 : 0 ≤ y) (hy : y < h) : pix w h p x y = rd p (y * w + x) := if_pos ⟨hx0, hx, hy0, hy⟩
theorem pix_out {w h : Int} {p : List Int} {x y : Int} (hn : ¬ (0 ≤ x ∧ x < w ∧ 0 ≤ y ∧ y < h)) : pix w h p x y = 0 := if_neg hn
theorem Val.sid {w h : Int} {p : List Int} (v : Val w h p) : Sid w h := ⟨v.1, v.2.1, v.2.2.1, v.2.2.2.1, v.2.2.2.2.1⟩
theorem Val.tab {w h : Int} {p : List Int} (v : Val w h p) : p = tab w h (pix w h p) :=
 eq_tab v.1 v.2.1 v.2.2.2.2.2.1 (fun _ _ a b c d => (pix_in a b c d).symm)
theorem replicate_tab {w h : Int} (hw : 0 ≤ w) (hh : 0 ≤ h) (v : Int) : List.replicate (w * h).toNat v = tab w h (fun _ _ => v) := by
 have h0 : 0 ≤ w * h := Int.mul_nonneg hw hh
 refine eq_tab hw hh (by rw [List.length_replicate]; omega) (fun x y a b c d => ?_)
 have hf := flat_lt a b c d
 exact rd_replicate _ _ _ hf.2.1 (by omega)
theorem lmap_tab {w h : Int} {n : Nat} {f : Int → Int} {g : Int → Int → Int} (hw : 0 ≤ w) (hh : 0 ≤ h) (hn : (n : Int) = w * h) (hf : ∀ x y, 0 ≤ x → x < w → 0 ≤ y → y < h → f (y * w + x) = g x y) : lmap n f = tab w h g := by
 refine eq_tab hw hh (by rw [lmap_length, hn]) (fun x y a b c d => ?_)
 have hfl := flat_lt a b c d
 rw [rd_lmap _ _ _ hfl.2.1 (by omega), hf x y a b c d]
theorem tmod_pos {a b : Int} (h : 0 ≤ a) : Int.tmod a b = a % b := Int.tmod_eq_emod_of_nonneg h
theorem tdiv_pos {a b : Int} (h : 0 ≤ a) : Int.tdiv a b = a / b := Int.tdiv_eq_ediv_of_nonneg h
theorem EvP.fillT {α : Type} {L : Nat → Int → List Int → Option α} {P : α → Prop} {w h : Int} (hw : 0 ≤ w) (hh : 0 ≤ h) (l : List Int) (hl : (l.length : Int) = w * h) (g : Int → Int → Int)
  (hstep : ∀ i s, 0 ≤ i → i < (l.length : Int) → s.length = l.length → 0 < w → 0 ≤ i % w → i % w < w → 0 ≤ i / w → i / w < h → Int.tmod i w = i % w → Int.tdiv i w = i / w → (i / w) * w + i % w = i → rd s i = rd l i →
   EvP (fun k => L k (i + 1) (s.set i.toNat (g (i % w) (i / w)))) P → EvP (fun k => L k i s) P)
  (hend : EvP (fun k => L k (l.length : Int) (tab w h g)) P) : EvP (fun k => L k 0 l) P := by
 refine EvP.fill l (fun i => g (i % w) (i / w)) (fun i s h0 h1 hs hr hk => ?_) ?_
 ·obtain ⟨a, b, c, d, e, f⟩ := flat_of hw h0 (show i < w * h by omega)
  exact hstep i s h0 h1 hs a b c d e (tmod_pos h0) (tdiv_pos h0) f (hr i (by omega)) hk
 ·rw [lmap_tab (g := g) hw hh hl (fun x y a b c d => by rw [flat_mod a b, flat_div a b])]
  exact hend
end Go.Proofs.YtidgpjcgoocpeaaDoorW.Pu
