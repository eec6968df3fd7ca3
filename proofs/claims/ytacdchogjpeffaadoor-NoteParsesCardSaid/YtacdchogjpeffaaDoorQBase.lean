/- Plain words for the pure statements: runs with rounds told by a post, lists of pixels, and loops over them. No conditions. -/
import Derived.Test.YtacdchogjpeffaaDoorWWords
import Derived.Test.YtacdchogjpeffaaDoorWLast
namespace Go.Proofs.YtacdchogjpeffaaDoorW.Pu
open Go.Proofs.YtacdchogjpeffaaDoorW.PrintWords Go.Proofs.YtacdchogjpeffaaDoorW.PrintLast Go.RowKit
set_option linter.unusedVariables false
set_option linter.unusedSimpArgs false

/-- With enough rounds the run answers, and the answer meets P. -/
def EvP {α : Type} (g : Nat → Option α) (P : α → Prop) : Prop := ∃ r, Ev g r ∧ P r
theorem EvP.ret {α : Type} {r : α} {P : α → Prop} (h : P r) : EvP (fun _ => some r) P := ⟨r, Ev.now r, h⟩
theorem EvP.val {α : Type} {o : Option α} {r : α} {P : α → Prop} (e : o = some r) (h : P r) : EvP (fun _ => o) P := ⟨r, by rw [e]; exact Ev.now r, h⟩
theorem EvP.step {α : Type} {g f : Nat → Option α} {P : α → Prop} (h : ∀ k, g (k + 1) = f k) (k : EvP f P) : EvP g P := by
  obtain ⟨r, hr, hp⟩ := k
  exact ⟨r, Ev.step h hr, hp⟩
theorem EvP.bind {α β : Type} {g : Nat → Option α} {f : Nat → α → Option β} {Q : α → Prop} {P : β → Prop} (h : EvP g Q) (k : ∀ a, Q a → EvP (fun n => f n a) P) : EvP (fun n => (g n).bind (f n)) P := by
  obtain ⟨a, ha, hq⟩ := h
  obtain ⟨r, hr, hp⟩ := k a hq
  exact ⟨r, Ev.bind ha hr, hp⟩
theorem EvP.bindv {α β : Type} {o : Option α} {f : Nat → α → Option β} {a : α} {P : β → Prop} (h : o = some a) (k : EvP (fun n => f n a) P) : EvP (fun n => o.bind (f n)) P := by
  rw [h]
  exact k
theorem EvP.mono {α : Type} {g : Nat → Option α} {P Q : α → Prop} (h : EvP g P) (k : ∀ r, P r → Q r) : EvP g Q := by
  obtain ⟨r, hr, hp⟩ := h
  exact ⟨r, hr, k r hp⟩
theorem EvP.ite {α : Type} {c : Prop} [Decidable c] {a b : Nat → Option α} {P : α → Prop} (h : c → EvP a P) (k : ¬ c → EvP b P) : EvP (fun n => if c then a n else b n) P := by
  by_cases e : c
  · obtain ⟨r, hr, hp⟩ := h e
    exact ⟨r, by simp only [if_pos e]; exact hr, hp⟩
  · obtain ⟨r, hr, hp⟩ := k e
    exact ⟨r, by simp only [if_neg e]; exact hr, hp⟩
theorem EvP.pos {α : Type} {c : Prop} [Decidable c] {a b : Nat → Option α} {P : α → Prop} (e : c) (h : EvP a P) : EvP (fun n => if c then a n else b n) P := EvP.ite (fun _ => h) (fun k => absurd e k)
theorem EvP.neg {α : Type} {c : Prop} [Decidable c] {a b : Nat → Option α} {P : α → Prop} (e : ¬ c) (h : EvP b P) : EvP (fun n => if c then a n else b n) P := EvP.ite (fun k => absurd k e) (fun _ => h)
theorem EvP.rounds {α : Type} {g : Nat → Option α} {r : α} (h : EvP g (· = r)) : ∃ k, g k = some r := by
  obtain ⟨r', hr, rfl⟩ := h
  exact hr.rounds
/-- A loop: a state, a measure, one round. -/
theorem EvP.loop {σ α : Type} {L : Nat → σ → Option α} {P : α → Prop} (Inv : σ → Prop) (m : σ → Nat)
    (h : ∀ s, Inv s → (∀ s', Inv s' → m s' < m s → EvP (fun n => L n s') P) → EvP (fun n => L n s) P) : ∀ s, Inv s → EvP (fun n => L n s) P := by
  have key : ∀ (d : Nat) (s : σ), m s < d → Inv s → EvP (fun n => L n s) P := by
    intro d
    induction d with
    | zero => intro s hs; omega
    | succ d ih => intro s hs hi; exact h s hi (fun s' hi' hm => ih s' (by omega) hi')
  intro s hi
  exact key (m s + 1) s (by omega) hi
/-- A loop that counts up. -/
theorem EvP.up {σ α : Type} {L : Nat → Int → σ → Option α} {P : α → Prop} (Inv : Int → σ → Prop) (n : Int)
    (h : ∀ i s, Inv i s → i ≤ n → (∀ s', i < n → Inv (i + 1) s' → EvP (fun k => L k (i + 1) s') P) → EvP (fun k => L k i s) P) : ∀ i s, i ≤ n → Inv i s → EvP (fun k => L k i s) P := by
  intro i s hi hinv
  exact EvP.loop (L := fun k (x : Int × σ) => L k x.1 x.2) (fun x => x.1 ≤ n ∧ Inv x.1 x.2) (fun x => (n - x.1).toNat)
    (fun x hx ih => h x.1 x.2 hx.2 hx.1 (fun s' hl hv => ih (x.1 + 1, s') ⟨by show x.1 + 1 ≤ n; omega, hv⟩ (by show (n - (x.1 + 1)).toNat < (n - x.1).toNat; omega))) (i, s) ⟨hi, hinv⟩

/-- Two loops, one in the other: rows and columns. -/
theorem EvP.raster {σ α : Type} {L0 : Nat → Int → σ → Option α} {L1 : Nat → Int → Int → σ → Option α} {P : α → Prop} (Inv : Int → Int → σ → Prop) (W H : Int) (hW : 0 ≤ W) (hH : 0 ≤ H)
    (h0 : ∀ y s, 0 ≤ y → y < H → Inv y 0 s → EvP (fun k => L1 k y 0 s) P → EvP (fun k => L0 k y s) P)
    (h0' : ∀ s, Inv H 0 s → EvP (fun k => L0 k H s) P)
    (h1 : ∀ y x s, 0 ≤ y → y < H → 0 ≤ x → x < W → Inv y x s → ∃ s', Inv y (x + 1) s' ∧ (EvP (fun k => L1 k y (x + 1) s') P → EvP (fun k => L1 k y x s) P))
    (h1' : ∀ y s, 0 ≤ y → y < H → Inv y W s → Inv (y + 1) 0 s ∧ (EvP (fun k => L0 k (y + 1) s) P → EvP (fun k => L1 k y W s) P)) :
    ∀ s, Inv 0 0 s → EvP (fun k => L0 k 0 s) P := by
  have row : ∀ (d : Nat) (y x : Int) (s : σ), 0 ≤ y → y < H → 0 ≤ x → x ≤ W → (W - x).toNat = d → Inv y x s → (∀ s', Inv (y + 1) 0 s' → EvP (fun k => L0 k (y + 1) s') P) → EvP (fun k => L1 k y x s) P := by
    intro d
    induction d with
    | zero =>
      intro y x s a b c e hd hi hk
      have : x = W := by omega
      subst this
      exact (h1' y s a b hi).2 (hk s (h1' y s a b hi).1)
    | succ d ih =>
      intro y x s a b c e hd hi hk
      obtain ⟨s', hi', hr⟩ := h1 y x s a b c (by omega) hi
      exact hr (ih y (x + 1) s' a b (by omega) (by omega) (by omega) hi' hk)
  have col : ∀ (d : Nat) (y : Int) (s : σ), 0 ≤ y → y ≤ H → (H - y).toNat = d → Inv y 0 s → EvP (fun k => L0 k y s) P := by
    intro d
    induction d with
    | zero =>
      intro y s a b hd hi
      have : y = H := by omega
      subst this
      exact h0' s hi
    | succ d ih =>
      intro y s a b hd hi
      exact h0 y s a (by omega) hi (row _ y 0 s a (by omega) (by omega) hW rfl hi (fun s' hi' => ih (y + 1) s' (by omega) (by omega) (by omega) hi'))
  intro s hi
  exact col _ 0 s (by omega) hH rfl hi

theorem w64 {x : Int} (h0 : -9223372036854775808 ≤ x) (h1 : x ≤ 9223372036854775807) : wrap64 x = x := by unfold wrap64; omega

/-! ### lists of numbers -/
theorem rd_get (l : List Int) (i : Nat) (h : i < l.length) : rd l (i : Int) = l[i] := by simp [rd, List.getD, h]
theorem rd_mem {l : List Int} {i : Int} (h0 : 0 ≤ i) (h1 : i < (l.length : Int)) : rd l i ∈ l := by
  have : i.toNat < l.length := by omega
  simp only [rd, List.getD, List.getElem?_eq_getElem this]
  exact List.getElem_mem _
theorem rd_set (l : List Int) (i j v : Int) (h0 : 0 ≤ i) (h1 : i < (l.length : Int)) (hj : 0 ≤ j) : rd (l.set i.toNat v) j = if j = i then v else rd l j := by
  have hi : i.toNat < l.length := by omega
  unfold rd
  simp only [List.getD, List.getElem?_set]
  by_cases e : j = i
  · subst e
    simp [hi]
  · have : ¬ i.toNat = j.toNat := by omega
    simp [this, e]
theorem rd_ext {l m : List Int} (hl : l.length = m.length) (h : ∀ i : Int, 0 ≤ i → i < (l.length : Int) → rd l i = rd m i) : l = m := by
  apply List.ext_getElem hl
  intro i h1 h2
  have := h (i : Int) (by omega) (by omega)
  rwa [rd_get l i h1, rd_get m i h2] at this
theorem rd_append (l : List Int) (v j : Int) (hj : 0 ≤ j) : rd (l ++ [v]) j = if j = (l.length : Int) then v else rd l j := by
  unfold rd
  by_cases e : j = (l.length : Int)
  · subst e
    simp [List.getD]
  · rw [if_neg e]
    by_cases h : j.toNat < l.length
    · simp [List.getD, List.getElem?_append_left h]
    · have h2 : l.length < j.toNat := by omega
      simp only [List.getD]
      rw [List.getElem?_eq_none (by simp; omega), List.getElem?_eq_none (by omega)]
theorem rd_replicate (n : Nat) (v : Int) (j : Int) (h0 : 0 ≤ j) (h1 : j < n) : rd (List.replicate n v) j = v := by
  have : j.toNat < n := by omega
  simp [rd, List.getD, this]

/-- The bytes of a list of numbers tell the numbers. -/
theorem bytes_inj : ∀ (l m : List Int), (∀ x ∈ l, 0 ≤ x ∧ x ≤ 255) → (∀ x ∈ m, 0 ≤ x ∧ x ≤ 255) → l.map (fun x => UInt8.ofNat x.toNat) = m.map (fun x => UInt8.ofNat x.toNat) → l = m
  | [], [], _, _, _ => rfl
  | [], _ :: _, _, _, h => by simp at h
  | _ :: _, [], _, _, h => by simp at h
  | x :: xs, y :: ys, hl, hm, h => by
    simp only [List.map_cons, List.cons.injEq] at h
    have hx := hl x (by simp)
    have hy := hm y (by simp)
    have e : x = y := by
      have := congrArg UInt8.toNat h.1
      simp only [UInt8.toNat_ofNat'] at this
      omega
    rw [e, bytes_inj xs ys (fun z hz => hl z (by simp [hz])) (fun z hz => hm z (by simp [hz])) h.2]
theorem strOfNums_toList (l : List Int) : (strOfNums l).toList = l.map (fun x => UInt8.ofNat x.toNat) := by
  have : ∀ (s : ByteArray), s.toList = s.data.toList := ByteArray.toList_eq
  rw [this]
  simp [strOfNums]
theorem strOfNums_eq {l m : List Int} (hl : ∀ x ∈ l, 0 ≤ x ∧ x ≤ 255) (hm : ∀ x ∈ m, 0 ≤ x ∧ x ≤ 255) : ((strOfNums l).toList == (strOfNums m).toList) = decide (l = m) := by
  rw [strOfNums_toList, strOfNums_toList]
  by_cases e : l = m
  · simp [e]
  · rw [decide_eq_false e, beq_eq_false_iff_ne]
    intro h
    exact e (bytes_inj l m hl hm h)

/-- A row filled from a function. -/
def lmap (n : Nat) (f : Int → Int) : List Int := (List.range n).map fun (i : Nat) => f (i : Int)
theorem lmap_length (n : Nat) (f : Int → Int) : (lmap n f).length = n := by simp [lmap]
theorem rd_lmap (n : Nat) (f : Int → Int) (i : Int) (h0 : 0 ≤ i) (h1 : i < n) : rd (lmap n f) i = f i := by
  have hi : i.toNat < n := by omega
  have e : ((i.toNat : Nat) : Int) = i := by omega
  simp [rd, lmap, List.getD, List.getElem?_map, List.getElem?_range hi, e]
theorem eq_lmap {l : List Int} {n : Nat} {f : Int → Int} (hl : l.length = n) (h : ∀ i, 0 ≤ i → i < (n : Int) → rd l i = f i) : l = lmap n f := by
  apply rd_ext
  · rw [lmap_length, hl]
  · intro i h0 h1
    rw [rd_lmap n f i h0 (by omega), h i h0 (by omega)]
/-- A loop that fills a row in place. -/
theorem EvP.fill {α : Type} {L : Nat → Int → List Int → Option α} {P : α → Prop} (l : List Int) (f : Int → Int)
    (hstep : ∀ i s, 0 ≤ i → i < (l.length : Int) → s.length = l.length → (∀ j, i ≤ j → rd s j = rd l j) → EvP (fun k => L k (i + 1) (s.set i.toNat (f i))) P → EvP (fun k => L k i s) P)
    (hend : EvP (fun k => L k (l.length : Int) (lmap l.length f)) P) : EvP (fun k => L k 0 l) P := by
  refine EvP.up (L := L) (fun i s => 0 ≤ i ∧ s.length = l.length ∧ (∀ j, 0 ≤ j → j < i → rd s j = f j) ∧ ∀ j, i ≤ j → rd s j = rd l j) l.length ?_ 0 l (by omega) ⟨by omega, rfl, fun j _ _ => by omega, fun _ _ => rfl⟩
  intro i s ⟨h0, hs, hd, hr⟩ hi ih
  by_cases h1 : i < (l.length : Int)
  · refine hstep i s h0 h1 hs hr (ih _ h1 ⟨by omega, by rw [List.length_set, hs], fun j hj hj' => ?_, fun j hj => ?_⟩)
    · rw [rd_set s i j _ h0 (by omega) hj]
      split
      · rename_i e; rw [e]
      · exact hd j hj (by omega)
    · rw [rd_set s i j _ h0 (by omega) (by omega), if_neg (by omega)]
      exact hr j (by omega)
  · have e : i = (l.length : Int) := by omega
    subst e
    have : s = lmap l.length f := eq_lmap hs hd
    rw [this]
    exact hend

/-! ### places of a row of rows -/
theorem flat_lt {w h x y : Int} (hx0 : 0 ≤ x) (hx : x < w) (hy0 : 0 ≤ y) (hy : y < h) : 0 ≤ y * w ∧ 0 ≤ y * w + x ∧ y * w + x < w * h := by
  have h1 : 0 ≤ y * w := Int.mul_nonneg hy0 (by omega)
  have h2 : (y + 1) * w ≤ h * w := Int.mul_le_mul_of_nonneg_right (by omega) (by omega)
  rw [Int.add_mul, Int.one_mul] at h2
  rw [Int.mul_comm w h]
  omega
theorem flat_div {w x y : Int} (hx0 : 0 ≤ x) (hx : x < w) : (y * w + x) / w = y := by
  rw [Int.add_comm, Int.add_mul_ediv_right _ _ (by omega), Int.ediv_eq_zero_of_lt hx0 hx]
  omega
theorem flat_mod {w x y : Int} (hx0 : 0 ≤ x) (hx : x < w) : (y * w + x) % w = x := by
  rw [Int.add_comm, Int.add_mul_emod_self_right, Int.emod_eq_of_lt hx0 hx]
theorem flat_inj {w x y u v : Int} (hx0 : 0 ≤ x) (hx : x < w) (hu0 : 0 ≤ u) (hu : u < w) (h : y * w + x = v * w + u) : y = v ∧ x = u := by
  have h1 := flat_div (y := y) hx0 hx
  have h2 := flat_div (y := v) hu0 hu
  have h3 := flat_mod (y := y) hx0 hx
  have h4 := flat_mod (y := v) hu0 hu
  rw [h] at h1 h3
  exact ⟨h1.symm.trans h2, h3.symm.trans h4⟩
theorem flat_of {w h i : Int} (hw : 0 ≤ w) (hi0 : 0 ≤ i) (hi : i < w * h) : 0 < w ∧ 0 ≤ i % w ∧ i % w < w ∧ 0 ≤ i / w ∧ i / w < h ∧ (i / w) * w + i % w = i := by
  have hw' : 0 < w := by
    rcases Int.lt_or_eq_of_le hw with h1 | h1
    · exact h1
    · rw [← h1, Int.zero_mul] at hi
      omega
  refine ⟨hw', Int.emod_nonneg _ (by omega), Int.emod_lt_of_pos _ hw', Int.ediv_nonneg hi0 hw, ?_, ?_⟩
  · exact Int.ediv_lt_of_lt_mul hw' (by rw [Int.mul_comm]; exact hi)
  · rw [Int.mul_comm]
    exact Int.mul_ediv_add_emod i w

/-! ### bitmaps -/
/-- A valid bitmap. -/
def Val (w h : Int) (p : List Int) : Prop := 0 ≤ w ∧ 0 ≤ h ∧ w ≤ 200 ∧ h ≤ 200 ∧ w * h ≤ 8192 ∧ (p.length : Int) = w * h ∧ ∀ x ∈ p, 0 ≤ x ∧ x ≤ 1
def Sid (w h : Int) : Prop := 0 ≤ w ∧ 0 ≤ h ∧ w ≤ 200 ∧ h ≤ 200 ∧ w * h ≤ 8192
instance (w h : Int) : Decidable (Sid w h) := by unfold Sid; exact inferInstance
/-- A pixel, white outside. -/
def pix (w h : Int) (p : List Int) (x y : Int) : Int := if 0 ≤ x ∧ x < w ∧ 0 ≤ y ∧ y < h then rd p (y * w + x) else 0
/-- The bitmap whose pixels are told. -/
def tab (w h : Int) (g : Int → Int → Int) : List Int := (List.range (w * h).toNat).map fun (i : Nat) => g ((i : Int) % w) ((i : Int) / w)
theorem tab_length (w h : Int) (g : Int → Int → Int) : (tab w h g).length = (w * h).toNat := by simp [tab]
theorem rd_tab (w h : Int) (g : Int → Int → Int) (i : Int) (h0 : 0 ≤ i) (h1 : i < w * h) : rd (tab w h g) i = g (i % w) (i / w) := by
  have hi : i.toNat < (w * h).toNat := by omega
  have e : ((i.toNat : Nat) : Int) = i := by omega
  simp [rd, tab, List.getD, List.getElem?_map, List.getElem?_range hi, e]
theorem rd_tab_at (w h : Int) (g : Int → Int → Int) (x y : Int) (hx0 : 0 ≤ x) (hx : x < w) (hy0 : 0 ≤ y) (hy : y < h) : rd (tab w h g) (y * w + x) = g x y := by
  have := flat_lt hx0 hx hy0 hy
  rw [rd_tab _ _ _ _ this.2.1 this.2.2, flat_mod hx0 hx, flat_div hx0 hx]
theorem eq_tab {w h : Int} {p : List Int} {g : Int → Int → Int} (hw : 0 ≤ w) (hh : 0 ≤ h) (hl : (p.length : Int) = w * h) (hg : ∀ x y, 0 ≤ x → x < w → 0 ≤ y → y < h → rd p (y * w + x) = g x y) : p = tab w h g := by
  have h0 : 0 ≤ w * h := Int.mul_nonneg hw hh
  apply rd_ext
  · rw [tab_length]; omega
  · intro i hi0 hi1
    rw [hl] at hi1
    obtain ⟨_, a, b, c, d, e⟩ := flat_of hw hi0 hi1
    rw [rd_tab _ _ _ _ hi0 hi1, ← hg _ _ a b c d, e]
theorem tab_congr {w h : Int} {g g' : Int → Int → Int} (hw : 0 ≤ w) (hh : 0 ≤ h) (hg : ∀ x y, 0 ≤ x → x < w → 0 ≤ y → y < h → g x y = g' x y) : tab w h g = tab w h g' := by
  have h0 : 0 ≤ w * h := Int.mul_nonneg hw hh
  refine eq_tab hw hh (by rw [tab_length]; omega) (fun x y a b c d => ?_)
  rw [rd_tab_at _ _ _ _ _ a b c d, hg x y a b c d]
theorem tab_eq {w h : Int} {g g' : Int → Int → Int} (e : tab w h g = tab w h g') (x y : Int) (hx0 : 0 ≤ x) (hx : x < w) (hy0 : 0 ≤ y) (hy : y < h) : g x y = g' x y := by
  rw [← rd_tab_at w h g x y hx0 hx hy0 hy, e, rd_tab_at w h g' x y hx0 hx hy0 hy]
theorem pix_in {w h : Int} {p : List Int} {x y : Int} (hx0 : 0 ≤ x) (hx : x < w) (hy0 : 0 ≤ y) (hy : y < h) : pix w h p x y = rd p (y * w + x) := if_pos ⟨hx0, hx, hy0, hy⟩
theorem pix_out {w h : Int} {p : List Int} {x y : Int} (hn : ¬ (0 ≤ x ∧ x < w ∧ 0 ≤ y ∧ y < h)) : pix w h p x y = 0 := if_neg hn
theorem pix_tab {w h : Int} {g : Int → Int → Int} {x y : Int} : pix w h (tab w h g) x y = if 0 ≤ x ∧ x < w ∧ 0 ≤ y ∧ y < h then g x y else 0 := by
  unfold pix
  split
  · rename_i hc
    exact rd_tab_at w h g x y hc.1 hc.2.1 hc.2.2.1 hc.2.2.2
  · rfl
theorem Val.sid {w h : Int} {p : List Int} (v : Val w h p) : Sid w h := ⟨v.1, v.2.1, v.2.2.1, v.2.2.2.1, v.2.2.2.2.1⟩
theorem Val.tab {w h : Int} {p : List Int} (v : Val w h p) : p = tab w h (pix w h p) :=
  eq_tab v.1 v.2.1 v.2.2.2.2.2.1 (fun _ _ a b c d => (pix_in a b c d).symm)
theorem Val.pix01 {w h : Int} {p : List Int} (v : Val w h p) (x y : Int) : 0 ≤ pix w h p x y ∧ pix w h p x y ≤ 1 := by
  unfold pix
  split
  · rename_i hc
    have hf := flat_lt hc.1 hc.2.1 hc.2.2.1 hc.2.2.2
    exact v.2.2.2.2.2.2 _ (rd_mem hf.2.1 (by rw [v.2.2.2.2.2.1]; exact hf.2.2))
  · omega
theorem val_tab {w h : Int} {g : Int → Int → Int} (s : Sid w h) (hg : ∀ x y, 0 ≤ x → x < w → 0 ≤ y → y < h → 0 ≤ g x y ∧ g x y ≤ 1) : Val w h (tab w h g) := by
  obtain ⟨hw, hh, a, b, c⟩ := s
  have h0 : 0 ≤ w * h := Int.mul_nonneg hw hh
  refine ⟨hw, hh, a, b, c, by rw [tab_length]; omega, fun x hx => ?_⟩
  obtain ⟨i, hi, rfl⟩ := List.mem_map.1 hx
  rw [List.mem_range] at hi
  obtain ⟨_, p, q, r, t, _⟩ := flat_of hw (Int.natCast_nonneg i) (show (i : Int) < w * h by omega)
  exact hg _ _ p q r t
/-- One pixel more. -/
def upd (g : Int → Int → Int) (x y v : Int) : Int → Int → Int := fun u t => if u = x ∧ t = y then v else g u t
theorem set_tab {w h : Int} {g : Int → Int → Int} {x y v : Int} (hw : 0 ≤ w) (hh : 0 ≤ h) (hx0 : 0 ≤ x) (hx : x < w) (hy0 : 0 ≤ y) (hy : y < h) : (tab w h g).set (y * w + x).toNat v = tab w h (upd g x y v) := by
  have h0 : 0 ≤ w * h := Int.mul_nonneg hw hh
  have hf := flat_lt hx0 hx hy0 hy
  refine eq_tab hw hh (by rw [List.length_set, tab_length]; omega) (fun u t a b c d => ?_)
  have hg := flat_lt a b c d
  rw [rd_set _ _ _ _ hf.2.1 (by rw [tab_length]; omega) hg.2.1, rd_tab_at _ _ _ _ _ a b c d]
  unfold upd
  by_cases e : t * w + u = y * w + x
  · obtain ⟨e1, e2⟩ := flat_inj a b hx0 hx e
    rw [if_pos e, if_pos ⟨e2, e1⟩]
  · rw [if_neg e, if_neg (fun c => e (by rw [c.1, c.2]))]
theorem replicate_tab {w h : Int} (hw : 0 ≤ w) (hh : 0 ≤ h) (v : Int) : List.replicate (w * h).toNat v = tab w h (fun _ _ => v) := by
  have h0 : 0 ≤ w * h := Int.mul_nonneg hw hh
  refine eq_tab hw hh (by rw [List.length_replicate]; omega) (fun x y a b c d => ?_)
  have hf := flat_lt a b c d
  exact rd_replicate _ _ _ hf.2.1 (by omega)
theorem lmap_tab {w h : Int} {n : Nat} {f : Int → Int} {g : Int → Int → Int} (hw : 0 ≤ w) (hh : 0 ≤ h) (hn : (n : Int) = w * h) (hf : ∀ x y, 0 ≤ x → x < w → 0 ≤ y → y < h → f (y * w + x) = g x y) : lmap n f = tab w h g := by
  refine eq_tab hw hh (by rw [lmap_length, hn]) (fun x y a b c d => ?_)
  have hfl := flat_lt a b c d
  rw [rd_lmap _ _ _ hfl.2.1 (by omega), hf x y a b c d]
theorem tmod_pos {a b : Int} (h : 0 ≤ a) : Int.tmod a b = a % b := Int.tmod_eq_emod_of_nonneg h
theorem tdiv_pos {a b : Int} (h : 0 ≤ a) : Int.tdiv a b = a / b := Int.tdiv_eq_ediv_of_nonneg h
/-- A loop that fills a bitmap, place by place. -/
theorem EvP.fillT {α : Type} {L : Nat → Int → List Int → Option α} {P : α → Prop} {w h : Int} (hw : 0 ≤ w) (hh : 0 ≤ h) (l : List Int) (hl : (l.length : Int) = w * h) (g : Int → Int → Int)
    (hstep : ∀ i s, 0 ≤ i → i < (l.length : Int) → s.length = l.length → 0 < w → 0 ≤ i % w → i % w < w → 0 ≤ i / w → i / w < h → Int.tmod i w = i % w → Int.tdiv i w = i / w → (i / w) * w + i % w = i → rd s i = rd l i →
      EvP (fun k => L k (i + 1) (s.set i.toNat (g (i % w) (i / w)))) P → EvP (fun k => L k i s) P)
    (hend : EvP (fun k => L k (l.length : Int) (tab w h g)) P) : EvP (fun k => L k 0 l) P := by
  refine EvP.fill l (fun i => g (i % w) (i / w)) (fun i s h0 h1 hs hr hk => ?_) ?_
  · obtain ⟨a, b, c, d, e, f⟩ := flat_of hw h0 (show i < w * h by omega)
    exact hstep i s h0 h1 hs a b c d e (tmod_pos h0) (tdiv_pos h0) f (hr i (by omega)) hk
  · rw [lmap_tab (g := g) hw hh hl (fun x y a b c d => by rw [flat_mod a b, flat_div a b])]
    exact hend
/-- Two loops that write pixels, each once. X, Y: where a pixel of the target comes from; G: what is written there; G0: what stood there. -/
theorem EvP.rasterP {α : Type} {L0 : Nat → Int → List Int → Option α} {L1 : Nat → Int → Int → List Int → Option α} {P : α → Prop} {W H w h : Int} (φ ψ X Y : Int → Int → Int) (G0 G : Int → Int → Int) (hW : 0 ≤ W) (hH : 0 ≤ H) (hw : 0 ≤ w) (hh : 0 ≤ h)
    (hinv : ∀ x y, 0 ≤ x → x < W → 0 ≤ y → y < H → X (φ x y) (ψ x y) = x ∧ Y (φ x y) (ψ x y) = y)
    (hcov : ∀ u t, 0 ≤ u → u < w → 0 ≤ t → t < h → 0 ≤ X u t → X u t < W → 0 ≤ Y u t → Y u t < H → φ (X u t) (Y u t) = u ∧ ψ (X u t) (Y u t) = t)
    (h0 : ∀ y s, 0 ≤ y → y < H → EvP (fun k => L1 k y 0 s) P → EvP (fun k => L0 k y s) P)
    (hend : EvP (fun k => L0 k H (tab w h (fun u t => if 0 ≤ X u t ∧ X u t < W ∧ 0 ≤ Y u t ∧ Y u t < H then G u t else G0 u t))) P)
    (hin : ∀ x y g, 0 ≤ x → x < W → 0 ≤ y → y < H → 0 ≤ φ x y → φ x y < w → 0 ≤ ψ x y → ψ x y < h → g (φ x y) (ψ x y) = G0 (φ x y) (ψ x y) →
      EvP (fun k => L1 k y (x + 1) (tab w h (upd g (φ x y) (ψ x y) (G (φ x y) (ψ x y))))) P → EvP (fun k => L1 k y x (tab w h g)) P)
    (hout : ∀ x y g, 0 ≤ x → x < W → 0 ≤ y → y < H → ¬ (0 ≤ φ x y ∧ φ x y < w ∧ 0 ≤ ψ x y ∧ ψ x y < h) → EvP (fun k => L1 k y (x + 1) (tab w h g)) P → EvP (fun k => L1 k y x (tab w h g)) P)
    (h1' : ∀ y s, 0 ≤ y → y < H → EvP (fun k => L0 k (y + 1) s) P → EvP (fun k => L1 k y W s) P) : EvP (fun k => L0 k 0 (tab w h G0)) P := by
  refine EvP.raster (L0 := L0) (L1 := L1) (fun y x s => ∃ g, s = tab w h g ∧ ∀ u t, 0 ≤ u → u < w → 0 ≤ t → t < h → g u t = if 0 ≤ X u t ∧ X u t < W ∧ 0 ≤ Y u t ∧ (Y u t < y ∨ Y u t = y ∧ X u t < x) then G u t else G0 u t) W H hW hH ?_ ?_ ?_ ?_ (tab w h G0) ⟨G0, rfl, fun u t a b c d => ?_⟩
  · exact fun y s a b _ hk => h0 y s a b hk
  · rintro s ⟨g, rfl, hg⟩
    have e : tab w h g = tab w h (fun u t => if 0 ≤ X u t ∧ X u t < W ∧ 0 ≤ Y u t ∧ Y u t < H then G u t else G0 u t) := tab_congr hw hh (fun u t a b c d => by
      rw [hg u t a b c d]
      by_cases q : 0 ≤ X u t ∧ X u t < W ∧ 0 ≤ Y u t ∧ Y u t < H
      · rw [if_pos q, if_pos ⟨q.1, q.2.1, q.2.2.1, .inl q.2.2.2⟩]
      · rw [if_neg q, if_neg (fun r => q ⟨r.1, r.2.1, r.2.2.1, by omega⟩)])
    rw [e]
    exact hend
  · rintro y x s a b c d ⟨g, rfl, hg⟩
    by_cases q : 0 ≤ φ x y ∧ φ x y < w ∧ 0 ≤ ψ x y ∧ ψ x y < h
    · obtain ⟨e1, e2⟩ := hinv x y c d a b
      refine ⟨_, ⟨upd g (φ x y) (ψ x y) (G (φ x y) (ψ x y)), rfl, fun u t a' b' c' d' => ?_⟩, fun hk => hin x y g c d a b q.1 q.2.1 q.2.2.1 q.2.2.2 ?_ hk⟩
      · unfold upd
        by_cases e : u = φ x y ∧ t = ψ x y
        · rw [if_pos e, e.1, e.2, e1, e2, if_pos ⟨c, d, a, .inr ⟨rfl, by omega⟩⟩]
        · rw [if_neg e, hg u t a' b' c' d']
          by_cases r : 0 ≤ X u t ∧ X u t < W ∧ 0 ≤ Y u t ∧ (Y u t < y ∨ Y u t = y ∧ X u t < x)
          · rw [if_pos r, if_pos ⟨r.1, r.2.1, r.2.2.1, by omega⟩]
          · rw [if_neg r, if_neg]
            intro r'
            apply r
            refine ⟨r'.1, r'.2.1, r'.2.2.1, ?_⟩
            rcases r'.2.2.2 with r2 | ⟨r2, r3⟩
            · exact .inl r2
            · right
              refine ⟨r2, ?_⟩
              rcases Int.lt_or_le (X u t) x with r4 | r4
              · exact r4
              · exfalso
                have e3 : X u t = x := by omega
                obtain ⟨e4, e5⟩ := hcov u t a' b' c' d' r'.1 r'.2.1 r'.2.2.1 (by omega)
                rw [e3, r2] at e4 e5
                exact e ⟨e4.symm, e5.symm⟩
      · rw [hg _ _ q.1 q.2.1 q.2.2.1 q.2.2.2, e1, e2, if_neg (by omega)]
    · refine ⟨_, ⟨g, rfl, fun u t a' b' c' d' => ?_⟩, fun hk => hout x y g c d a b q hk⟩
      rw [hg u t a' b' c' d']
      by_cases r : 0 ≤ X u t ∧ X u t < W ∧ 0 ≤ Y u t ∧ (Y u t < y ∨ Y u t = y ∧ X u t < x)
      · rw [if_pos r, if_pos ⟨r.1, r.2.1, r.2.2.1, by omega⟩]
      · rw [if_neg r, if_neg]
        intro r'
        apply r
        refine ⟨r'.1, r'.2.1, r'.2.2.1, ?_⟩
        rcases r'.2.2.2 with r2 | ⟨r2, r3⟩
        · exact .inl r2
        · right
          refine ⟨r2, ?_⟩
          rcases Int.lt_or_le (X u t) x with r4 | r4
          · exact r4
          · exfalso
            have e3 : X u t = x := by omega
            obtain ⟨e4, e5⟩ := hcov u t a' b' c' d' r'.1 r'.2.1 r'.2.2.1 (by omega)
            rw [e3, r2] at e4 e5
            exact q ⟨by omega, by omega, by omega, by omega⟩
  · rintro y s a b ⟨g, rfl, hg⟩
    refine ⟨⟨g, rfl, fun u t a' b' c' d' => ?_⟩, h1' y _ a b⟩
    rw [hg u t a' b' c' d']
    by_cases r : 0 ≤ X u t ∧ X u t < W ∧ 0 ≤ Y u t ∧ (Y u t < y ∨ Y u t = y ∧ X u t < W)
    · rw [if_pos r, if_pos ⟨r.1, r.2.1, r.2.2.1, by omega⟩]
    · rw [if_neg r, if_neg (fun r' => r ⟨r'.1, r'.2.1, r'.2.2.1, by omega⟩)]
  · rw [if_neg (by omega)]
end Go.Proofs.YtacdchogjpeffaaDoorW.Pu
