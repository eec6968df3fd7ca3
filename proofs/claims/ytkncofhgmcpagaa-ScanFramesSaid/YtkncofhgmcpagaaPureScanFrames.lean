/- What Frame returns is what the reference returns, and a wider frame of it is that of the bitmap; for every input, no conditions. -/
import Derived.Test.YtkncofhgmcpagaaPScanFramesx4
import Derived.Test.YtkncofhgmcpagaaQBase
namespace Go.Proofs.Ytkncofhgmcpagaa.Pure
open Go.RowKit Go.Proofs.Ytkncofhgmcpagaa.PScanFrames Go.Proofs.YtkncofhgmcpagaaW.PrintWords Go.Proofs.YtkncofhgmcpagaaW.PrintLast Go.Proofs.YtkncofhgmcpagaaW.PrintMore Go.Proofs.YtkncofhgmcpagaaW.Pu
set_option linter.unusedVariables false
set_option linter.unusedSimpArgs false
/-- The numbers of a list are those of bytes. -/
def Byt (p : List Int) : Prop := ∀ x ∈ p, 0 ≤ x ∧ x ≤ 255
theorem refSame_is (w h : Int) (p : List Int) (w' h' : Int) (p' : List Int) (hp : Byt p) (hp' : Byt p') : incunableref05_Same.f w h p w' h' p' = some (decide (w = w' ∧ h = h' ∧ p = p')) := by
  unfold incunableref05_Same.f
  rw [strOfNums_eq hp hp']
  by_cases a : w = w'
  · by_cases b : h = h'
    · simp [a, b]
    · simp [a, b]
  · simp [a]
theorem val_byt {w h : Int} {p : List Int} (v : Val w h p) : Byt p := fun x hx => ⟨(v.2.2.2.2.2.2 x hx).1, by have := (v.2.2.2.2.2.2 x hx).2; omega⟩

theorem wf_byt {p : List Int} (h : ∀ y ∈ p, (Lit.int .u8 y).wf = true) : Byt p := fun x hx => by
  have h1 : (decide (IntKind.u8.min ≤ x) && decide (x ≤ IntKind.u8.max)) = true := h x hx
  obtain ⟨a, b⟩ := Bool.and_eq_true_iff.mp h1
  exact ⟨of_decide_eq_true a, of_decide_eq_true b⟩
theorem wf_i64 {x : Int} (h : (Lit.int .i64 x).wf = true) : -9223372036854775808 ≤ x ∧ x ≤ 9223372036854775807 := by
  have h1 : (decide (IntKind.i64.min ≤ x) && decide (x ≤ IntKind.i64.max)) = true := h
  obtain ⟨a, b⟩ := Bool.and_eq_true_iff.mp h1
  exact ⟨of_decide_eq_true a, of_decide_eq_true b⟩

theorem own_is (w h : Int) (p : List Int) (hl : p.length < 140737488355328) : scan_own.f w h p = some (w, h, p) := by
  unfold scan_own.f slices_Clone_byte_byte.f
  simp only [Option.bind_some, List.length_nil, Nat.zero_add, List.nil_append]
  rw [if_pos hl]
  rfl
theorem set_same {l : List Int} {i : Int} (h0 : 0 ≤ i) (h1 : i < (l.length : Int)) : l.set i.toNat (rd l i) = l := by
  refine rd_ext (by rw [List.length_set]) (fun j j0 j1 => ?_)
  rw [rd_set l i j _ h0 h1 j0]
  split
  · rename_i e; rw [e]
  · rfl
theorem upd_same {w h : Int} {g : Int → Int → Int} {x y v : Int} (hw : 0 ≤ w) (hh : 0 ≤ h) (e : g x y = v) : tab w h (upd g x y v) = tab w h g := tab_congr hw hh (fun u t _ _ _ _ => by
  unfold upd
  split
  · rename_i z
    rw [z.1, z.2, e]
  · rfl)

instance (w h : Int) (p : List Int) : Decidable (Val w h p) := by unfold Val; exact inferInstance
theorem sid_mul {w h : Int} (hw : 0 ≤ w) (hh : 0 ≤ h) (hw' : w ≤ 200) (hh' : h ≤ 200) : 0 ≤ w * h ∧ w * h ≤ 40000 := by
  have h1 : 0 ≤ w * h := Int.mul_nonneg hw hh
  have h2 : w * h ≤ 200 * h := Int.mul_le_mul_of_nonneg_right hw' hh
  omega

theorem fits_is (w h : Int) : bitmap_fits.f w h = some (decide (Sid w h)) := by
  unfold bitmap_fits.f
  by_cases h1 : 0 ≤ w ∧ 0 ≤ h ∧ w ≤ 200 ∧ h ≤ 200
  · obtain ⟨a, b, c, d⟩ := h1
    have := sid_mul a b c d
    rw [if_pos (by omega), if_pos (by omega), if_pos c, if_pos d, w64 (by omega) (by omega)]
    simp [Sid, a, b, c, d]
  · have h2 : ¬ Sid w h := fun s => h1 ⟨s.1, s.2.1, s.2.2.1, s.2.2.2.1⟩
    simp only [h2, decide_false]
    split
    · split
      · split
        · split
          · omega
          · rfl
        · rfl
      · rfl
    · rfl

theorem Valid_l0 (p : List Int) (hl : (p.length : Int) ≤ 9223372036854775807) : EvP (fun k => bitmap_Valid.l0 k p (p.length : Int) 0) (· = decide (∀ x ∈ p, x ≤ 1)) := by
  refine EvP.up (L := fun k i (_ : Unit) => bitmap_Valid.l0 k p (p.length : Int) i) (fun i _ => 0 ≤ i ∧ ∀ j, 0 ≤ j → j < i → rd p j ≤ 1) p.length ?_ 0 () (by omega) ⟨by omega, fun j _ _ => by omega⟩
  intro i _ ⟨h0, hb⟩ hi ih
  refine EvP.step (fun k => by rw [bitmap_Valid.l0]) ?_
  refine EvP.ite (fun h1 => ?_) (fun h1 => ?_)
  · refine EvP.pos h0 (EvP.pos h1 (EvP.ite (fun h2 => EvP.ret ?_) (fun h2 => ?_)))
    · symm
      rw [decide_eq_false_iff_not]
      intro hall
      have := hall _ (rd_mem h0 h1)
      omega
    · rw [w64 (by omega) (by omega)]
      refine ih () h1 ⟨by omega, fun j hj hj' => ?_⟩
      rcases Int.lt_or_le j i with hji | hji
      · exact hb j hj hji
      · have : j = i := by omega
        subst this
        omega
  · refine EvP.ret ?_
    symm
    rw [decide_eq_true_iff]
    intro x hx
    obtain ⟨n, hn, rfl⟩ := List.getElem_of_mem hx
    have := hb (n : Int) (by omega) (by omega)
    rwa [rd_get p n hn] at this
theorem Valid_is (w h : Int) (p : List Int) (hp : ∀ x ∈ p, 0 ≤ x) (hl : (p.length : Int) ≤ 9223372036854775807) : EvP (fun k => bitmap_Valid.f k w h p) (· = decide (Val w h p)) := by
  unfold bitmap_Valid.f
  refine EvP.bindv (fits_is w h) ?_
  refine EvP.ite (fun h1 => ?_) (fun h1 => ?_)
  · rw [decide_eq_true_iff] at h1
    have hm := sid_mul h1.1 h1.2.1 h1.2.2.1 h1.2.2.2.1
    rw [w64 (by omega) (by omega)]
    refine EvP.step (fun k => by rw [bitmap_Valid.j0]) ?_
    refine EvP.ite (fun h2 => EvP.ret ?_) (fun h2 => ?_)
    · symm
      rw [decide_eq_false_iff_not]
      intro v
      simp [v.2.2.2.2.2.1] at h2
    · refine (Valid_l0 p hl).mono ?_
      rintro r rfl
      have e : (p.length : Int) = w * h := by simpa using h2
      apply decide_eq_decide.mpr
      constructor
      · intro hall
        exact ⟨h1.1, h1.2.1, h1.2.2.1, h1.2.2.2.1, h1.2.2.2.2, e, fun x hx => ⟨hp x hx, hall x hx⟩⟩
      · intro v x hx
        exact (v.2.2.2.2.2.2 x hx).2
  · refine EvP.step (fun k => by rw [bitmap_Valid.j0]) ?_
    refine EvP.pos rfl (EvP.ret ?_)
    symm
    rw [decide_eq_false_iff_not]
    intro v
    exact h1 (decide_eq_true v.sid)

theorem Sides_is (w h : Int) : incunableref05_Sides.f w h = some (decide (Sid w h)) := by
  unfold incunableref05_Sides.f
  by_cases h1 : 0 ≤ w ∧ 0 ≤ h ∧ w ≤ 200 ∧ h ≤ 200
  · obtain ⟨a, b, c, d⟩ := h1
    have := sid_mul a b c d
    rw [if_pos (by omega), if_pos (by omega), if_pos c, if_pos d, w64 (by omega) (by omega)]
    simp [Sid, a, b, c, d]
  · have h2 : ¬ Sid w h := fun s => h1 ⟨s.1, s.2.1, s.2.2.1, s.2.2.2.1⟩
    simp only [h2, decide_false]
    split
    · split
      · split
        · split
          · omega
          · rfl
        · rfl
      · rfl
    · rfl

theorem refValid_l0 (w h : Int) (p : List Int) (hl : (p.length : Int) ≤ 9223372036854775807) : EvP (fun k => incunableref05_Valid.l0 k 0 w h p) (· = decide (∀ x ∈ p, x ≤ 1)) := by
  refine EvP.up (L := fun k i (_ : Unit) => incunableref05_Valid.l0 k i w h p) (fun i _ => 0 ≤ i ∧ ∀ j, 0 ≤ j → j < i → rd p j ≤ 1) p.length ?_ 0 () (by omega) ⟨by omega, fun j _ _ => by omega⟩
  intro i _ ⟨h0, hb⟩ hi ih
  refine EvP.step (fun k => by rw [incunableref05_Valid.l0]) ?_
  refine EvP.ite (fun h1 => ?_) (fun h1 => ?_)
  · refine EvP.pos h0 (EvP.ite (fun h2 => EvP.ret ?_) (fun h2 => ?_))
    · symm
      rw [decide_eq_false_iff_not]
      intro hall
      have := hall _ (rd_mem h0 h1)
      omega
    · rw [w64 (by omega) (by omega)]
      refine ih () h1 ⟨by omega, fun j hj hj' => ?_⟩
      rcases Int.lt_or_le j i with hji | hji
      · exact hb j hj hji
      · have : j = i := by omega
        subst this
        omega
  · refine EvP.ret ?_
    symm
    rw [decide_eq_true_iff]
    intro x hx
    obtain ⟨n, hn, rfl⟩ := List.getElem_of_mem hx
    have := hb (n : Int) (by omega) (by omega)
    rwa [rd_get p n hn] at this
theorem refValid_is (w h : Int) (p : List Int) (hp : ∀ x ∈ p, 0 ≤ x) (hl : (p.length : Int) ≤ 9223372036854775807) : EvP (fun k => incunableref05_Valid.f k w h p) (· = decide (Val w h p)) := by
  unfold incunableref05_Valid.f
  refine EvP.bindv (Sides_is w h) ?_
  refine EvP.ite (fun h1 => ?_) (fun h1 => ?_)
  · rw [decide_eq_true_iff] at h1
    have hm := sid_mul h1.1 h1.2.1 h1.2.2.1 h1.2.2.2.1
    rw [w64 (by omega) (by omega)]
    refine EvP.step (fun k => by rw [incunableref05_Valid.j0]) ?_
    refine EvP.ite (fun h2 => EvP.ret ?_) (fun h2 => ?_)
    · symm
      rw [decide_eq_false_iff_not]
      intro v
      simp [v.2.2.2.2.2.1] at h2
    · refine (refValid_l0 w h p hl).mono ?_
      rintro r rfl
      have e : (p.length : Int) = w * h := by simpa using h2
      apply decide_eq_decide.mpr
      constructor
      · intro hall
        exact ⟨h1.1, h1.2.1, h1.2.2.1, h1.2.2.2.1, h1.2.2.2.2, e, fun x hx => ⟨hp x hx, hall x hx⟩⟩
      · intro v x hx
        exact (v.2.2.2.2.2.2 x hx).2
  · refine EvP.step (fun k => by rw [incunableref05_Valid.j0]) ?_
    refine EvP.pos rfl (EvP.ret ?_)
    symm
    rw [decide_eq_false_iff_not]
    intro v
    exact h1 (decide_eq_true v.sid)

theorem Copy_is (w h : Int) (p : List Int) (hl : p.length < 140737488355328) : incunableref05_Copy.f w h p = some (w, h, p) := by
  unfold incunableref05_Copy.f
  simp only [Option.bind_some, List.length_nil, Nat.zero_add, List.nil_append]
  rw [if_pos hl]

theorem Put_is {w h : Int} {g : Int → Int → Int} {x y v : Int} (hw : 0 ≤ w) (hh : 0 ≤ h) (hm : w * h ≤ 40000) (hx0 : 0 ≤ x) (hx : x < w) (hy0 : 0 ≤ y) (hy : y < h) :
    incunableref05_Put.f w h (tab w h g) x y v = some (tab w h (upd g x y (v % 256))) := by
  have h0 : 0 ≤ w * h := Int.mul_nonneg hw hh
  have hf := flat_lt hx0 hx hy0 hy
  unfold incunableref05_Put.f
  have e : wrap64 (y * w) = y * w := w64 (by omega) (by omega)
  rw [e, w64 (by omega) (by omega), if_pos hf.2.1, if_pos (by rw [tab_length]; omega), set_tab hw hh hx0 hx hy0 hy]

theorem qm {q n : Int} (hn : 0 < n) (hn' : n ≤ 1000000000000) (h0 : -9223372036854775808 ≤ q) (h1 : q ≤ 9223372036854775807) : Int.tmod (wrap64 (Int.tmod q n + n)) n = q % n := by
  rcases Int.lt_or_le q 0 with h | h
  · have e : Int.tmod q n = -((-q) % n) := by
      rw [show q = -(-q) by omega, Int.neg_tmod, tmod_pos (by omega)]
      simp
    have r0 := Int.emod_nonneg (-q) (show n ≠ 0 by omega)
    have r1 := Int.emod_lt_of_pos (-q) hn
    rw [e, w64 (by omega) (by omega), tmod_pos (by omega)]
    have e2 := Int.emod_add_mul_ediv (-q) n
    have e3 : -(-q % n) + n = q + n * (1 + -q / n) := by rw [Int.mul_add]; omega
    rw [e3, Int.add_mul_emod_self_left]
  · have r0 := Int.emod_nonneg q (show n ≠ 0 by omega)
    have r1 := Int.emod_lt_of_pos q hn
    rw [tmod_pos h, w64 (by omega) (by omega), tmod_pos (by omega), Int.add_emod_right, Int.emod_emod_of_dvd _ (Int.dvd_refl n)]

def mdl : Int := 2147483647
def stc (x : Int) : Int := (x * 48271) % 2147483647
def itc : Nat → Int → Int
  | 0, x => x
  | n + 1, x => stc (itc n x)
def bgn (s : Int) : Int := if s % 2147483647 = 0 then 1 else s % 2147483647
def chl (n : Nat) (s : Int) : List Int := lmap n (fun i => itc (i.toNat + 1) (bgn s))
theorem bgn_in (s : Int) : 0 ≤ bgn s ∧ bgn s ≤ 2147483646 := by
  unfold bgn
  split <;> omega
theorem stc_in (x : Int) : 0 ≤ stc x ∧ stc x ≤ 2147483646 := by
  unfold stc
  omega
theorem itc_in (n : Nat) {x : Int} (h0 : 0 ≤ x) (h1 : x ≤ 2147483646) : 0 ≤ itc n x ∧ itc n x ≤ 2147483646 := by
  cases n with
  | zero => exact ⟨h0, h1⟩
  | succ n => exact stc_in _
theorem stc_is {x : Int} (h0 : 0 ≤ x) (h1 : x ≤ 2147483646) : Int.tmod (wrap64 (x * 48271)) 2147483647 = stc x := by
  rw [w64 (by omega) (by omega), tmod_pos (by omega)]
  rfl
theorem lmap_snoc (n : Nat) (f : Int → Int) : lmap (n + 1) f = lmap n f ++ [f n] := by
  unfold lmap
  rw [List.range_succ, List.map_append]
  rfl
theorem lmap_take (n m : Nat) (f : Int → Int) (h : m ≤ n) : (lmap n f).take m = lmap m f := by
  unfold lmap
  rw [← List.map_take, List.take_range, Nat.min_eq_left h]

theorem begin_is (s : Int) (h0 : -9223372036854775808 ≤ s) (h1 : s ≤ 9223372036854775807) : scan_begin.f s = some (bgn s) := by
  unfold scan_begin.f bgn
  rw [qm (by omega) (by omega) h0 h1]
  split <;> rfl
theorem next_is {x : Int} (h0 : 0 ≤ x) (h1 : x ≤ 2147483646) : scan_chance_next.f x = some (stc x, stc x) := by
  unfold scan_chance_next.f
  rw [stc_is h0 h1]
def chanceR (s n : Int) : List Int × Int := if n < 0 ∨ n > 8192 then ([], 2) else (chl n.toNat s, 0)
theorem Chance_j0 (s n : Int) (h0 : -9223372036854775808 ≤ s) (h1 : s ≤ 9223372036854775807) (b : Bool) (hb : b = true ↔ (n < 0 ∨ n > 8192)) : EvP (fun k => scan_Chance.j0 k s n b) (· = chanceR s n) := by
  unfold chanceR
  refine EvP.step (fun k => by rw [scan_Chance.j0]) ?_
  refine EvP.ite (fun a => EvP.ret (by rw [if_pos (hb.mp a)])) (fun a => ?_)
  have a : ¬ (n < 0 ∨ n > 8192) := fun x => a (hb.mpr x)
  rw [if_neg a]
  refine EvP.bindv (begin_is s h0 h1) ?_
  have b0 := bgn_in s
  refine EvP.up (L := fun k i (x : List Int × Int) => scan_Chance.l0 k x.1 n i x.2) (fun i x => 0 ≤ i ∧ x = (chl i.toNat s, itc i.toNat (bgn s))) n ?_ 0 ([], bgn s) (by omega) ⟨by omega, rfl⟩
  intro i x ⟨i0, hx⟩ hi ih
  subst hx
  refine EvP.step (fun k => by rw [scan_Chance.l0]) ?_
  refine EvP.ite (fun c => ?_) (fun c => ?_)
  · have bi := itc_in i.toNat b0.1 b0.2
    refine EvP.bindv (next_is bi.1 bi.2) ?_
    refine EvP.pos (by show (chl i.toNat s).length < _; unfold chl; rw [lmap_length]; omega) ?_
    rw [w64 (x := i + 1) (by omega) (by omega)]
    refine ih (chl i.toNat s ++ [stc (itc i.toNat (bgn s))], stc (itc i.toNat (bgn s))) c ⟨by omega, ?_⟩
    rw [show (i + 1).toNat = i.toNat + 1 by omega]
    unfold chl
    rw [lmap_snoc]
    rfl
  · have : i = n := by omega
    subst this
    exact EvP.ret rfl
theorem Chance_is (s n : Int) (h0 : -9223372036854775808 ≤ s) (h1 : s ≤ 9223372036854775807) : EvP (fun k => scan_Chance.f k s n) (· = chanceR s n) := by
  unfold scan_Chance.f
  exact EvP.ite (fun a => Chance_j0 s n h0 h1 true (by simp [a])) (fun a => Chance_j0 s n h0 h1 _ (by simp; omega))

theorem SameInts_self (l : List Int) (hl : (l.length : Int) ≤ 9223372036854775806) : EvP (fun k => incunableref01_SameInts.f k l l) (· = true) := by
  unfold incunableref01_SameInts.f
  refine EvP.pos rfl ?_
  refine EvP.up (L := fun k i (_ : Unit) => incunableref01_SameInts.l0 k l l i) (fun i _ => 0 ≤ i) l.length ?_ 0 () (by omega) (by omega)
  intro i _ i0 hi ih
  refine EvP.step (fun k => by rw [incunableref01_SameInts.l0]) ?_
  refine EvP.ite (fun c => ?_) (fun c => EvP.ret rfl)
  refine EvP.pos i0 (EvP.pos c (EvP.pos rfl ?_))
  rw [w64 (x := i + 1) (by omega) (by omega)]
  exact ih () c (by omega)

theorem Sane29_is : EvP (fun k => incunablelaw29_Sane.f k) (· = true) := by
  unfold incunablelaw29_Sane.f
  refine EvP.bind (Chance_is 1 2 (by omega) (by omega)) ?_
  rintro _ rfl
  have e : chanceR 1 2 = ([48271, 182605794], 0) := by decide +kernel
  rw [e]
  refine EvP.pos rfl ?_
  refine EvP.bind (SameInts_self _ (by simp)) ?_
  rintro _ rfl
  exact EvP.ret rfl

def frG (w h : Int) (p : List Int) (n : Int) : Int → Int → Int := fun x y => if x < n ∨ y < n ∨ w - 1 - x < n ∨ h - 1 - y < n then 0 else pix w h p x y
def frR (w h : Int) (p : List Int) (n : Int) : Int × Int × List Int × Int := if Val w h p then (if n < 0 then (0, 0, [], 2) else (w, h, tab w h (frG w h p n), 0)) else (0, 0, [], 30)
theorem Large_is (w h : Int) (p : List Int) : incunablelaw29_Large.f w h p = some (decide ((p.length : Int) > 2000)) := rfl
theorem fr_val {w h : Int} {p : List Int} (v : Val w h p) (n : Int) : Val w h (tab w h (frG w h p n)) := val_tab v.sid (fun x y _ _ _ _ => by
  unfold frG
  have := v.pix01 x y
  split <;> omega)
theorem frR_byt (w h : Int) (p : List Int) (n : Int) : Byt (frR w h p n).2.2.1 := by
  unfold frR
  split
  · rename_i v
    split
    · exact fun x hx => by simp at hx
    · exact val_byt (fr_val v n)
  · exact fun x hx => by simp at hx
theorem fr_fr {w h : Int} {p : List Int} (v : Val w h p) {n m : Int} (nm : n ≤ m) : tab w h (frG w h (tab w h (frG w h p n)) m) = tab w h (frG w h p m) := by
  refine tab_congr v.1 v.2.1 (fun x y a b c d => ?_)
  show (if _ then _ else _) = (if _ then _ else _)
  split
  · rfl
  · rename_i q
    rw [pix_tab, if_pos ⟨a, b, c, d⟩]
    unfold frG
    rw [if_neg (by omega)]
theorem Frame_is (w h : Int) (p : List Int) (n : Int) (hp : ∀ x ∈ p, 0 ≤ x) (hl : (p.length : Int) ≤ 9223372036854775807) : EvP (fun k => scan_Frame.f k w h p n) (· = frR w h p n) := by
  unfold scan_Frame.f frR
  refine EvP.bind (Valid_is w h p hp hl) ?_
  rintro _ rfl
  refine EvP.ite (fun q => ?_) (fun q => EvP.ret (by rw [if_neg (by simpa using q)]))
  have v : Val w h p := by simpa using q
  rw [if_pos v]
  refine EvP.ite (fun a => EvP.ret (by rw [if_pos a])) (fun a => ?_)
  rw [if_neg a]
  have hlen : (p.length : Int) ≤ 8192 := by rw [v.2.2.2.2.2.1]; exact v.2.2.2.2.1
  obtain ⟨_, _, w200, h200, _⟩ := v.sid
  refine EvP.bindv (own_is w h p (by omega)) ?_
  refine EvP.fillT (L := fun k i l => scan_Frame.l0 k n (p.length : Int) i w h p w h l) v.1 v.2.1 p v.2.2.2.2.2.1 (frG w h p n) ?_ ?_
  · intro i l h0 h2 hs hw0 p0 p1 q0 q1 e1 e2 fl er hk
    have ep : pix w h p (i % w) (i / w) = rd p i := by rw [pix_in p0 p1 q0 q1, fl]
    refine EvP.step (fun k => by rw [scan_Frame.l0]) ?_
    refine EvP.pos h2 (EvP.neg (by omega) ?_)
    rw [e1, e2, w64 (x := i / w) (by omega) (by omega), w64 (x := w - 1) (by omega) (by omega), w64 (x := w - 1 - i % w) (by omega) (by omega), w64 (x := h - 1) (by omega) (by omega), w64 (x := h - 1 - i / w) (by omega) (by omega)]
    have fin : ∀ b : Bool, (b = true ↔ (i % w < n ∨ i / w < n ∨ w - 1 - i % w < n ∨ h - 1 - i / w < n)) → EvP (fun k => scan_Frame.j1 k n i (p.length : Int) i b w h p w h l) (· = (w, h, tab w h (frG w h p n), 0)) := by
      intro b hb
      refine EvP.step (fun k => by rw [scan_Frame.j1]) ?_
      rw [w64 (x := i + 1) (by omega) (by omega)]
      refine EvP.ite (fun c => ?_) (fun c => ?_)
      · have eg : frG w h p n (i % w) (i / w) = 0 := if_pos (hb.mp c)
        rw [eg] at hk
        exact EvP.pos h0 (EvP.pos (by omega) hk)
      · have eg : frG w h p n (i % w) (i / w) = pix w h p (i % w) (i / w) := if_neg (fun z => c (hb.mpr z))
        rw [eg, ep, ← er, set_same h0 (by omega)] at hk
        exact hk
    refine EvP.ite (fun c => fin true (by simp [c])) (fun c1 => EvP.ite (fun c => fin true (by simp [c])) (fun c2 => EvP.ite (fun c => fin true (by simp [c])) (fun c3 => fin _ ?_)))
    rw [decide_eq_true_iff]
    omega
  · refine EvP.step (fun k => by rw [scan_Frame.l0]) ?_
    exact EvP.neg (by omega) (EvP.ret rfl)
theorem refFrame_is (w h : Int) (p : List Int) (n : Int) (hp : ∀ x ∈ p, 0 ≤ x) (hl : (p.length : Int) ≤ 9223372036854775807) : EvP (fun k => incunableref29_Frame.f k w h p n) (· = frR w h p n) := by
  unfold incunableref29_Frame.f frR
  refine EvP.bind (refValid_is w h p hp hl) ?_
  rintro _ rfl
  refine EvP.ite (fun q => ?_) (fun q => EvP.ret (by rw [if_neg (by simpa using q)]))
  have v : Val w h p := by simpa using q
  rw [if_pos v]
  refine EvP.ite (fun a => EvP.ret (by rw [if_pos a])) (fun a => ?_)
  rw [if_neg a]
  have hlen : (p.length : Int) ≤ 8192 := by rw [v.2.2.2.2.2.1]; exact v.2.2.2.2.1
  obtain ⟨hw, hh, w200, h200, hm⟩ := v.sid
  refine EvP.bindv (Copy_is w h p (by omega)) ?_
  have e0 : tab w h (fun u t => if 0 ≤ u ∧ u < w ∧ 0 ≤ t ∧ t < h then frG w h p n u t else pix w h p u t) = tab w h (frG w h p n) := tab_congr hw hh (fun u t a b c d => if_pos ⟨a, b, c, d⟩)
  have ep : EvP (fun k => incunableref29_Frame.l0 k n 0 w h p w h (tab w h (pix w h p))) (· = (w, h, tab w h (frG w h p n), 0)) := by
    refine EvP.rasterP (L0 := fun k j (l : List Int) => incunableref29_Frame.l0 k n j w h p w h l) (L1 := fun k j i (l : List Int) => incunableref29_Frame.l1 k n j i w h p w h l) (W := w) (H := h)
      (fun i j => i) (fun i j => j) (fun u t => u) (fun u t => t) (pix w h p) (frG w h p n) hw hh hw hh ?_ ?_ ?_ ?_ ?_ ?_ ?_
    · intro i j a b c d
      exact ⟨rfl, rfl⟩
    · intro u t a b c d e f g' h'
      exact ⟨rfl, rfl⟩
    · intro j l a b hk
      refine EvP.step (fun k => by rw [incunableref29_Frame.l0]) ?_
      exact EvP.pos b hk
    · refine EvP.step (fun k => by rw [incunableref29_Frame.l0]) ?_
      refine EvP.neg (by omega) (EvP.ret ?_)
      rw [e0]
    · intro i j g' a1 b1 c1 d1 _ _ _ _ e hk
      have e : g' i j = pix w h p i j := e
      have hk : EvP (fun k => incunableref29_Frame.l1 k n j (i + 1) w h p w h (tab w h (upd g' i j (frG w h p n i j)))) _ := hk
      refine EvP.step (fun k => by rw [incunableref29_Frame.l1]) ?_
      refine EvP.pos b1 ?_
      rw [w64 (x := w - 1) (by omega) (by omega), w64 (x := w - 1 - i) (by omega) (by omega), w64 (x := h - 1) (by omega) (by omega), w64 (x := h - 1 - j) (by omega) (by omega), w64 (x := i + 1) (by omega) (by omega)]
      have em : (mn (mn i j) (mn (w - 1 - i) (h - 1 - j)) < n) ↔ (i < n ∨ j < n ∨ w - 1 - i < n ∨ h - 1 - j < n) := by
        unfold mn
        split <;> split <;> split <;> omega
      refine EvP.ite (fun r => ?_) (fun r => ?_)
      · have eg : frG w h p n i j = 0 := if_pos (em.mp r)
        rw [eg] at hk
        refine EvP.bindv (Put_is hw hh (by omega) a1 b1 c1 d1) ?_
        exact hk
      · have eg : frG w h p n i j = pix w h p i j := if_neg (fun z => r (em.mpr z))
        rw [eg, upd_same hw hh e] at hk
        exact hk
    · intro i j g' a b c d q hk
      exact absurd ⟨a, b, c, d⟩ q
    · intro j l a b hk
      refine EvP.step (fun k => by rw [incunableref29_Frame.l1]) ?_
      refine EvP.neg (by omega) ?_
      rw [w64 (x := j + 1) (by omega) (by omega)]
      exact hk
  rw [← v.tab] at ep
  exact ep
theorem ScanFrames : incunablelaw29_ScanFrames.Pure := by
  intro w h p n m _ _ hp _ _
  have hb := wf_byt hp.2.2
  refine EvP.rounds ?_
  unfold incunablelaw29_ScanFrames.f
  refine EvP.bindv (Large_is w h p) ?_
  refine EvP.ite (fun a => ?_) (fun a => ?_)
  · refine EvP.bind Sane29_is ?_
    rintro _ rfl
    exact EvP.ret rfl
  have a : ¬ (p.length : Int) > 2000 := by simpa using a
  refine EvP.bind (Frame_is w h p n (fun z hz => (hb z hz).1) (by omega)) ?_
  rintro _ rfl
  refine EvP.bind (refFrame_is w h p n (fun z hz => (hb z hz).1) (by omega)) ?_
  rintro _ rfl
  refine EvP.pos rfl ?_
  refine EvP.bindv (refSame_is _ _ _ _ _ _ (frR_byt w h p n) (frR_byt w h p n)) ?_
  refine EvP.step (fun k => by rw [incunablelaw29_ScanFrames.j0]) ?_
  refine EvP.neg (by simp) ?_
  have fin : ∀ b : Bool, (b = false → (frR w h p n).2.2.2 = 0 ∧ n ≤ m) → EvP (fun k => incunablelaw29_ScanFrames.j1 k m b w h p (frR w h p n).1 (frR w h p n).2.1 (frR w h p n).2.2.1) (· = true) := by
    intro b hbb
    refine EvP.step (fun k => by rw [incunablelaw29_ScanFrames.j1]) ?_
    refine EvP.ite (fun c => ?_) (fun c => ?_)
    · refine EvP.bind Sane29_is ?_
      rintro _ rfl
      exact EvP.ret rfl
    · obtain ⟨e, nm⟩ := hbb (by simpa using c)
      by_cases v : Val w h p
      · by_cases n0 : n < 0
        · unfold frR at e
          rw [if_pos v, if_pos n0] at e
          exact absurd e (by decide)
        · have vf := fr_val v n
          have e1 : frR w h p n = (w, h, tab w h (frG w h p n), 0) := by
            unfold frR
            rw [if_pos v, if_neg n0]
          have e2 : frR w h (tab w h (frG w h p n)) m = (w, h, tab w h (frG w h p m), 0) := by
            unfold frR
            rw [if_pos vf, if_neg (by omega), fr_fr v nm]
          have e3 : frR w h p m = (w, h, tab w h (frG w h p m), 0) := by
            unfold frR
            rw [if_pos v, if_neg (by omega)]
          rw [e1]
          have lf : ((tab w h (frG w h p n)).length : Int) ≤ 8192 := by rw [vf.2.2.2.2.2.1]; exact vf.2.2.2.2.1
          refine EvP.bind (Frame_is w h (tab w h (frG w h p n)) m (fun z hz => (val_byt vf z hz).1) (by omega)) ?_
          rintro _ rfl
          refine EvP.bind (Frame_is w h p m (fun z hz => (hb z hz).1) (by omega)) ?_
          rintro _ rfl
          rw [e2, e3]
          refine EvP.pos rfl (EvP.pos rfl ?_)
          have by3 := val_byt (fr_val v m)
          refine EvP.bindv (refSame_is _ _ _ _ _ _ by3 by3) ?_
          refine EvP.pos (by simp) ?_
          refine EvP.bind Sane29_is ?_
          rintro _ rfl
          exact EvP.ret rfl
      · unfold frR at e
        rw [if_neg v] at e
        exact absurd e (by decide)
  refine EvP.ite (fun e => ?_) (fun e => fin true (by simp))
  exact fin _ (fun q => ⟨e, by simpa using q⟩)

end Go.Proofs.Ytkncofhgmcpagaa.Pure
