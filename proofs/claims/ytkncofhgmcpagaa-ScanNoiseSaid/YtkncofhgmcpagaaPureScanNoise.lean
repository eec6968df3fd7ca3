/- A noisy bitmap is that of the reference; noise twice with one seed and rate, and noise of rate 0, are nothing; for every input, no conditions. -/
import Derived.Test.YtkncofhgmcpagaaPScanNoisex4
import Derived.Test.YtkncofhgmcpagaaQBase
namespace Go.Proofs.Ytkncofhgmcpagaa.Pure
open Go.RowKit Go.Proofs.Ytkncofhgmcpagaa.PScanNoise Go.Proofs.YtkncofhgmcpagaaW.PrintWords Go.Proofs.YtkncofhgmcpagaaW.PrintLast Go.Proofs.YtkncofhgmcpagaaW.PrintMore Go.Proofs.YtkncofhgmcpagaaW.Pu
set_option linter.unusedVariables false
set_option linter.unusedSimpArgs false
/-- The numbers of a list are those of bytes. -/
def Byt (p : List Int) : Prop := ∀ x ∈ p, 0 ≤ x ∧ x ≤ 255
theorem refSame_is (w h : Int) (p : List Int) (w' h' : Int) (p' : List Int) (hp : Byt p) (hp' : Byt p') : incunableref05_Same.f w h p w' h' p' = some (decide (w = w' ∧ h = h' ∧ p = p')) := by
  unfold incunableref05_Same.f
  rw [strOfNums_eq hp hp']
  by_cases a : w = w'
  · by_cases b : h = h'
    · simp [a, b]
    · simp [a, b]
  · simp [a]
theorem val_byt {w h : Int} {p : List Int} (v : Val w h p) : Byt p := fun x hx => ⟨(v.2.2.2.2.2.2 x hx).1, by have := (v.2.2.2.2.2.2 x hx).2; omega⟩

theorem wf_byt {p : List Int} (h : ∀ y ∈ p, (Lit.int .u8 y).wf = true) : Byt p := fun x hx => by
  have h1 : (decide (IntKind.u8.min ≤ x) && decide (x ≤ IntKind.u8.max)) = true := h x hx
  obtain ⟨a, b⟩ := Bool.and_eq_true_iff.mp h1
  exact ⟨of_decide_eq_true a, of_decide_eq_true b⟩
theorem wf_i64 {x : Int} (h : (Lit.int .i64 x).wf = true) : -9223372036854775808 ≤ x ∧ x ≤ 9223372036854775807 := by
  have h1 : (decide (IntKind.i64.min ≤ x) && decide (x ≤ IntKind.i64.max)) = true := h
  obtain ⟨a, b⟩ := Bool.and_eq_true_iff.mp h1
  exact ⟨of_decide_eq_true a, of_decide_eq_true b⟩

theorem qm {q n : Int} (hn : 0 < n) (hn' : n ≤ 1000000000000) (h0 : -9223372036854775808 ≤ q) (h1 : q ≤ 9223372036854775807) : Int.tmod (wrap64 (Int.tmod q n + n)) n = q % n := by
  rcases Int.lt_or_le q 0 with h | h
  · have e : Int.tmod q n = -((-q) % n) := by
      rw [show q = -(-q) by omega, Int.neg_tmod, tmod_pos (by omega)]
      simp
    have r0 := Int.emod_nonneg (-q) (show n ≠ 0 by omega)
    have r1 := Int.emod_lt_of_pos (-q) hn
    rw [e, w64 (by omega) (by omega), tmod_pos (by omega)]
    have e2 := Int.emod_add_mul_ediv (-q) n
    have e3 : -(-q % n) + n = q + n * (1 + -q / n) := by rw [Int.mul_add]; omega
    rw [e3, Int.add_mul_emod_self_left]
  · have r0 := Int.emod_nonneg q (show n ≠ 0 by omega)
    have r1 := Int.emod_lt_of_pos q hn
    rw [tmod_pos h, w64 (by omega) (by omega), tmod_pos (by omega), Int.add_emod_right, Int.emod_emod_of_dvd _ (Int.dvd_refl n)]

def mdl : Int := 2147483647
def stc (x : Int) : Int := (x * 48271) % 2147483647
def itc : Nat → Int → Int
  | 0, x => x
  | n + 1, x => stc (itc n x)
def bgn (s : Int) : Int := if s % 2147483647 = 0 then 1 else s % 2147483647
def chl (n : Nat) (s : Int) : List Int := lmap n (fun i => itc (i.toNat + 1) (bgn s))
theorem bgn_in (s : Int) : 0 ≤ bgn s ∧ bgn s ≤ 2147483646 := by
  unfold bgn
  split <;> omega
theorem stc_in (x : Int) : 0 ≤ stc x ∧ stc x ≤ 2147483646 := by
  unfold stc
  omega
theorem itc_in (n : Nat) {x : Int} (h0 : 0 ≤ x) (h1 : x ≤ 2147483646) : 0 ≤ itc n x ∧ itc n x ≤ 2147483646 := by
  cases n with
  | zero => exact ⟨h0, h1⟩
  | succ n => exact stc_in _
theorem stc_is {x : Int} (h0 : 0 ≤ x) (h1 : x ≤ 2147483646) : Int.tmod (wrap64 (x * 48271)) 2147483647 = stc x := by
  rw [w64 (by omega) (by omega), tmod_pos (by omega)]
  rfl
theorem lmap_snoc (n : Nat) (f : Int → Int) : lmap (n + 1) f = lmap n f ++ [f n] := by
  unfold lmap
  rw [List.range_succ, List.map_append]
  rfl
theorem lmap_take (n m : Nat) (f : Int → Int) (h : m ≤ n) : (lmap n f).take m = lmap m f := by
  unfold lmap
  rw [← List.map_take, List.take_range, Nat.min_eq_left h]

instance (w h : Int) (p : List Int) : Decidable (Val w h p) := by unfold Val; exact inferInstance
theorem sid_mul {w h : Int} (hw : 0 ≤ w) (hh : 0 ≤ h) (hw' : w ≤ 200) (hh' : h ≤ 200) : 0 ≤ w * h ∧ w * h ≤ 40000 := by
  have h1 : 0 ≤ w * h := Int.mul_nonneg hw hh
  have h2 : w * h ≤ 200 * h := Int.mul_le_mul_of_nonneg_right hw' hh
  omega

def noiL (p : List Int) (s r : Int) : List Int := lmap p.length (fun i => if itc (i.toNat + 1) (bgn s) % 1000 < r then 1 - rd p i else rd p i)
def noiseR (w h : Int) (p : List Int) (s r : Int) : Int × Int × List Int × Int := if Val w h p then (if r < 0 ∨ r > 1000 then (0, 0, [], 2) else (w, h, noiL p s r, 0)) else (0, 0, [], 30)
theorem lmap_mem {n : Nat} {f : Int → Int} {P : Int → Prop} (h : ∀ i : Int, 0 ≤ i → i < n → P (f i)) : ∀ x ∈ lmap n f, P x := by
  intro x hx
  obtain ⟨i, hi, rfl⟩ := List.mem_map.1 hx
  rw [List.mem_range] at hi
  exact h i (by omega) (by omega)
theorem noise_val {w h : Int} {p : List Int} (v : Val w h p) (s r : Int) : Val w h (noiL p s r) := by
  obtain ⟨a, b, c, d, e, f, g⟩ := v
  refine ⟨a, b, c, d, e, by unfold noiL; rw [lmap_length]; exact f, ?_⟩
  refine lmap_mem (fun i i0 i1 => ?_)
  have := g _ (rd_mem (l := p) i0 i1)
  split <;> omega
theorem noise_twice {w h : Int} {p : List Int} (v : Val w h p) (s r : Int) : noiL (noiL p s r) s r = p := by
  have e : (noiL p s r).length = p.length := by unfold noiL; rw [lmap_length]
  refine (eq_lmap (l := p) (n := (noiL p s r).length) (by rw [e]) (fun i i0 i1 => ?_)).symm
  have i1' : i < (p.length : Int) := by omega
  unfold noiL
  rw [rd_lmap _ _ _ i0 i1']
  split <;> omega
theorem noise_none {p : List Int} (s : Int) : noiL p s 0 = p := by
  refine (eq_lmap rfl (fun i i0 i1 => ?_)).symm
  have := itc_in (i.toNat + 1) (bgn_in s).1 (bgn_in s).2
  rw [if_neg (by omega)]
theorem noiseR_byt (w h : Int) (p : List Int) (s r : Int) : Byt (noiseR w h p s r).2.2.1 := by
  unfold noiseR
  split
  · rename_i v
    split
    · exact fun x hx => by simp at hx
    · exact val_byt (noise_val v s r)
  · exact fun x hx => by simp at hx

theorem begin_is (s : Int) (h0 : -9223372036854775808 ≤ s) (h1 : s ≤ 9223372036854775807) : scan_begin.f s = some (bgn s) := by
  unfold scan_begin.f bgn
  rw [qm (by omega) (by omega) h0 h1]
  split <;> rfl
theorem next_is {x : Int} (h0 : 0 ≤ x) (h1 : x ≤ 2147483646) : scan_chance_next.f x = some (stc x, stc x) := by
  unfold scan_chance_next.f
  rw [stc_is h0 h1]
def chanceR (s n : Int) : List Int × Int := if n < 0 ∨ n > 8192 then ([], 2) else (chl n.toNat s, 0)
theorem Chance_j0 (s n : Int) (h0 : -9223372036854775808 ≤ s) (h1 : s ≤ 9223372036854775807) (b : Bool) (hb : b = true ↔ (n < 0 ∨ n > 8192)) : EvP (fun k => scan_Chance.j0 k s n b) (· = chanceR s n) := by
  unfold chanceR
  refine EvP.step (fun k => by rw [scan_Chance.j0]) ?_
  refine EvP.ite (fun a => EvP.ret (by rw [if_pos (hb.mp a)])) (fun a => ?_)
  have a : ¬ (n < 0 ∨ n > 8192) := fun x => a (hb.mpr x)
  rw [if_neg a]
  refine EvP.bindv (begin_is s h0 h1) ?_
  have b0 := bgn_in s
  refine EvP.up (L := fun k i (x : List Int × Int) => scan_Chance.l0 k x.1 n i x.2) (fun i x => 0 ≤ i ∧ x = (chl i.toNat s, itc i.toNat (bgn s))) n ?_ 0 ([], bgn s) (by omega) ⟨by omega, rfl⟩
  intro i x ⟨i0, hx⟩ hi ih
  subst hx
  refine EvP.step (fun k => by rw [scan_Chance.l0]) ?_
  refine EvP.ite (fun c => ?_) (fun c => ?_)
  · have bi := itc_in i.toNat b0.1 b0.2
    refine EvP.bindv (next_is bi.1 bi.2) ?_
    refine EvP.pos (by show (chl i.toNat s).length < _; unfold chl; rw [lmap_length]; omega) ?_
    rw [w64 (x := i + 1) (by omega) (by omega)]
    refine ih (chl i.toNat s ++ [stc (itc i.toNat (bgn s))], stc (itc i.toNat (bgn s))) c ⟨by omega, ?_⟩
    rw [show (i + 1).toNat = i.toNat + 1 by omega]
    unfold chl
    rw [lmap_snoc]
    rfl
  · have : i = n := by omega
    subst this
    exact EvP.ret rfl
theorem Chance_is (s n : Int) (h0 : -9223372036854775808 ≤ s) (h1 : s ≤ 9223372036854775807) : EvP (fun k => scan_Chance.f k s n) (· = chanceR s n) := by
  unfold scan_Chance.f
  exact EvP.ite (fun a => Chance_j0 s n h0 h1 true (by simp [a])) (fun a => Chance_j0 s n h0 h1 _ (by simp; omega))

theorem refchance_j0 (s n : Int) (x : Int) (hx : x = bgn s) (hn : 0 ≤ n) (hn' : n ≤ 1000000) : EvP (fun k => incunableref29_chance.j0 k n x) (· = chl n.toNat s) := by
  subst hx
  have b0 := bgn_in s
  refine EvP.step (fun k => by rw [incunableref29_chance.j0]) ?_
  refine EvP.up (L := fun k i (x : List Int × Int) => incunableref29_chance.l0 k n x.2 x.1 i) (fun i x => 0 ≤ i ∧ x = (chl i.toNat s, itc i.toNat (bgn s))) n ?_ 0 ([], bgn s) (by omega) ⟨by omega, rfl⟩
  intro i x ⟨i0, hx⟩ hi ih
  subst hx
  refine EvP.step (fun k => by rw [incunableref29_chance.l0]) ?_
  refine EvP.ite (fun c => ?_) (fun c => ?_)
  · have bi := itc_in i.toNat b0.1 b0.2
    refine EvP.pos (by show (chl i.toNat s).length < _; unfold chl; rw [lmap_length]; omega) ?_
    rw [w64 (x := i + 1) (by omega) (by omega), stc_is bi.1 bi.2]
    refine ih (chl i.toNat s ++ [stc (itc i.toNat (bgn s))], stc (itc i.toNat (bgn s))) c ⟨by omega, ?_⟩
    rw [show (i + 1).toNat = i.toNat + 1 by omega]
    unfold chl
    rw [lmap_snoc]
    rfl
  · have : i = n := by omega
    subst this
    exact EvP.ret rfl
theorem refchance_is (s n : Int) (h0 : -9223372036854775808 ≤ s) (h1 : s ≤ 9223372036854775807) (hn : 0 ≤ n) (hn' : n ≤ 1000000) : EvP (fun k => incunableref29_chance.f k s n) (· = chl n.toNat s) := by
  unfold incunableref29_chance.f
  rw [qm (by omega) (by omega) h0 h1]
  refine EvP.ite (fun a => refchance_j0 s n 1 ?_ hn hn') (fun a => refchance_j0 s n _ ?_ hn hn')
  · unfold bgn
    rw [if_pos a]
  · unfold bgn
    rw [if_neg a]

theorem own_is (w h : Int) (p : List Int) (hl : p.length < 140737488355328) : scan_own.f w h p = some (w, h, p) := by
  unfold scan_own.f slices_Clone_byte_byte.f
  simp only [Option.bind_some, List.length_nil, Nat.zero_add, List.nil_append]
  rw [if_pos hl]
  rfl
theorem set_same {l : List Int} {i : Int} (h0 : 0 ≤ i) (h1 : i < (l.length : Int)) : l.set i.toNat (rd l i) = l := by
  refine rd_ext (by rw [List.length_set]) (fun j j0 j1 => ?_)
  rw [rd_set l i j _ h0 h1 j0]
  split
  · rename_i e; rw [e]
  · rfl
theorem upd_same {w h : Int} {g : Int → Int → Int} {x y v : Int} (hw : 0 ≤ w) (hh : 0 ≤ h) (e : g x y = v) : tab w h (upd g x y v) = tab w h g := tab_congr hw hh (fun u t _ _ _ _ => by
  unfold upd
  split
  · rename_i z
    rw [z.1, z.2, e]
  · rfl)

theorem fits_is (w h : Int) : bitmap_fits.f w h = some (decide (Sid w h)) := by
  unfold bitmap_fits.f
  by_cases h1 : 0 ≤ w ∧ 0 ≤ h ∧ w ≤ 200 ∧ h ≤ 200
  · obtain ⟨a, b, c, d⟩ := h1
    have := sid_mul a b c d
    rw [if_pos (by omega), if_pos (by omega), if_pos c, if_pos d, w64 (by omega) (by omega)]
    simp [Sid, a, b, c, d]
  · have h2 : ¬ Sid w h := fun s => h1 ⟨s.1, s.2.1, s.2.2.1, s.2.2.2.1⟩
    simp only [h2, decide_false]
    split
    · split
      · split
        · split
          · omega
          · rfl
        · rfl
      · rfl
    · rfl

theorem Valid_l0 (p : List Int) (hl : (p.length : Int) ≤ 9223372036854775807) : EvP (fun k => bitmap_Valid.l0 k p (p.length : Int) 0) (· = decide (∀ x ∈ p, x ≤ 1)) := by
  refine EvP.up (L := fun k i (_ : Unit) => bitmap_Valid.l0 k p (p.length : Int) i) (fun i _ => 0 ≤ i ∧ ∀ j, 0 ≤ j → j < i → rd p j ≤ 1) p.length ?_ 0 () (by omega) ⟨by omega, fun j _ _ => by omega⟩
  intro i _ ⟨h0, hb⟩ hi ih
  refine EvP.step (fun k => by rw [bitmap_Valid.l0]) ?_
  refine EvP.ite (fun h1 => ?_) (fun h1 => ?_)
  · refine EvP.pos h0 (EvP.pos h1 (EvP.ite (fun h2 => EvP.ret ?_) (fun h2 => ?_)))
    · symm
      rw [decide_eq_false_iff_not]
      intro hall
      have := hall _ (rd_mem h0 h1)
      omega
    · rw [w64 (by omega) (by omega)]
      refine ih () h1 ⟨by omega, fun j hj hj' => ?_⟩
      rcases Int.lt_or_le j i with hji | hji
      · exact hb j hj hji
      · have : j = i := by omega
        subst this
        omega
  · refine EvP.ret ?_
    symm
    rw [decide_eq_true_iff]
    intro x hx
    obtain ⟨n, hn, rfl⟩ := List.getElem_of_mem hx
    have := hb (n : Int) (by omega) (by omega)
    rwa [rd_get p n hn] at this
theorem Valid_is (w h : Int) (p : List Int) (hp : ∀ x ∈ p, 0 ≤ x) (hl : (p.length : Int) ≤ 9223372036854775807) : EvP (fun k => bitmap_Valid.f k w h p) (· = decide (Val w h p)) := by
  unfold bitmap_Valid.f
  refine EvP.bindv (fits_is w h) ?_
  refine EvP.ite (fun h1 => ?_) (fun h1 => ?_)
  · rw [decide_eq_true_iff] at h1
    have hm := sid_mul h1.1 h1.2.1 h1.2.2.1 h1.2.2.2.1
    rw [w64 (by omega) (by omega)]
    refine EvP.step (fun k => by rw [bitmap_Valid.j0]) ?_
    refine EvP.ite (fun h2 => EvP.ret ?_) (fun h2 => ?_)
    · symm
      rw [decide_eq_false_iff_not]
      intro v
      simp [v.2.2.2.2.2.1] at h2
    · refine (Valid_l0 p hl).mono ?_
      rintro r rfl
      have e : (p.length : Int) = w * h := by simpa using h2
      apply decide_eq_decide.mpr
      constructor
      · intro hall
        exact ⟨h1.1, h1.2.1, h1.2.2.1, h1.2.2.2.1, h1.2.2.2.2, e, fun x hx => ⟨hp x hx, hall x hx⟩⟩
      · intro v x hx
        exact (v.2.2.2.2.2.2 x hx).2
  · refine EvP.step (fun k => by rw [bitmap_Valid.j0]) ?_
    refine EvP.pos rfl (EvP.ret ?_)
    symm
    rw [decide_eq_false_iff_not]
    intro v
    exact h1 (decide_eq_true v.sid)

theorem Sides_is (w h : Int) : incunableref05_Sides.f w h = some (decide (Sid w h)) := by
  unfold incunableref05_Sides.f
  by_cases h1 : 0 ≤ w ∧ 0 ≤ h ∧ w ≤ 200 ∧ h ≤ 200
  · obtain ⟨a, b, c, d⟩ := h1
    have := sid_mul a b c d
    rw [if_pos (by omega), if_pos (by omega), if_pos c, if_pos d, w64 (by omega) (by omega)]
    simp [Sid, a, b, c, d]
  · have h2 : ¬ Sid w h := fun s => h1 ⟨s.1, s.2.1, s.2.2.1, s.2.2.2.1⟩
    simp only [h2, decide_false]
    split
    · split
      · split
        · split
          · omega
          · rfl
        · rfl
      · rfl
    · rfl

theorem refValid_l0 (w h : Int) (p : List Int) (hl : (p.length : Int) ≤ 9223372036854775807) : EvP (fun k => incunableref05_Valid.l0 k 0 w h p) (· = decide (∀ x ∈ p, x ≤ 1)) := by
  refine EvP.up (L := fun k i (_ : Unit) => incunableref05_Valid.l0 k i w h p) (fun i _ => 0 ≤ i ∧ ∀ j, 0 ≤ j → j < i → rd p j ≤ 1) p.length ?_ 0 () (by omega) ⟨by omega, fun j _ _ => by omega⟩
  intro i _ ⟨h0, hb⟩ hi ih
  refine EvP.step (fun k => by rw [incunableref05_Valid.l0]) ?_
  refine EvP.ite (fun h1 => ?_) (fun h1 => ?_)
  · refine EvP.pos h0 (EvP.ite (fun h2 => EvP.ret ?_) (fun h2 => ?_))
    · symm
      rw [decide_eq_false_iff_not]
      intro hall
      have := hall _ (rd_mem h0 h1)
      omega
    · rw [w64 (by omega) (by omega)]
      refine ih () h1 ⟨by omega, fun j hj hj' => ?_⟩
      rcases Int.lt_or_le j i with hji | hji
      · exact hb j hj hji
      · have : j = i := by omega
        subst this
        omega
  · refine EvP.ret ?_
    symm
    rw [decide_eq_true_iff]
    intro x hx
    obtain ⟨n, hn, rfl⟩ := List.getElem_of_mem hx
    have := hb (n : Int) (by omega) (by omega)
    rwa [rd_get p n hn] at this
theorem refValid_is (w h : Int) (p : List Int) (hp : ∀ x ∈ p, 0 ≤ x) (hl : (p.length : Int) ≤ 9223372036854775807) : EvP (fun k => incunableref05_Valid.f k w h p) (· = decide (Val w h p)) := by
  unfold incunableref05_Valid.f
  refine EvP.bindv (Sides_is w h) ?_
  refine EvP.ite (fun h1 => ?_) (fun h1 => ?_)
  · rw [decide_eq_true_iff] at h1
    have hm := sid_mul h1.1 h1.2.1 h1.2.2.1 h1.2.2.2.1
    rw [w64 (by omega) (by omega)]
    refine EvP.step (fun k => by rw [incunableref05_Valid.j0]) ?_
    refine EvP.ite (fun h2 => EvP.ret ?_) (fun h2 => ?_)
    · symm
      rw [decide_eq_false_iff_not]
      intro v
      simp [v.2.2.2.2.2.1] at h2
    · refine (refValid_l0 w h p hl).mono ?_
      rintro r rfl
      have e : (p.length : Int) = w * h := by simpa using h2
      apply decide_eq_decide.mpr
      constructor
      · intro hall
        exact ⟨h1.1, h1.2.1, h1.2.2.1, h1.2.2.2.1, h1.2.2.2.2, e, fun x hx => ⟨hp x hx, hall x hx⟩⟩
      · intro v x hx
        exact (v.2.2.2.2.2.2 x hx).2
  · refine EvP.step (fun k => by rw [incunableref05_Valid.j0]) ?_
    refine EvP.pos rfl (EvP.ret ?_)
    symm
    rw [decide_eq_false_iff_not]
    intro v
    exact h1 (decide_eq_true v.sid)

theorem Copy_is (w h : Int) (p : List Int) (hl : p.length < 140737488355328) : incunableref05_Copy.f w h p = some (w, h, p) := by
  unfold incunableref05_Copy.f
  simp only [Option.bind_some, List.length_nil, Nat.zero_add, List.nil_append]
  rw [if_pos hl]

theorem SameInts_self (l : List Int) (hl : (l.length : Int) ≤ 9223372036854775806) : EvP (fun k => incunableref01_SameInts.f k l l) (· = true) := by
  unfold incunableref01_SameInts.f
  refine EvP.pos rfl ?_
  refine EvP.up (L := fun k i (_ : Unit) => incunableref01_SameInts.l0 k l l i) (fun i _ => 0 ≤ i) l.length ?_ 0 () (by omega) (by omega)
  intro i _ i0 hi ih
  refine EvP.step (fun k => by rw [incunableref01_SameInts.l0]) ?_
  refine EvP.ite (fun c => ?_) (fun c => EvP.ret rfl)
  refine EvP.pos i0 (EvP.pos c (EvP.pos rfl ?_))
  rw [w64 (x := i + 1) (by omega) (by omega)]
  exact ih () c (by omega)

theorem Sane29_is : EvP (fun k => incunablelaw29_Sane.f k) (· = true) := by
  unfold incunablelaw29_Sane.f
  refine EvP.bind (Chance_is 1 2 (by omega) (by omega)) ?_
  rintro _ rfl
  have e : chanceR 1 2 = ([48271, 182605794], 0) := by decide +kernel
  rw [e]
  refine EvP.pos rfl ?_
  refine EvP.bind (SameInts_self _ (by simp)) ?_
  rintro _ rfl
  exact EvP.ret rfl

theorem Large_is (w h : Int) (p : List Int) : incunablelaw29_Large.f w h p = some (decide ((p.length : Int) > 2000)) := rfl
theorem Noise_is (w h : Int) (p : List Int) (s r : Int) (hp : ∀ x ∈ p, 0 ≤ x) (hl : (p.length : Int) ≤ 9223372036854775807) (h0 : -9223372036854775808 ≤ s) (h1 : s ≤ 9223372036854775807) : EvP (fun k => scan_Noise.f k w h p s r) (· = noiseR w h p s r) := by
  unfold scan_Noise.f noiseR
  refine EvP.bind (Valid_is w h p hp hl) ?_
  rintro _ rfl
  refine EvP.ite (fun q => ?_) (fun q => EvP.ret (by rw [if_neg (by simpa using q)]))
  have v : Val w h p := by simpa using q
  rw [if_pos v]
  refine EvP.ite (fun a => EvP.ret (by rw [if_pos (.inl a)])) (fun a => ?_)
  refine EvP.ite (fun b => EvP.ret (by rw [if_pos (.inr b)])) (fun b => ?_)
  rw [if_neg (by omega)]
  have hlen : (p.length : Int) ≤ 8192 := by rw [v.2.2.2.2.2.1]; exact v.2.2.2.2.1
  refine EvP.bindv (begin_is s h0 h1) ?_
  refine EvP.bindv (own_is w h p (by omega)) ?_
  have b0 := bgn_in s
  refine EvP.fill (L := fun k i l => scan_Noise.l0 k r (p.length : Int) i (itc i.toNat (bgn s)) w h l) p (fun i => if itc (i.toNat + 1) (bgn s) % 1000 < r then 1 - rd p i else rd p i) ?_ ?_
  · intro i l i0 i1 hs hr hk
    have bi := itc_in i.toNat b0.1 b0.2
    have bn := itc_in (i.toNat + 1) b0.1 b0.2
    refine EvP.step (fun k => by rw [scan_Noise.l0]) ?_
    refine EvP.pos i1 ?_
    refine EvP.bindv (next_is bi.1 bi.2) ?_
    show EvP (fun k => if Int.tmod (itc (i.toNat + 1) (bgn s)) 1000 < r then (if 0 ≤ i then (if i < (l.length : Int) then scan_Noise.l0 k r (p.length : Int) (wrap64 (i + 1)) (itc (i.toNat + 1) (bgn s)) w h (l.set (i : Int).toNat (Go.bits .xor .u8 (rd l i) 1)) else none) else none) else scan_Noise.l0 k r (p.length : Int) (wrap64 (i + 1)) (itc (i.toNat + 1) (bgn s)) w h l) _
    rw [tmod_pos bn.1, w64 (x := i + 1) (by omega) (by omega)]
    have en : (i + 1).toNat = i.toNat + 1 := by omega
    have er := hr i (by omega)
    simp only [en] at hk
    refine EvP.ite (fun c => ?_) (fun c => ?_)
    · refine EvP.pos i0 (EvP.pos (by omega) ?_)
      rw [if_pos c] at hk
      have bp := v.2.2.2.2.2.2 _ (rd_mem (l := p) i0 i1)
      have ex : Go.bits .xor .u8 (rd l i) 1 = 1 - rd p i := by
        rw [er]
        rcases (show rd p i = 0 ∨ rd p i = 1 by omega) with z | z <;> rw [z] <;> decide +kernel
      rw [ex]
      exact hk
    · rw [if_neg c, ← er, set_same i0 (by omega)] at hk
      exact hk
  · refine EvP.step (fun k => by rw [scan_Noise.l0]) ?_
    exact EvP.neg (by omega) (EvP.ret rfl)
theorem refNoise_j0 {w h : Int} {p : List Int} {s r : Int} (v : Val w h p) (h0 : -9223372036854775808 ≤ s) (h1 : s ≤ 9223372036854775807) (b : Bool) (hb : b = true ↔ (r < 0 ∨ r > 1000)) : EvP (fun k => incunableref29_Noise.j0 k s r b w h p) (· = noiseR w h p s r) := by
  unfold noiseR
  rw [if_pos v]
  refine EvP.step (fun k => by rw [incunableref29_Noise.j0]) ?_
  refine EvP.ite (fun a => EvP.ret (by rw [if_pos (hb.mp a)])) (fun a => ?_)
  have a : ¬ (r < 0 ∨ r > 1000) := fun x => a (hb.mpr x)
  rw [if_neg a]
  have hlen : (p.length : Int) ≤ 8192 := by rw [v.2.2.2.2.2.1]; exact v.2.2.2.2.1
  refine EvP.bindv (Copy_is w h p (by omega)) ?_
  refine EvP.bind (refchance_is s (p.length : Int) h0 h1 (by omega) (by omega)) ?_
  rintro _ rfl
  have b0 := bgn_in s
  have ec : ((chl (p.length : Int).toNat s).length : Int) = p.length := by unfold chl; rw [lmap_length]; omega
  refine EvP.fill (L := fun k i l => incunableref29_Noise.l0 k r (chl (p.length : Int).toNat s) i w h l) p (fun i => if itc (i.toNat + 1) (bgn s) % 1000 < r then 1 - rd p i else rd p i) ?_ ?_
  · intro i l i0 i1 hs hr hk
    have bn := itc_in (i.toNat + 1) b0.1 b0.2
    have er := hr i (by omega)
    have ei : rd (chl (p.length : Int).toNat s) i = itc (i.toNat + 1) (bgn s) := rd_lmap _ _ _ i0 (by omega)
    refine EvP.step (fun k => by rw [incunableref29_Noise.l0]) ?_
    refine EvP.pos (by omega) (EvP.pos i0 ?_)
    rw [ei, tmod_pos bn.1, w64 (x := i + 1) (by omega) (by omega)]
    refine EvP.ite (fun c => ?_) (fun c => ?_)
    · refine EvP.pos (by omega) ?_
      rw [if_pos c] at hk
      have bp := v.2.2.2.2.2.2 _ (rd_mem (l := p) i0 i1)
      rw [er, show (1 - rd p i) % 256 = 1 - rd p i by omega]
      exact hk
    · rw [if_neg c, ← er, set_same i0 (by omega)] at hk
      exact hk
  · refine EvP.step (fun k => by rw [incunableref29_Noise.l0]) ?_
    exact EvP.neg (by omega) (EvP.ret rfl)
theorem refNoise_is (w h : Int) (p : List Int) (s r : Int) (hp : ∀ x ∈ p, 0 ≤ x) (hl : (p.length : Int) ≤ 9223372036854775807) (h0 : -9223372036854775808 ≤ s) (h1 : s ≤ 9223372036854775807) : EvP (fun k => incunableref29_Noise.f k w h p s r) (· = noiseR w h p s r) := by
  unfold incunableref29_Noise.f
  refine EvP.bind (refValid_is w h p hp hl) ?_
  rintro _ rfl
  refine EvP.ite (fun q => ?_) (fun q => EvP.ret (by unfold noiseR; rw [if_neg (by simpa using q)]))
  have v : Val w h p := by simpa using q
  exact EvP.ite (fun a => refNoise_j0 v h0 h1 true (by simp [a])) (fun a => refNoise_j0 v h0 h1 _ (by simp; omega))
theorem ScanNoise : incunablelaw29_ScanNoise.Pure := by
  intro w h p s r _ _ hp hs hr
  have hb := wf_byt hp.2.2
  obtain ⟨h0, h1⟩ := wf_i64 hs
  refine EvP.rounds ?_
  unfold incunablelaw29_ScanNoise.f
  refine EvP.bindv (Large_is w h p) ?_
  refine EvP.ite (fun a => ?_) (fun a => ?_)
  · refine EvP.bind Sane29_is ?_
    rintro _ rfl
    exact EvP.ret rfl
  have a : ¬ (p.length : Int) > 2000 := by simpa using a
  refine EvP.bind (Noise_is w h p s r (fun z hz => (hb z hz).1) (by omega) h0 h1) ?_
  rintro _ rfl
  refine EvP.bind (refNoise_is w h p s r (fun z hz => (hb z hz).1) (by omega) h0 h1) ?_
  rintro _ rfl
  refine EvP.pos rfl ?_
  refine EvP.bindv (refSame_is _ _ _ _ _ _ (noiseR_byt w h p s r) (noiseR_byt w h p s r)) ?_
  refine EvP.step (fun k => by rw [incunablelaw29_ScanNoise.j0]) ?_
  refine EvP.neg (by simp) ?_
  refine EvP.ite (fun e => ?_) (fun e => ?_)
  · by_cases v : Val w h p
    · by_cases c : r < 0 ∨ r > 1000
      · unfold noiseR at e
        rw [if_pos v, if_pos c] at e
        exact absurd e (by decide)
      · have vn := noise_val v s r
        have ln : ((noiL p s r).length : Int) ≤ 8192 := by rw [vn.2.2.2.2.2.1]; exact vn.2.2.2.2.1
        have e1 : noiseR w h p s r = (w, h, noiL p s r, 0) := by
          unfold noiseR
          rw [if_pos v, if_neg c]
        have e2 : noiseR w h (noiL p s r) s r = (w, h, p, 0) := by
          unfold noiseR
          rw [if_pos vn, if_neg c, noise_twice v]
        have e3 : noiseR w h p s 0 = (w, h, p, 0) := by
          unfold noiseR
          rw [if_pos v, if_neg (by omega), noise_none]
        rw [e1]
        refine EvP.bind (Noise_is w h (noiL p s r) s r (fun z hz => (val_byt vn z hz).1) (by omega) h0 h1) ?_
        rintro _ rfl
        refine EvP.bind (Noise_is w h p s 0 (fun z hz => (hb z hz).1) (by omega) h0 h1) ?_
        rintro _ rfl
        rw [e2, e3]
        refine EvP.pos rfl (EvP.pos rfl ?_)
        refine EvP.bindv (refSame_is _ _ _ _ _ _ hb hb) ?_
        refine EvP.pos (by simp) ?_
        refine EvP.bindv (refSame_is _ _ _ _ _ _ hb hb) ?_
        refine EvP.pos (by simp) ?_
        refine EvP.bind Sane29_is ?_
        rintro _ rfl
        exact EvP.ret rfl
    · unfold noiseR at e
      rw [if_neg v] at e
      exact absurd e (by decide)
  · refine EvP.bind Sane29_is ?_
    rintro _ rfl
    exact EvP.ret rfl

end Go.Proofs.Ytkncofhgmcpagaa.Pure
