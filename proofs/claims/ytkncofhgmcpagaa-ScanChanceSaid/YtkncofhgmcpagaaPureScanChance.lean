/- The numbers of a row of chance are those of the reference, and a shorter row is its beginning; for every input, no conditions. -/
import Derived.Test.YtkncofhgmcpagaaPScanChancex2
import Derived.Test.YtkncofhgmcpagaaQBase
namespace Go.Proofs.Ytkncofhgmcpagaa.Pure
open Go.RowKit Go.Proofs.Ytkncofhgmcpagaa.PScanChance Go.Proofs.YtkncofhgmcpagaaW.PrintWords Go.Proofs.YtkncofhgmcpagaaW.PrintLast Go.Proofs.YtkncofhgmcpagaaW.PrintMore Go.Proofs.YtkncofhgmcpagaaW.Pu
set_option linter.unusedVariables false
set_option linter.unusedSimpArgs false
/-- The numbers of a list are those of bytes. -/
def Byt (p : List Int) : Prop := ∀ x ∈ p, 0 ≤ x ∧ x ≤ 255

theorem wf_byt {p : List Int} (h : ∀ y ∈ p, (Lit.int .u8 y).wf = true) : Byt p := fun x hx => by
  have h1 : (decide (IntKind.u8.min ≤ x) && decide (x ≤ IntKind.u8.max)) = true := h x hx
  obtain ⟨a, b⟩ := Bool.and_eq_true_iff.mp h1
  exact ⟨of_decide_eq_true a, of_decide_eq_true b⟩
theorem wf_i64 {x : Int} (h : (Lit.int .i64 x).wf = true) : -9223372036854775808 ≤ x ∧ x ≤ 9223372036854775807 := by
  have h1 : (decide (IntKind.i64.min ≤ x) && decide (x ≤ IntKind.i64.max)) = true := h
  obtain ⟨a, b⟩ := Bool.and_eq_true_iff.mp h1
  exact ⟨of_decide_eq_true a, of_decide_eq_true b⟩

theorem qm {q n : Int} (hn : 0 < n) (hn' : n ≤ 1000000000000) (h0 : -9223372036854775808 ≤ q) (h1 : q ≤ 9223372036854775807) : Int.tmod (wrap64 (Int.tmod q n + n)) n = q % n := by
  rcases Int.lt_or_le q 0 with h | h
  · have e : Int.tmod q n = -((-q) % n) := by
      rw [show q = -(-q) by omega, Int.neg_tmod, tmod_pos (by omega)]
      simp
    have r0 := Int.emod_nonneg (-q) (show n ≠ 0 by omega)
    have r1 := Int.emod_lt_of_pos (-q) hn
    rw [e, w64 (by omega) (by omega), tmod_pos (by omega)]
    have e2 := Int.emod_add_mul_ediv (-q) n
    have e3 : -(-q % n) + n = q + n * (1 + -q / n) := by rw [Int.mul_add]; omega
    rw [e3, Int.add_mul_emod_self_left]
  · have r0 := Int.emod_nonneg q (show n ≠ 0 by omega)
    have r1 := Int.emod_lt_of_pos q hn
    rw [tmod_pos h, w64 (by omega) (by omega), tmod_pos (by omega), Int.add_emod_right, Int.emod_emod_of_dvd _ (Int.dvd_refl n)]

def mdl : Int := 2147483647
def stc (x : Int) : Int := (x * 48271) % 2147483647
def itc : Nat → Int → Int
  | 0, x => x
  | n + 1, x => stc (itc n x)
def bgn (s : Int) : Int := if s % 2147483647 = 0 then 1 else s % 2147483647
def chl (n : Nat) (s : Int) : List Int := lmap n (fun i => itc (i.toNat + 1) (bgn s))
theorem bgn_in (s : Int) : 0 ≤ bgn s ∧ bgn s ≤ 2147483646 := by
  unfold bgn
  split <;> omega
theorem stc_in (x : Int) : 0 ≤ stc x ∧ stc x ≤ 2147483646 := by
  unfold stc
  omega
theorem itc_in (n : Nat) {x : Int} (h0 : 0 ≤ x) (h1 : x ≤ 2147483646) : 0 ≤ itc n x ∧ itc n x ≤ 2147483646 := by
  cases n with
  | zero => exact ⟨h0, h1⟩
  | succ n => exact stc_in _
theorem stc_is {x : Int} (h0 : 0 ≤ x) (h1 : x ≤ 2147483646) : Int.tmod (wrap64 (x * 48271)) 2147483647 = stc x := by
  rw [w64 (by omega) (by omega), tmod_pos (by omega)]
  rfl
theorem lmap_snoc (n : Nat) (f : Int → Int) : lmap (n + 1) f = lmap n f ++ [f n] := by
  unfold lmap
  rw [List.range_succ, List.map_append]
  rfl
theorem lmap_take (n m : Nat) (f : Int → Int) (h : m ≤ n) : (lmap n f).take m = lmap m f := by
  unfold lmap
  rw [← List.map_take, List.take_range, Nat.min_eq_left h]

theorem begin_is (s : Int) (h0 : -9223372036854775808 ≤ s) (h1 : s ≤ 9223372036854775807) : scan_begin.f s = some (bgn s) := by
  unfold scan_begin.f bgn
  rw [qm (by omega) (by omega) h0 h1]
  split <;> rfl
theorem next_is {x : Int} (h0 : 0 ≤ x) (h1 : x ≤ 2147483646) : scan_chance_next.f x = some (stc x, stc x) := by
  unfold scan_chance_next.f
  rw [stc_is h0 h1]
def chanceR (s n : Int) : List Int × Int := if n < 0 ∨ n > 8192 then ([], 2) else (chl n.toNat s, 0)
theorem Chance_j0 (s n : Int) (h0 : -9223372036854775808 ≤ s) (h1 : s ≤ 9223372036854775807) (b : Bool) (hb : b = true ↔ (n < 0 ∨ n > 8192)) : EvP (fun k => scan_Chance.j0 k s n b) (· = chanceR s n) := by
  unfold chanceR
  refine EvP.step (fun k => by rw [scan_Chance.j0]) ?_
  refine EvP.ite (fun a => EvP.ret (by rw [if_pos (hb.mp a)])) (fun a => ?_)
  have a : ¬ (n < 0 ∨ n > 8192) := fun x => a (hb.mpr x)
  rw [if_neg a]
  refine EvP.bindv (begin_is s h0 h1) ?_
  have b0 := bgn_in s
  refine EvP.up (L := fun k i (x : List Int × Int) => scan_Chance.l0 k x.1 n i x.2) (fun i x => 0 ≤ i ∧ x = (chl i.toNat s, itc i.toNat (bgn s))) n ?_ 0 ([], bgn s) (by omega) ⟨by omega, rfl⟩
  intro i x ⟨i0, hx⟩ hi ih
  subst hx
  refine EvP.step (fun k => by rw [scan_Chance.l0]) ?_
  refine EvP.ite (fun c => ?_) (fun c => ?_)
  · have bi := itc_in i.toNat b0.1 b0.2
    refine EvP.bindv (next_is bi.1 bi.2) ?_
    refine EvP.pos (by show (chl i.toNat s).length < _; unfold chl; rw [lmap_length]; omega) ?_
    rw [w64 (x := i + 1) (by omega) (by omega)]
    refine ih (chl i.toNat s ++ [stc (itc i.toNat (bgn s))], stc (itc i.toNat (bgn s))) c ⟨by omega, ?_⟩
    rw [show (i + 1).toNat = i.toNat + 1 by omega]
    unfold chl
    rw [lmap_snoc]
    rfl
  · have : i = n := by omega
    subst this
    exact EvP.ret rfl
theorem Chance_is (s n : Int) (h0 : -9223372036854775808 ≤ s) (h1 : s ≤ 9223372036854775807) : EvP (fun k => scan_Chance.f k s n) (· = chanceR s n) := by
  unfold scan_Chance.f
  exact EvP.ite (fun a => Chance_j0 s n h0 h1 true (by simp [a])) (fun a => Chance_j0 s n h0 h1 _ (by simp; omega))

theorem refchance_j0 (s n : Int) (x : Int) (hx : x = bgn s) (hn : 0 ≤ n) (hn' : n ≤ 1000000) : EvP (fun k => incunableref29_chance.j0 k n x) (· = chl n.toNat s) := by
  subst hx
  have b0 := bgn_in s
  refine EvP.step (fun k => by rw [incunableref29_chance.j0]) ?_
  refine EvP.up (L := fun k i (x : List Int × Int) => incunableref29_chance.l0 k n x.2 x.1 i) (fun i x => 0 ≤ i ∧ x = (chl i.toNat s, itc i.toNat (bgn s))) n ?_ 0 ([], bgn s) (by omega) ⟨by omega, rfl⟩
  intro i x ⟨i0, hx⟩ hi ih
  subst hx
  refine EvP.step (fun k => by rw [incunableref29_chance.l0]) ?_
  refine EvP.ite (fun c => ?_) (fun c => ?_)
  · have bi := itc_in i.toNat b0.1 b0.2
    refine EvP.pos (by show (chl i.toNat s).length < _; unfold chl; rw [lmap_length]; omega) ?_
    rw [w64 (x := i + 1) (by omega) (by omega), stc_is bi.1 bi.2]
    refine ih (chl i.toNat s ++ [stc (itc i.toNat (bgn s))], stc (itc i.toNat (bgn s))) c ⟨by omega, ?_⟩
    rw [show (i + 1).toNat = i.toNat + 1 by omega]
    unfold chl
    rw [lmap_snoc]
    rfl
  · have : i = n := by omega
    subst this
    exact EvP.ret rfl
theorem refchance_is (s n : Int) (h0 : -9223372036854775808 ≤ s) (h1 : s ≤ 9223372036854775807) (hn : 0 ≤ n) (hn' : n ≤ 1000000) : EvP (fun k => incunableref29_chance.f k s n) (· = chl n.toNat s) := by
  unfold incunableref29_chance.f
  rw [qm (by omega) (by omega) h0 h1]
  refine EvP.ite (fun a => refchance_j0 s n 1 ?_ hn hn') (fun a => refchance_j0 s n _ ?_ hn hn')
  · unfold bgn
    rw [if_pos a]
  · unfold bgn
    rw [if_neg a]

theorem SameInts_self (l : List Int) (hl : (l.length : Int) ≤ 9223372036854775806) : EvP (fun k => incunableref01_SameInts.f k l l) (· = true) := by
  unfold incunableref01_SameInts.f
  refine EvP.pos rfl ?_
  refine EvP.up (L := fun k i (_ : Unit) => incunableref01_SameInts.l0 k l l i) (fun i _ => 0 ≤ i) l.length ?_ 0 () (by omega) (by omega)
  intro i _ i0 hi ih
  refine EvP.step (fun k => by rw [incunableref01_SameInts.l0]) ?_
  refine EvP.ite (fun c => ?_) (fun c => EvP.ret rfl)
  refine EvP.pos i0 (EvP.pos c (EvP.pos rfl ?_))
  rw [w64 (x := i + 1) (by omega) (by omega)]
  exact ih () c (by omega)

theorem Sane29_is : EvP (fun k => incunablelaw29_Sane.f k) (· = true) := by
  unfold incunablelaw29_Sane.f
  refine EvP.bind (Chance_is 1 2 (by omega) (by omega)) ?_
  rintro _ rfl
  have e : chanceR 1 2 = ([48271, 182605794], 0) := by decide +kernel
  rw [e]
  refine EvP.pos rfl ?_
  refine EvP.bind (SameInts_self _ (by simp)) ?_
  rintro _ rfl
  exact EvP.ret rfl

theorem refChance_is (s n : Int) (h0 : -9223372036854775808 ≤ s) (h1 : s ≤ 9223372036854775807) : EvP (fun k => incunableref29_Chance.f k s n) (· = chanceR s n) := by
  unfold incunableref29_Chance.f chanceR
  refine EvP.ite (fun a => EvP.ret (by rw [if_pos (.inl a)])) (fun a => ?_)
  refine EvP.ite (fun b => EvP.ret (by rw [if_pos (.inr b)])) (fun b => ?_)
  rw [if_neg (by omega)]
  refine EvP.bind (refchance_is s n h0 h1 (by omega) (by omega)) ?_
  rintro _ rfl
  exact EvP.ret rfl
theorem chanceR_len (s n : Int) : ((chanceR s n).1.length : Int) ≤ 8192 := by
  unfold chanceR
  split
  · simp
  · show ((chl n.toNat s).length : Int) ≤ 8192
    unfold chl
    rw [lmap_length]
    omega
theorem chance_j1 (s n m : Int) (h0 : -9223372036854775808 ≤ s) (h1 : s ≤ 9223372036854775807) (m0 : -9223372036854775808 ≤ m) (m1 : m ≤ 9223372036854775807) (b : Bool) (hb : b = false → 1 ≤ n ∧ n ≤ 8192) :
    EvP (fun k => incunablelaw29_ScanChance.j1 k s n m (chanceR s n).1 b) (· = true) := by
  refine EvP.step (fun k => by rw [incunablelaw29_ScanChance.j1]) ?_
  refine EvP.ite (fun a => ?_) (fun a => ?_)
  · refine EvP.bind Sane29_is ?_
    rintro _ rfl
    exact EvP.ret rfl
  · obtain ⟨n1, n2⟩ := hb (by simpa using a)
    refine EvP.neg (by omega) ?_
    rw [qm (by omega) (by omega) m0 m1]
    have r0 := Int.emod_nonneg m (show n ≠ 0 by omega)
    have r1 := Int.emod_lt_of_pos m (show 0 < n by omega)
    have en : chanceR s n = (chl n.toNat s, 0) := by
      unfold chanceR
      rw [if_neg (by omega)]
    have em : chanceR s (m % n) = (chl (m % n).toNat s, 0) := by
      unfold chanceR
      rw [if_neg (by omega)]
    refine EvP.bind (Chance_is s (m % n) h0 h1) ?_
    rintro _ rfl
    rw [em, en]
    refine EvP.pos rfl (EvP.pos r0 (EvP.pos (by show m % n ≤ ((chl n.toNat s).length : Int); unfold chl; rw [lmap_length]; omega) ?_))
    have et : (chl n.toNat s).take (m % n).toNat = chl (m % n).toNat s := lmap_take _ _ _ (by omega)
    rw [et]
    refine EvP.bind (SameInts_self _ (by show ((chl (m % n).toNat s).length : Int) ≤ _; unfold chl; rw [lmap_length]; omega)) ?_
    rintro _ rfl
    refine EvP.pos rfl ?_
    refine EvP.bind Sane29_is ?_
    rintro _ rfl
    exact EvP.ret rfl
theorem ScanChance : incunablelaw29_ScanChance.Pure := by
  intro s n m hs hn hm
  obtain ⟨h0, h1⟩ := wf_i64 hs
  obtain ⟨m0, m1⟩ := wf_i64 hm
  refine EvP.rounds ?_
  unfold incunablelaw29_ScanChance.f
  refine EvP.bind (Chance_is s n h0 h1) ?_
  rintro _ rfl
  refine EvP.bind (refChance_is s n h0 h1) ?_
  rintro _ rfl
  refine EvP.pos rfl ?_
  refine EvP.bind (SameInts_self _ (by have := chanceR_len s n; omega)) ?_
  rintro _ rfl
  refine EvP.step (fun k => by rw [incunablelaw29_ScanChance.j0]) ?_
  refine EvP.neg (by simp) ?_
  refine EvP.ite (fun e => ?_) (fun e => chance_j1 s n m h0 h1 m0 m1 true (by simp))
  refine chance_j1 s n m h0 h1 m0 m1 _ (fun q => ?_)
  have q : ¬ n = 0 := by simpa using q
  unfold chanceR at e
  by_cases c : n < 0 ∨ n > 8192
  · rw [if_pos c] at e
    exact absurd e (by decide)
  · omega

end Go.Proofs.Ytkncofhgmcpagaa.Pure
