/- How many holes a bitmap has: as many when it is turned. No conditions beyond the statement's own. -/
import Derived.Test.YtaflekobfbgedaaPShapeHolesx12
import Derived.Test.YtaflekobfbgedaaQBase
namespace Go.Proofs.Ytaflekobfbgedaa.Pure
open Go.RowKit Go.Proofs.Ytaflekobfbgedaa.PShapeHoles Go.Proofs.YtaflekobfbgedaaW.PrintWords Go.Proofs.YtaflekobfbgedaaW.PrintLast Go.Proofs.YtaflekobfbgedaaW.PrintMore Go.Proofs.YtaflekobfbgedaaW.Pu
set_option linter.unusedVariables false
set_option linter.unusedSimpArgs false
/-- The numbers of a list are those of bytes. -/
def Byt (p : List Int) : Prop := ∀ x ∈ p, 0 ≤ x ∧ x ≤ 255
theorem val_byt {w h : Int} {p : List Int} (v : Val w h p) : Byt p := fun x hx => ⟨(v.2.2.2.2.2.2 x hx).1, by have := (v.2.2.2.2.2.2 x hx).2; omega⟩

theorem wf_byt {p : List Int} (h : ∀ y ∈ p, (Lit.int .u8 y).wf = true) : Byt p := fun x hx => by
  have h1 : (decide (IntKind.u8.min ≤ x) && decide (x ≤ IntKind.u8.max)) = true := h x hx
  obtain ⟨a, b⟩ := Bool.and_eq_true_iff.mp h1
  exact ⟨of_decide_eq_true a, of_decide_eq_true b⟩
theorem wf_i64 {x : Int} (h : (Lit.int .i64 x).wf = true) : -9223372036854775808 ≤ x ∧ x ≤ 9223372036854775807 := by
  have h1 : (decide (IntKind.i64.min ≤ x) && decide (x ≤ IntKind.i64.max)) = true := h
  obtain ⟨a, b⟩ := Bool.and_eq_true_iff.mp h1
  exact ⟨of_decide_eq_true a, of_decide_eq_true b⟩

section
open Classical
/-- How many classes of a relation a list meets. -/
noncomputable def ncl {α : Type} (R : α → α → Prop) : List α → Nat
  | [] => 0
  | x :: xs => (if ∃ y ∈ xs, R x y then 0 else 1) + ncl R xs
theorem ncl_cons {α : Type} (R : α → α → Prop) (x : α) (xs : List α) : ncl R (x :: xs) = (if ∃ y ∈ xs, R x y then 0 else 1) + ncl R xs := rfl
noncomputable def off {α : Type} (R : α → α → Prop) (a : α) (l : List α) : List α := l.filter (fun y => decide (¬ R a y))
theorem off_mem {α : Type} {R : α → α → Prop} {a y : α} {l : List α} : y ∈ off R a l ↔ y ∈ l ∧ ¬ R a y := by
  unfold off
  rw [List.mem_filter, decide_eq_true_iff]
theorem off_none {α : Type} {R : α → α → Prop} {a : α} {l : List α} (h : ¬ ∃ y ∈ l, R a y) : off R a l = l := by
  unfold off
  rw [List.filter_eq_self]
  intro y hy
  exact decide_eq_true (fun r => h ⟨y, hy, r⟩)
theorem ncl_off {α : Type} {R : α → α → Prop} (hs : ∀ x y, R x y → R y x) (ht : ∀ x y z, R x y → R y z → R x z) (a : α) : ∀ l : List α, (∃ y ∈ l, R a y) → ncl R (off R a l) + 1 = ncl R l
  | [], h => by
    obtain ⟨y, hy, _⟩ := h
    cases hy
  | x :: xs, h => by
    by_cases c : R a x
    · have e : off R a (x :: xs) = off R a xs := by
        unfold off
        rw [List.filter_cons_of_neg (by simpa using c)]
      rw [e, ncl_cons]
      by_cases d : ∃ y ∈ xs, R a y
      · obtain ⟨y, hy, r⟩ := id d
        rw [if_pos ⟨y, hy, ht _ _ _ (hs _ _ c) r⟩, ncl_off hs ht a xs d]
        omega
      · rw [off_none d, if_neg (fun ⟨y, hy, r⟩ => d ⟨y, hy, ht _ _ _ c r⟩)]
        omega
    · have e : off R a (x :: xs) = x :: off R a xs := by
        unfold off
        rw [List.filter_cons_of_pos (by simpa using c)]
      have d : ∃ y ∈ xs, R a y := by
        obtain ⟨y, hy, r⟩ := h
        rcases List.mem_cons.mp hy with rfl | hy
        · exact absurd r c
        · exact ⟨y, hy, r⟩
      have i : (∃ y ∈ off R a xs, R x y) ↔ ∃ y ∈ xs, R x y := by
        constructor
        · rintro ⟨y, hy, r⟩
          exact ⟨y, (off_mem.mp hy).1, r⟩
        · rintro ⟨y, hy, r⟩
          exact ⟨y, off_mem.mpr ⟨hy, fun q => c (ht _ _ _ q (hs _ _ r))⟩, r⟩
      have ih := ncl_off hs ht a xs d
      rw [e, ncl_cons, ncl_cons]
      by_cases z : ∃ y ∈ xs, R x y
      · rw [if_pos z, if_pos (i.mpr z)]
        omega
      · rw [if_neg z, if_neg (fun q => z (i.mp q))]
        omega
/-- A list whose classes go into another's, apart. -/
theorem ncl_le {α β : Type} {R : α → α → Prop} {R' : β → β → Prop} (f : α → β) (hs : ∀ x y, R' x y → R' y x) (ht : ∀ x y z, R' x y → R' y z → R' x z) : ∀ (l : List α) (l' : List β), (∀ z ∈ l', R' z z) → (∀ x ∈ l, f x ∈ l') → (∀ x ∈ l, ∀ y ∈ l, R' (f x) (f y) → R x y) → ncl R l ≤ ncl R' l'
  | [], l', _, _, _ => Nat.zero_le _
  | x :: xs, l', hr, hm, hi => by
    rw [ncl_cons]
    by_cases d : ∃ y ∈ xs, R x y
    · rw [if_pos d, Nat.zero_add]
      exact ncl_le f hs ht xs l' hr (fun z hz => hm z (List.mem_cons_of_mem _ hz)) (fun y hy z hz => hi y (List.mem_cons_of_mem _ hy) z (List.mem_cons_of_mem _ hz))
    · rw [if_neg d]
      have hx := hm x (List.mem_cons_self ..)
      have h1 := ncl_off hs ht (f x) l' ⟨f x, hx, hr _ hx⟩
      have h2 := ncl_le f hs ht xs (off R' (f x) l') (fun z hz => hr z (off_mem.mp hz).1)
        (fun z hz => off_mem.mpr ⟨hm z (List.mem_cons_of_mem _ hz), fun q => d ⟨z, hz, hi x (List.mem_cons_self ..) z (List.mem_cons_of_mem _ hz) q⟩⟩)
        (fun y hy z hz => hi y (List.mem_cons_of_mem _ hy) z (List.mem_cons_of_mem _ hz))
      omega
end

/-- Come to by steps, all of it in C. -/
inductive Rch (adj : Int → Int → Prop) (C : Int → Prop) : Int → Int → Prop
  | refl {i : Int} : C i → Rch adj C i i
  | step {i j k : Int} : Rch adj C i j → adj j k → C k → Rch adj C i k
theorem Rch.left {adj : Int → Int → Prop} {C : Int → Prop} {i j : Int} (h : Rch adj C i j) : C i := by
  induction h with
  | refl h => exact h
  | step _ _ _ ih => exact ih
theorem Rch.right {adj : Int → Int → Prop} {C : Int → Prop} {i j : Int} (h : Rch adj C i j) : C j := by
  cases h with
  | refl h => exact h
  | step _ _ h => exact h
theorem Rch.trans {adj : Int → Int → Prop} {C : Int → Prop} {i j k : Int} (h : Rch adj C i j) (g : Rch adj C j k) : Rch adj C i k := by
  induction g with
  | refl _ => exact h
  | step _ a c ih => exact .step ih a c
theorem Rch.symm {adj : Int → Int → Prop} {C : Int → Prop} (hs : ∀ i j, adj i j → adj j i) {i j : Int} (h : Rch adj C i j) : Rch adj C j i := by
  induction h with
  | refl h => exact .refl h
  | step h a c ih => exact (Rch.step (.refl c) (hs _ _ a) h.right).trans ih
/-- A set that holds all neighbours of its own holds all that is come to. -/
theorem Rch.closed {adj : Int → Int → Prop} {C : Int → Prop} {M : Int → Prop} (hm : ∀ p q, M p → C p → adj p q → C q → M q) {i j : Int} (h : Rch adj C i j) (hi : M i) : M j := by
  induction h with
  | refl _ => exact hi
  | step h a c ih => exact hm _ _ ih h.right a c
/-- The flood's end: what was marked anew is what is come to from the start. -/
theorem flood_all {adj : Int → Int → Prop} {C : Int → Prop} {M Q : Int → Prop} {s : Int} (hs : ∀ i j, adj i j → adj j i) (hM : ∀ p q, M p → C p → adj p q → C q → M q)
    (h0 : Q s) (hQ : ∀ j, Q j → Rch adj C s j ∧ ¬ M j) (hc : ∀ p q, Q p → adj p q → C q → M q ∨ Q q) (j : Int) : Q j ↔ Rch adj C s j := by
  constructor
  · exact fun h => (hQ j h).1
  · intro h
    induction h with
    | refl _ => exact h0
    | step h a c ih =>
      rcases hc _ _ ih a c with m | q
      · exact absurd (hM _ _ m c (hs _ _ a) h.right) (hQ _ ih).2
      · exact q

def ix (w : Int) (e : S66) : Int := e.f1 * w + e.f0
def inn (w h : Int) (e : S66) : Prop := 0 ≤ e.f0 ∧ e.f0 < w ∧ 0 ≤ e.f1 ∧ e.f1 < h
/-- Neighbours by displacements. -/
def adjD (w h : Int) (D : Int → Int → Prop) (i j : Int) : Prop := ∃ x y u v : Int, (0 ≤ x ∧ x < w ∧ 0 ≤ y ∧ y < h) ∧ (0 ≤ u ∧ u < w ∧ 0 ≤ v ∧ v < h) ∧ i = y * w + x ∧ j = v * w + u ∧ D (u - x) (v - y)
def colS (w h : Int) (p : List Int) (c : Int) (i : Int) : Prop := 0 ≤ i ∧ i < w * h ∧ rd p i = c
def mkd (m : List Bool) (j : Int) : Prop := rdOf false m j = true
def unm (m : List Bool) : Nat := m.count false
theorem unm_set : ∀ (m : List Bool) (i : Nat), i < m.length → m.getD i false = false → unm (m.set i true) + 1 = unm m
  | [], i, h, _ => by simp at h
  | b :: m, 0, _, e => by
    have : b = false := e
    subst this
    unfold unm
    rw [List.set_cons_zero, List.count_cons, List.count_cons]
    simp
  | b :: m, i + 1, h, e => by
    have ih := unm_set m i (by simpa using h) e
    unfold unm at ih ⊢
    rw [List.set_cons_succ, List.count_cons, List.count_cons]
    omega
theorem mkd_set (m : List Bool) {i j : Int} (i0 : 0 ≤ i) (i1 : i < (m.length : Int)) (j0 : 0 ≤ j) : mkd (m.set i.toNat true) j ↔ j = i ∨ mkd m j := by
  have hi : i.toNat < m.length := by omega
  unfold mkd rdOf
  simp only [List.getD, List.getElem?_set]
  by_cases e : j = i
  · subst e
    simp [hi]
  · have : ¬ i.toNat = j.toNat := by omega
    simp [this, e]
theorem rd66_app (l : List S66) (e : S66) {n : Int} (n0 : 0 ≤ n) (n1 : n < (l.length : Int)) : rd_T66 (l ++ [e]) n = rd_T66 l n := by
  have : n.toNat < l.length := by omega
  simp [rd_T66, List.getD, List.getElem?_append_left this]
theorem rd66_mem {l : List S66} {n : Int} (n0 : 0 ≤ n) (n1 : n < (l.length : Int)) : rd_T66 l n ∈ l := by
  have h2 : n.toNat < l.length := by omega
  have e : rd_T66 l n = l[n.toNat] := by simp [rd_T66, List.getD, h2]
  rw [e]
  exact List.getElem_mem _
theorem mem_rd66 {l : List S66} {e : S66} (h : e ∈ l) : ∃ n : Int, 0 ≤ n ∧ n < (l.length : Int) ∧ rd_T66 l n = e := by
  obtain ⟨n, hn, he⟩ := List.getElem_of_mem h
  refine ⟨(n : Int), by omega, by omega, ?_⟩
  simp [rd_T66, List.getD, hn, he]
theorem ix_in {w h : Int} {e : S66} (i : inn w h e) : 0 ≤ ix w e ∧ ix w e < w * h := ⟨(flat_lt i.1 i.2.1 i.2.2.1 i.2.2.2).2.1, (flat_lt i.1 i.2.1 i.2.2.1 i.2.2.2).2.2⟩
/-- What holds within the flood: the marks, the places found; t of them are done. -/
structure FI (w h : Int) (p : List Int) (D : Int → Int → Prop) (c : Int) (M0 : Int → Prop) (s : Int) (U : Nat) (mk : List Bool) (out : List S66) (t : Int) : Prop where
  len : mk.length = p.length
  cnt : out.length + unm mk = U
  own : ∀ e ∈ out, inn w h e ∧ Rch (adjD w h D) (colS w h p c) s (ix w e) ∧ ¬ M0 (ix w e)
  mks : ∀ j, 0 ≤ j → j < w * h → (mkd mk j ↔ M0 j ∨ ∃ e ∈ out, ix w e = j)
  beg : ∃ e ∈ out, ix w e = s
  t0 : 0 ≤ t
  t1 : t ≤ (out.length : Int)
  dn : ∀ n : Int, 0 ≤ n → n < t → ∀ q, adjD w h D (ix w (rd_T66 out n)) q → colS w h p c q → mkd mk q
/-- The steps at place t that are done. -/
def Stp (w h : Int) (p : List Int) (c : Int) (st : List S66) (mk : List Bool) (q : S66) (b : Int) : Prop := ∀ n : Int, 0 ≤ n → n < b → ∀ u v : Int, u = q.f0 + (rd_T66 st n).f0 → v = q.f1 + (rd_T66 st n).f1 → 0 ≤ u → u < w → 0 ≤ v → v < h → colS w h p c (v * w + u) → mkd mk (v * w + u)
/-- One place more. -/
theorem FI.more {w h : Int} {p : List Int} {D : Int → Int → Prop} {c : Int} {M0 : Int → Prop} {s : Int} {U : Nat} {mk : List Bool} {out : List S66} {t : Int} (f : FI w h p D c M0 s U mk out t) (hp : (p.length : Int) = w * h) (ht : t < (out.length : Int))
    (u v : Int) (hi : inn w h ⟨u, v⟩) (hd : D (u - (rd_T66 out t).f0) (v - (rd_T66 out t).f1)) (hn : ¬ mkd mk (v * w + u)) (hc : rd p (v * w + u) = c) :
    FI w h p D c M0 s U (mk.set (v * w + u).toNat true) (out ++ [⟨u, v⟩]) t := by
  have hx := ix_in hi
  have hx0 : 0 ≤ v * w + u := hx.1
  have hx1 : v * w + u < w * h := hx.2
  have hlt : v * w + u < (mk.length : Int) := by rw [f.len, hp]; exact hx1
  have hq := f.own _ (rd66_mem f.t0 ht)
  refine ⟨by rw [List.length_set]; exact f.len, ?_, ?_, ?_, ?_, f.t0, by rw [List.length_append]; have := f.t1; simp; omega, ?_⟩
  · have := unm_set mk (v * w + u).toNat (by omega) (by
      unfold mkd rdOf at hn
      simpa using hn)
    have := f.cnt
    rw [List.length_append]
    simp
    omega
  · intro e he
    rcases List.mem_append.mp he with he | he
    · exact f.own e he
    · have : e = ⟨u, v⟩ := by simpa using he
      subst this
      refine ⟨hi, .step hq.2.1 ⟨_, _, u, v, hq.1, hi, rfl, rfl, hd⟩ ⟨hx0, hx1, hc⟩, fun m => hn ((f.mks _ hx0 hx1).mpr (.inl m))⟩
  · intro j j0 j1
    rw [mkd_set mk hx0 hlt j0, f.mks j j0 j1]
    constructor
    · rintro (rfl | m | ⟨e, he, r⟩)
      · exact .inr ⟨⟨u, v⟩, by simp, rfl⟩
      · exact .inl m
      · exact .inr ⟨e, List.mem_append_left _ he, r⟩
    · rintro (m | ⟨e, he, r⟩)
      · exact .inr (.inl m)
      · rcases List.mem_append.mp he with he | he
        · exact .inr (.inr ⟨e, he, r⟩)
        · have : e = ⟨u, v⟩ := by simpa using he
          subst this
          exact .inl r.symm
  · obtain ⟨e, he, r⟩ := f.beg
    exact ⟨e, List.mem_append_left _ he, r⟩
  · intro n n0 n1 q ha hq2
    rw [rd66_app out _ n0 (by omega)] at ha
    exact (mkd_set mk hx0 hlt hq2.1).mpr (.inr (f.dn n n0 n1 q ha hq2))
theorem Stp.more {w h : Int} {p : List Int} {c : Int} {st : List S66} {mk : List Bool} {q : S66} {b : Int} (f : Stp w h p c st mk q b) {i : Int} (i0 : 0 ≤ i) (i1 : i < (mk.length : Int)) : Stp w h p c st (mk.set i.toNat true) q b :=
  fun n n0 n1 u v eu ev u0 u1 v0 v1 hc => (mkd_set mk i0 i1 hc.1).mpr (.inr (f n n0 n1 u v eu ev u0 u1 v0 v1 hc))
theorem Stp.next {w h : Int} {p : List Int} {c : Int} {st : List S66} {mk : List Bool} {q : S66} {b : Int} (f : Stp w h p c st mk q b) (g : ∀ u v : Int, u = q.f0 + (rd_T66 st b).f0 → v = q.f1 + (rd_T66 st b).f1 → 0 ≤ u → u < w → 0 ≤ v → v < h → colS w h p c (v * w + u) → mkd mk (v * w + u)) : Stp w h p c st mk q (b + 1) := by
  intro n n0 n1
  by_cases e : n = b
  · subst e; exact g
  · exact f n n0 (by omega)
/-- All steps at a place done: the place is. -/
theorem FI.done {w h : Int} {p : List Int} {D : Int → Int → Prop} {c : Int} {M0 : Int → Prop} {s : Int} {U : Nat} {mk : List Bool} {out : List S66} {t : Int} {st : List S66} (f : FI w h p D c M0 s U mk out t) (ht : t < (out.length : Int)) (hD : ∀ dx dy, D dx dy → ∃ b : Int, 0 ≤ b ∧ b < (st.length : Int) ∧ rd_T66 st b = ⟨dx, dy⟩)
    (g : Stp w h p c st mk (rd_T66 out t) (st.length : Int)) : FI w h p D c M0 s U mk out (t + 1) := by
  refine ⟨f.len, f.cnt, f.own, f.mks, f.beg, by have := f.t0; omega, by omega, ?_⟩
  intro n n0 n1 q ha hq
  by_cases e : n = t
  · subst e
    have hi := (f.own _ (rd66_mem f.t0 ht)).1
    obtain ⟨x, y, u, v, hx, hu, e1, e2, hd⟩ := ha
    have e1 : (rd_T66 out n).f1 * w + (rd_T66 out n).f0 = y * w + x := e1
    obtain ⟨ey, ex⟩ := flat_inj hi.1 hi.2.1 hx.1 hx.2.1 e1
    obtain ⟨b, b0, b1, eb⟩ := hD _ _ hd
    subst e2
    exact g b b0 b1 u v (by rw [eb, ex]; show u = x + (u - x); omega) (by rw [eb, ey]; show v = y + (v - y); omega) hu.1 hu.2.1 hu.2.2.1 hu.2.2.2 hq
  · exact f.dn n n0 (by omega) q ha hq

/-- Steps: each by one at the most, and they are the displacements. -/
structure Stps (st : List S66) (D : Int → Int → Prop) : Prop where
  few : st.length ≤ 100
  one : ∀ b : Int, 0 ≤ b → b < (st.length : Int) → -1 ≤ (rd_T66 st b).f0 ∧ (rd_T66 st b).f0 ≤ 1 ∧ -1 ≤ (rd_T66 st b).f1 ∧ (rd_T66 st b).f1 ≤ 1 ∧ D (rd_T66 st b).f0 (rd_T66 st b).f1
  all : ∀ dx dy, D dx dy → ∃ b : Int, 0 ≤ b ∧ b < (st.length : Int) ∧ rd_T66 st b = ⟨dx, dy⟩
theorem flood_l1 {P : List S66 × List Bool → Prop} {w h : Int} {p : List Int} {D : Int → Int → Prop} {c : Int} {M0 : Int → Prop} {s : Int} {U : Nat} {st : List S66} (hw : 0 ≤ w) (hh : 0 ≤ h) (hw2 : w ≤ 1000) (hh2 : h ≤ 1000) (hp : (p.length : Int) = w * h) (hm : w * h ≤ 1000000) (hU : U ≤ 1000000) (hst : Stps st D) (t : Int)
    (hk : ∀ mk out, FI w h p D c M0 s U mk out (t + 1) → EvP (fun k => shape_flood.l0 k mk st c out (t + 1) w h p) P) (mk : List Bool) (out : List S66) (f : FI w h p D c M0 s U mk out t) (ht : t < (out.length : Int)) :
    EvP (fun k => shape_flood.l1 k mk st c out t st (st.length : Int) 0 w h p) P := by
  have few := hst.few
  refine EvP.up (L := fun k b (x : List Bool × List S66) => shape_flood.l1 k x.1 st c x.2 t st (st.length : Int) b w h p) (fun b x => 0 ≤ b ∧ FI w h p D c M0 s U x.1 x.2 t ∧ t < (x.2.length : Int) ∧ Stp w h p c st x.1 (rd_T66 x.2 t) b) st.length ?_ 0 (mk, out) (by omega) ⟨by omega, f, ht, fun n n0 n1 => by omega⟩
  rintro b ⟨mk, out⟩ ⟨b0, f, ht, g⟩ hb ih
  have f : FI w h p D c M0 s U mk out t := f
  have ht : t < (out.length : Int) := ht
  have g : Stp w h p c st mk (rd_T66 out t) b := g
  have lo : out.length ≤ 1000000 := by have := f.cnt; omega
  refine EvP.step (fun k => by rw [shape_flood.l1]) ?_
  refine EvP.ite (fun b1 => ?_) (fun b1 => ?_)
  · obtain ⟨d0, d1, d2, d3, hd⟩ := hst.one b b0 b1
    have hi := (f.own _ (rd66_mem f.t0 ht)).1
    obtain ⟨i0, i1, i2, i3⟩ := hi
    refine EvP.pos b0 (EvP.pos b1 (EvP.pos f.t0 (EvP.pos ht ?_)))
    rw [w64 (x := (rd_T66 out t).f0 + (rd_T66 st b).f0) (by omega) (by omega), w64 (x := (rd_T66 out t).f1 + (rd_T66 st b).f1) (by omega) (by omega)]
    have hdu : D ((rd_T66 out t).f0 + (rd_T66 st b).f0 - (rd_T66 out t).f0) ((rd_T66 out t).f1 + (rd_T66 st b).f1 - (rd_T66 out t).f1) := by
      rw [show (rd_T66 out t).f0 + (rd_T66 st b).f0 - (rd_T66 out t).f0 = (rd_T66 st b).f0 by omega, show (rd_T66 out t).f1 + (rd_T66 st b).f1 - (rd_T66 out t).f1 = (rd_T66 st b).f1 by omega]
      exact hd
    generalize eu : (rd_T66 out t).f0 + (rd_T66 st b).f0 = u at hdu ⊢
    generalize ev : (rd_T66 out t).f1 + (rd_T66 st b).f1 = v at hdu ⊢
    have skip : (0 ≤ u → u < w → 0 ≤ v → v < h → colS w h p c (v * w + u) → mkd mk (v * w + u)) → EvP (fun k => shape_flood.j2 k mk st c out t st (st.length : Int) b true w h p u v) P := fun z => by
      refine EvP.step (fun k => by rw [shape_flood.j2]) (EvP.pos rfl ?_)
      rw [w64 (x := b + 1) (by omega) (by omega)]
      refine ih (mk, out) b1 ⟨by omega, f, ht, g.next (fun u' v' eu' ev' => ?_)⟩
      rw [eu', ev', eu, ev]
      exact z
    refine EvP.ite (fun z => skip (fun a => by omega)) (fun z1 => ?_)
    refine EvP.ite (fun z => skip (fun _ _ a => by omega)) (fun z2 => ?_)
    refine EvP.ite (fun z => skip (fun _ a => by omega)) (fun z3 => ?_)
    refine EvP.ite (fun z => skip (fun _ _ _ a => by omega)) (fun z4 => ?_)
    have hin : inn w h ⟨u, v⟩ := ⟨by show 0 ≤ u; omega, by show u < w; omega, by show 0 ≤ v; omega, by show v < h; omega⟩
    have hx0 : 0 ≤ v * w + u := (ix_in hin).1
    have hx1 : v * w + u < w * h := (ix_in hin).2
    have hv0 : 0 ≤ v * w := Int.mul_nonneg (by omega) hw
    have hlt : v * w + u < (mk.length : Int) := by rw [f.len, hp]; exact hx1
    rw [w64 (x := v * w) (by omega) (by omega), w64 (x := v * w + u) (by omega) (by omega)]
    refine EvP.pos hx0 (EvP.pos hlt ?_)
    refine EvP.ite (fun z => skip (fun _ _ _ _ _ => z)) (fun z5 => ?_)
    refine EvP.pos (by omega) ?_
    by_cases e : rd p (v * w + u) = c
    · have eb : (rd p (v * w + u) != c) = false := by rw [e]; simp
      rw [eb]
      refine EvP.step (fun k => by rw [shape_flood.j2]) ?_
      refine EvP.neg (by simp) ?_
      rw [w64 (x := v * w) (by omega) (by omega), w64 (x := v * w + u) (by omega) (by omega), w64 (x := b + 1) (by omega) (by omega)]
      refine EvP.pos hx0 (EvP.pos hlt (EvP.pos (by show out.length < 8796093022208; omega) ?_))
      have f2 := f.more hp ht u v hin hdu z5 e
      refine ih (mk.set (v * w + u).toNat true, out ++ [⟨u, v⟩]) b1 ⟨by omega, f2, by show t < ((out ++ [⟨u, v⟩] : List S66).length : Int); rw [List.length_append]; omega, ?_⟩
      show Stp w h p c st (mk.set (v * w + u).toNat true) (rd_T66 (out ++ [⟨u, v⟩]) t) (b + 1)
      rw [rd66_app out _ f.t0 ht]
      refine (g.more hx0 hlt).next (fun u' v' eu' ev' _ _ _ _ _ => ?_)
      rw [eu', ev', eu, ev]
      exact (mkd_set mk hx0 hlt hx0).mpr (.inl rfl)
    · have eb : (rd p (v * w + u) != c) = true := by
        rw [bne_iff_ne]
        exact e
      rw [eb]
      exact skip (fun _ _ _ _ q => absurd q.2.2 e)
  · have eb : b = (st.length : Int) := by omega
    subst eb
    have f2 := f.done ht hst.all g
    rw [w64 (x := t + 1) (by have := f.t0; omega) (by omega)]
    exact hk mk out f2
theorem flood_l0 {w h : Int} {p : List Int} {D : Int → Int → Prop} {c : Int} {M0 : Int → Prop} {s : Int} {U : Nat} {st : List S66} (hw : 0 ≤ w) (hh : 0 ≤ h) (hw2 : w ≤ 1000) (hh2 : h ≤ 1000) (hp : (p.length : Int) = w * h) (hm : w * h ≤ 1000000) (hU : U ≤ 1000000) (hst : Stps st D) :
    ∀ (mk : List Bool) (out : List S66) (t : Int), FI w h p D c M0 s U mk out t → EvP (fun k => shape_flood.l0 k mk st c out t w h p) (fun r => FI w h p D c M0 s U r.2 r.1 r.1.length) := by
  intro mk out t f
  refine EvP.loop (L := fun k (x : List Bool × List S66 × Int) => shape_flood.l0 k x.1 st c x.2.1 x.2.2 w h p) (fun x => FI w h p D c M0 s U x.1 x.2.1 x.2.2) (fun x => U - x.2.2.toNat) ?_ (mk, out, t) f
  rintro ⟨mk, out, t⟩ f ih
  have f : FI w h p D c M0 s U mk out t := f
  refine EvP.step (fun k => by rw [shape_flood.l0]) ?_
  refine EvP.ite (fun z => ?_) (fun z => EvP.ret ?_)
  · have z : t < (out.length : Int) := z
    refine flood_l1 hw hh hw2 hh2 hp hm hU hst t (fun mk' out' f' => ih (mk', out', t + 1) f' ?_) mk out f z
    have := f.cnt
    have := f.t0
    show U - (t + 1).toNat < U - t.toNat
    omega
  · have z : ¬ t < (out.length : Int) := z
    have e : t = (out.length : Int) := by have := f.t1; omega
    subst e
    exact f
/-- The flood of the program: what it found, and the marks. -/
theorem flood_is {w h : Int} {p : List Int} {D : Int → Int → Prop} {st : List S66} (hw : 0 ≤ w) (hh : 0 ≤ h) (hw2 : w ≤ 1000) (hh2 : h ≤ 1000) (hp : (p.length : Int) = w * h) (hm : w * h ≤ 1000000) (hst : Stps st D) (mk : List Bool) (hl : mk.length = p.length) (x y : Int) (hi : inn w h ⟨x, y⟩) (hn : ¬ mkd mk (y * w + x)) :
    EvP (fun k => shape_flood.f k w h p mk x y st) (fun r => FI w h p D (rd p (y * w + x)) (mkd mk) (y * w + x) (unm mk) r.2 r.1 r.1.length) := by
  have hx0 : 0 ≤ y * w + x := (ix_in hi).1
  have hx1 : y * w + x < w * h := (ix_in hi).2
  have hi1 : 0 ≤ x := hi.1
  have hi2 : x < w := hi.2.1
  have hv0 : 0 ≤ y * w := Int.mul_nonneg hi.2.2.1 hw
  have hlt : y * w + x < (mk.length : Int) := by rw [hl, hp]; exact hx1
  have hU : unm mk ≤ 1000000 := by
    have : unm mk ≤ mk.length := List.count_le_length
    omega
  unfold shape_flood.f
  rw [w64 (x := y * w) (by omega) (by omega), w64 (x := y * w + x) (by omega) (by omega)]
  refine EvP.pos hx0 (EvP.pos (by omega) (EvP.pos hlt ?_))
  refine flood_l0 hw hh hw2 hh2 hp hm hU hst _ _ 0 ⟨by rw [List.length_set]; exact hl, ?_, ?_, ?_, ⟨⟨x, y⟩, by simp, rfl⟩, by omega, by simp, fun n n0 n1 => by omega⟩
  · have := unm_set mk (y * w + x).toNat (by omega) (by
      unfold mkd rdOf at hn
      simpa using hn)
    simp
    omega
  · intro e he
    have : e = ⟨x, y⟩ := by simpa using he
    subst this
    exact ⟨hi, .refl ⟨hx0, hx1, rfl⟩, hn⟩
  · intro j j0 j1
    rw [mkd_set mk hx0 hlt j0]
    constructor
    · rintro (rfl | m)
      · exact .inr ⟨⟨x, y⟩, by simp, rfl⟩
      · exact .inl m
    · rintro (m | ⟨e, he, r⟩)
      · exact .inr m
      · have : e = ⟨x, y⟩ := by simpa using he
        subst this
        exact .inl r.symm

def DD (cor : Bool) (dx dy : Int) : Prop := -1 ≤ dx ∧ dx ≤ 1 ∧ -1 ≤ dy ∧ dy ≤ 1 ∧ ¬ (dx = 0 ∧ dy = 0) ∧ (cor = true ∨ dx = 0 ∨ dy = 0)
def unz (m : List Int) : Nat := m.count 0
theorem unz_set : ∀ (m : List Int) (i : Nat) (a : Int), i < m.length → m.getD i 0 = 0 → a ≠ 0 → unz (m.set i a) + 1 = unz m
  | [], i, _, h, _, _ => by simp at h
  | b :: m, 0, a, _, e, ha => by
    have : b = 0 := e
    subst this
    unfold unz
    rw [List.set_cons_zero, List.count_cons, List.count_cons]
    simp [ha]
  | b :: m, i + 1, a, h, e, ha => by
    have ih := unz_set m i a (by simpa using h) e ha
    unfold unz at ih ⊢
    rw [List.set_cons_succ, List.count_cons, List.count_cons]
    omega
structure FR (w h : Int) (p : List Int) (D : Int → Int → Prop) (c : Int) (m0 : List Int) (a s : Int) (U : Nat) (m : List Int) (out : List Int) (t : Int) : Prop where
  len : m.length = p.length
  cnt : out.length + unz m = U
  own : ∀ e ∈ out, (0 ≤ e ∧ e < w * h) ∧ Rch (adjD w h D) (colS w h p c) s e ∧ rd m0 e = 0
  mks : ∀ j, 0 ≤ j → j < w * h → (j ∈ out → rd m j = a) ∧ (j ∉ out → rd m j = rd m0 j)
  beg : s ∈ out
  t0 : 0 ≤ t
  t1 : t ≤ (out.length : Int)
  dn : ∀ n : Int, 0 ≤ n → n < t → ∀ q, adjD w h D (rd out n) q → colS w h p c q → rd m q ≠ 0
theorem FR.more {w h : Int} {p : List Int} {D : Int → Int → Prop} {c : Int} {m0 : List Int} {a s : Int} {U : Nat} {m out : List Int} {t : Int} (f : FR w h p D c m0 a s U m out t) (ha : a ≠ 0) (hp : (p.length : Int) = w * h)
    {i j : Int} (hi : i ∈ out) (j0 : 0 ≤ j) (j1 : j < w * h) (hd : adjD w h D i j) (hn : rd m j = 0) (hc : rd p j = c) : FR w h p D c m0 a s U (m.set j.toNat a) (out ++ [j]) t := by
  have hlt : j < (m.length : Int) := by rw [f.len, hp]; exact j1
  have hq := f.own _ hi
  have nj : j ∉ out := fun z => ha (((f.mks j j0 j1).1 z).symm.trans hn)
  refine ⟨by rw [List.length_set]; exact f.len, ?_, ?_, ?_, List.mem_append_left _ f.beg, f.t0, by rw [List.length_append]; have := f.t1; simp; omega, ?_⟩
  · have := unz_set m j.toNat a (by omega) hn ha
    have := f.cnt
    rw [List.length_append]
    simp
    omega
  · intro e he
    rcases List.mem_append.mp he with he | he
    · exact f.own e he
    · have : e = j := by simpa using he
      subst this
      exact ⟨⟨j0, j1⟩, .step hq.2.1 hd ⟨j0, j1, hc⟩, ((f.mks e j0 j1).2 nj).symm.trans hn⟩
  · intro q q0 q1
    rw [rd_set m j q a j0 hlt q0]
    by_cases e : q = j
    · subst e
      exact ⟨fun _ => if_pos rfl, fun z => absurd (List.mem_append_right _ (by simp)) z⟩
    · rw [if_neg e]
      refine ⟨fun z => (f.mks q q0 q1).1 ?_, fun z => (f.mks q q0 q1).2 (fun y => z (List.mem_append_left _ y))⟩
      rcases List.mem_append.mp z with z | z
      · exact z
      · exact absurd (by simpa using z) e
  · intro n n0 n1 q hadj hq2
    rw [rd_append out j n n0, if_neg (by have := f.t1; omega)] at hadj
    rw [rd_set m j q a j0 hlt hq2.1]
    split
    · exact ha
    · exact f.dn n n0 n1 q hadj hq2
/-- What of the window is done. -/
def Win (w h : Int) (p : List Int) (c : Int) (cor : Bool) (m : List Int) (x y v u : Int) : Prop := ∀ u' v' : Int, y - 1 ≤ v' → x - 1 ≤ u' → u' ≤ x + 1 → (v' < v ∨ v' = v ∧ u' < u) → (cor = true ∨ u' = x ∨ v' = y) → 0 ≤ u' → u' < w → 0 ≤ v' → v' < h → colS w h p c (v' * w + u') → rd m (v' * w + u') ≠ 0
theorem Win.more {w h : Int} {p : List Int} {c : Int} {cor : Bool} {m : List Int} {x y v u : Int} (g : Win w h p c cor m x y v u) {j a : Int} (j0 : 0 ≤ j) (j1 : j < (m.length : Int)) (ha : a ≠ 0) : Win w h p c cor (m.set j.toNat a) x y v u := by
  intro u' v' a1 a2 a3 a4 a5 a6 a7 a8 a9 hc
  rw [rd_set m j _ a j0 j1 hc.1]
  split
  · exact ha
  · exact g u' v' a1 a2 a3 a4 a5 a6 a7 a8 a9 hc
theorem Win.next {w h : Int} {p : List Int} {c : Int} {cor : Bool} {m : List Int} {x y v u : Int} (g : Win w h p c cor m x y v u) (k : (cor = true ∨ u = x ∨ v = y) → 0 ≤ u → u < w → 0 ≤ v → v < h → colS w h p c (v * w + u) → rd m (v * w + u) ≠ 0) : Win w h p c cor m x y v (u + 1) := by
  intro u' v' a1 a2 a3 a4 a5 a6 a7 a8 a9 hc
  by_cases e : v' = v ∧ u' = u
  · obtain ⟨rfl, rfl⟩ := e
    exact k a5 a6 a7 a8 a9 hc
  · exact g u' v' a1 a2 a3 (by omega) a5 a6 a7 a8 a9 hc
theorem FR.done {w h : Int} {p : List Int} {c : Int} {m0 : List Int} {a s : Int} {U : Nat} {m out : List Int} {t : Int} {cor : Bool} (f : FR w h p (DD cor) c m0 a s U m out t) (ht : t < (out.length : Int)) {x y : Int} (hx : 0 ≤ x ∧ x < w ∧ 0 ≤ y ∧ y < h) (ex : rd out t = y * w + x)
    (g : Win w h p c cor m x y (y + 2) (x - 1)) : FR w h p (DD cor) c m0 a s U m out (t + 1) := by
  refine ⟨f.len, f.cnt, f.own, f.mks, f.beg, by have := f.t0; omega, by omega, ?_⟩
  intro n n0 n1 q ha hq
  by_cases e : n = t
  · subst e
    rw [ex] at ha
    obtain ⟨x', y', u, v, hx', hu, e1, e2, hd⟩ := ha
    obtain ⟨ey, ex'⟩ := flat_inj hx.1 hx.2.1 hx'.1 hx'.2.1 e1
    subst e2 ey ex'
    obtain ⟨d0, d1, d2, d3, _, d5⟩ := hd
    exact g u v (by omega) (by omega) (by omega) (by omega) (by rcases d5 with z | z | z; exact .inl z; exact .inr (.inl (by omega)); exact .inr (.inr (by omega))) hu.1 hu.2.1 hu.2.2.1 hu.2.2.2 hq
  · exact f.dn n n0 (by omega) q ha hq
theorem spread_l2 {P : Int × List Int → Prop} {w h : Int} {p : List Int} {c : Int} {m0 : List Int} {a s : Int} {U : Nat} {cor : Bool} (hw : 0 ≤ w) (hh : 0 ≤ h) (hw2 : w ≤ 1000) (hh2 : h ≤ 1000) (hp : (p.length : Int) = w * h) (hm : w * h ≤ 1000000) (hb : ∀ z ∈ p, 0 ≤ z ∧ z ≤ 255) (hU : U ≤ 1000000) (ha : a ≠ 0) (t x y : Int) (hx : 0 ≤ x ∧ x < w ∧ 0 ≤ y ∧ y < h) (v : Int) (v0 : y - 1 ≤ v) (v1 : v ≤ y + 1)
    (hk : ∀ m out, FR w h p (DD cor) c m0 a s U m out t → t < (out.length : Int) → rd out t = y * w + x → Win w h p c cor m x y (v + 1) (x - 1) → EvP (fun k => incunableref15_spread.l1 k m a c cor out t x y (v + 1) w h p) P)
    (m out : List Int) (f : FR w h p (DD cor) c m0 a s U m out t) (ht : t < (out.length : Int)) (ex : rd out t = y * w + x) (g : Win w h p c cor m x y v (x - 1)) :
    EvP (fun k => incunableref15_spread.l2 k m a c cor out t x y v (x - 1) w h p) P := by
  refine EvP.up (L := fun k u (z : List Int × List Int) => incunableref15_spread.l2 k z.1 a c cor z.2 t x y v u w h p) (fun u z => x - 1 ≤ u ∧ FR w h p (DD cor) c m0 a s U z.1 z.2 t ∧ t < (z.2.length : Int) ∧ rd z.2 t = y * w + x ∧ Win w h p c cor z.1 x y v u) (x + 2) ?_ (x - 1) (m, out) (by omega) ⟨by omega, f, ht, ex, g⟩
  rintro u ⟨m, out⟩ ⟨u0, f, ht, ex, g⟩ hu ih
  have f : FR w h p (DD cor) c m0 a s U m out t := f
  have ht : t < (out.length : Int) := ht
  have ex : rd out t = y * w + x := ex
  have g : Win w h p c cor m x y v u := g
  have lo : out.length ≤ 1000000 := by have := f.cnt; omega
  obtain ⟨x0, x1, y0, y1⟩ := hx
  refine EvP.step (fun k => by rw [incunableref15_spread.l2]) ?_
  rw [w64 (x := x + 1) (by omega) (by omega)]
  refine EvP.ite (fun u1 => ?_) (fun u1 => ?_)
  · have skip : ((cor = true ∨ u = x ∨ v = y) → 0 ≤ u → u < w → 0 ≤ v → v < h → colS w h p c (v * w + u) → rd m (v * w + u) ≠ 0) → EvP (fun k => incunableref15_spread.l2 k m a c cor out t x y v (wrap64 (u + 1)) w h p) P := fun z => by
      rw [w64 (x := u + 1) (by omega) (by omega)]
      exact ih (m, out) (by omega) ⟨by omega, f, ht, ex, g.next z⟩
    have yes : ((cor = true ∨ u = x ∨ v = y) → 0 ≤ u → u < w → 0 ≤ v → v < h → colS w h p c (v * w + u) → rd m (v * w + u) ≠ 0) → EvP (fun k => incunableref15_spread.j3 k m a c cor out t x y v u true w h p) P := fun z => EvP.step (fun k => by rw [incunableref15_spread.j3]) (EvP.pos rfl (skip z))
    refine EvP.ite (fun z => yes (fun _ b => by omega)) (fun z1 => ?_)
    refine EvP.ite (fun z => yes (fun _ _ _ b => by omega)) (fun z2 => ?_)
    refine EvP.ite (fun z => yes (fun _ _ b => by omega)) (fun z3 => ?_)
    refine EvP.ite (fun z => yes (fun _ _ _ _ b => by omega)) (fun z4 => ?_)
    have no : (cor = true ∨ u = x ∨ v = y) → EvP (fun k => incunableref15_spread.j3 k m a c cor out t x y v u false w h p) P := fun hal => by
      have hf := flat_lt (x := u) (y := v) (w := w) (h := h) (by omega) (by omega) (by omega) (by omega)
      obtain ⟨hv0, j0, j1⟩ := hf
      have hlt : v * w + u < (m.length : Int) := by rw [f.len, hp]; exact j1
      have pb := hb _ (rd_mem (l := p) j0 (by omega))
      refine EvP.step (fun k => by rw [incunableref15_spread.j3]) ?_
      refine EvP.neg (by simp) ?_
      rw [w64 (x := v * w) (by omega) (by omega), w64 (x := v * w + u) (by omega) (by omega), w64 (x := rd p (v * w + u)) (by omega) (by omega)]
      refine EvP.pos j0 (EvP.pos (by omega) ?_)
      refine EvP.ite (fun e => EvP.pos hlt ?_) (fun e => skip (fun _ _ _ _ _ q => absurd q.2.2 e))
      refine EvP.ite (fun n => EvP.pos (by omega) ?_) (fun n => skip (fun _ _ _ _ _ _ => n))
      have mi : y * w + x ∈ out := by rw [← ex]; exact rd_mem f.t0 ht
      have nc : ¬ (u - x = 0 ∧ v - y = 0) := fun z => by
        have e1 : v * w + u = y * w + x := by rw [show v = y by omega, show u = x by omega]
        rw [e1] at n
        have hq := (f.own _ mi).1
        exact ha (((f.mks _ hq.1 hq.2).1 mi).symm.trans n)
      have f2 := f.more ha hp mi j0 j1 ⟨x, y, u, v, ⟨x0, x1, y0, y1⟩, ⟨by omega, by omega, by omega, by omega⟩, rfl, rfl, by omega, by omega, by omega, by omega, nc, by rcases hal with z | z | z; exact .inl z; exact .inr (.inl (by omega)); exact .inr (.inr (by omega))⟩ n e
      rw [w64 (x := u + 1) (by omega) (by omega)]
      refine ih (m.set (v * w + u).toNat a, out ++ [v * w + u]) (by omega) ⟨by omega, f2, by show t < ((out ++ [v * w + u] : List Int).length : Int); rw [List.length_append]; omega, ?_, ?_⟩
      · show rd (out ++ [v * w + u]) t = _
        rw [rd_append _ _ _ f.t0, if_neg (by omega)]
        exact ex
      · refine (g.more j0 hlt ha).next (fun _ _ _ _ _ _ => ?_)
        show rd (m.set (v * w + u).toNat a) (v * w + u) ≠ 0
        rw [rd_set m _ _ a j0 hlt j0, if_pos rfl]
        exact ha
    refine EvP.ite (fun z => no (.inl z)) (fun z5 => ?_)
    refine EvP.ite (fun z => no (.inr (.inl z))) (fun z6 => ?_)
    by_cases e : v = y
    · have eb : (v != y) = false := by rw [e]; simp
      rw [eb]
      exact no (.inr (.inr e))
    · have eb : (v != y) = true := by
        rw [bne_iff_ne]
        exact e
      rw [eb]
      exact yes (fun z => absurd z (by rintro (z | z | z); exact z5 z; exact z6 z; exact e z))
  · rw [w64 (x := v + 1) (by omega) (by omega)]
    refine hk m out f ht ex ?_
    intro u' v' a1 a2 a3 a4 a5 a6 a7 a8 a9 hc
    exact g u' v' a1 a2 a3 (by omega) a5 a6 a7 a8 a9 hc
theorem spread_l0 {w h : Int} {p : List Int} {c : Int} {m0 : List Int} {a s : Int} {U : Nat} {cor : Bool} (hw : 0 ≤ w) (hh : 0 ≤ h) (hw2 : w ≤ 1000) (hh2 : h ≤ 1000) (hp : (p.length : Int) = w * h) (hm : w * h ≤ 1000000) (hb : ∀ z ∈ p, 0 ≤ z ∧ z ≤ 255) (hU : U ≤ 1000000) (ha : a ≠ 0) (m out : List Int) (t : Int) (f : FR w h p (DD cor) c m0 a s U m out t) :
    EvP (fun k => incunableref15_spread.l0 k m a c cor out t w h p) (fun r => ∃ out : List Int, r.1 = (out.length : Int) ∧ FR w h p (DD cor) c m0 a s U r.2 out out.length) := by
  refine EvP.loop (L := fun k (x : List Int × List Int × Int) => incunableref15_spread.l0 k x.1 a c cor x.2.1 x.2.2 w h p) (fun x => FR w h p (DD cor) c m0 a s U x.1 x.2.1 x.2.2) (fun x => U - x.2.2.toNat) ?_ (m, out, t) f
  rintro ⟨m, out, t⟩ f ih
  have f : FR w h p (DD cor) c m0 a s U m out t := f
  have lo : out.length ≤ 1000000 := by have := f.cnt; omega
  refine EvP.step (fun k => by rw [incunableref15_spread.l0]) ?_
  refine EvP.ite (fun z => ?_) (fun z => EvP.ret ?_)
  · have z : t < (out.length : Int) := z
    obtain ⟨⟨q0, q1⟩, _⟩ := f.own _ (rd_mem f.t0 z)
    obtain ⟨w0, a1, a2, a3, a4, a5⟩ := flat_of hw q0 q1
    have ex : rd out t = (rd out t / w) * w + rd out t % w := a5.symm
    refine EvP.pos f.t0 (EvP.neg (by omega) ?_)
    show EvP (fun k => incunableref15_spread.l1 k m a c cor out t (Int.tmod (rd out t) w) (wrap64 (Int.tdiv (rd out t) w)) (wrap64 (wrap64 (Int.tdiv (rd out t) w) - 1)) w h p) _
    rw [tmod_pos q0, tdiv_pos q0]
    generalize rd out t / w = y at a3 a4 ex ⊢
    generalize rd out t % w = x at a1 a2 ex ⊢
    rw [w64 (x := y) (by omega) (by omega), w64 (x := y - 1) (by omega) (by omega)]
    refine EvP.up (L := fun k v (z : List Int × List Int) => incunableref15_spread.l1 k z.1 a c cor z.2 t x y v w h p) (fun v z => y - 1 ≤ v ∧ FR w h p (DD cor) c m0 a s U z.1 z.2 t ∧ t < (z.2.length : Int) ∧ rd z.2 t = y * w + x ∧ Win w h p c cor z.1 x y v (x - 1)) (y + 2) ?_ (y - 1) (m, out) (by omega) ⟨by omega, f, z, ex, fun u' v' b1 b2 b3 b4 => by omega⟩
    rintro v ⟨m, out⟩ ⟨v0, f, ht, ex, g⟩ hv ih2
    have f : FR w h p (DD cor) c m0 a s U m out t := f
    have ht : t < (out.length : Int) := ht
    have lo : out.length ≤ 1000000 := by have := f.cnt; omega
    refine EvP.step (fun k => by rw [incunableref15_spread.l1]) ?_
    rw [w64 (x := y + 1) (by omega) (by omega)]
    refine EvP.ite (fun v1 => ?_) (fun v1 => ?_)
    · rw [w64 (x := x - 1) (by omega) (by omega)]
      exact spread_l2 hw hh hw2 hh2 hp hm hb hU ha t x y ⟨a1, a2, a3, a4⟩ v v0 v1 (fun m' out' f' ht' ex' g' => ih2 (m', out') (by omega) ⟨by omega, f', ht', ex', g'⟩) m out f ht ex g
    · have ev : v = y + 2 := by omega
      subst ev
      have f2 := f.done ht ⟨a1, a2, a3, a4⟩ ex g
      have t0 := f.t0
      show EvP (fun k => incunableref15_spread.l0 k m a c cor out (wrap64 (t + 1)) w h p) _
      rw [w64 (x := t + 1) (by omega) (by omega)]
      refine ih (m, out, t + 1) f2 ?_
      have := f.cnt
      show U - (t + 1).toNat < U - t.toNat
      omega
  · have z : ¬ t < (out.length : Int) := z
    have e : t = (out.length : Int) := by have := f.t1; omega
    subst e
    exact ⟨out, rfl, f⟩
/-- The flood of the reference. -/
theorem spread_is {w h : Int} {p : List Int} {cor : Bool} (hw : 0 ≤ w) (hh : 0 ≤ h) (hw2 : w ≤ 1000) (hh2 : h ≤ 1000) (hp : (p.length : Int) = w * h) (hm : w * h ≤ 1000000) (hb : ∀ z ∈ p, 0 ≤ z ∧ z ≤ 255) (m : List Int) (hl : m.length = p.length) (s a c : Int) (ha : a ≠ 0) (s0 : 0 ≤ s) (s1 : s < w * h) (hc : rd p s = c) (hn : rd m s = 0) :
    EvP (fun k => incunableref15_spread.f k w h p m s a c cor) (fun r => ∃ out : List Int, r.1 = (out.length : Int) ∧ FR w h p (DD cor) c m a s (unz m) r.2 out out.length) := by
  have hlt : s < (m.length : Int) := by rw [hl, hp]; exact s1
  have hU : unz m ≤ 1000000 := by
    have : unz m ≤ m.length := List.count_le_length
    omega
  unfold incunableref15_spread.f
  refine EvP.pos s0 (EvP.pos hlt ?_)
  refine spread_l0 hw hh hw2 hh2 hp hm hb hU ha _ _ 0 ⟨by rw [List.length_set]; exact hl, ?_, ?_, ?_, by simp, by omega, by simp, fun n n0 n1 => by omega⟩
  · have := unz_set m s.toNat a (by omega) hn ha
    simp
    omega
  · intro e he
    have : e = s := by simpa using he
    subst this
    exact ⟨⟨s0, s1⟩, .refl ⟨s0, s1, hc⟩, hn⟩
  · intro j j0 j1
    rw [rd_set m s j a s0 hlt j0]
    by_cases e : j = s
    · subst e
      exact ⟨fun _ => if_pos rfl, fun z => absurd (by simp) z⟩
    · rw [if_neg e]
      exact ⟨fun z => absurd (by simpa using z) e, fun _ => rfl⟩

theorem DD_neg {cor : Bool} {dx dy : Int} (h : DD cor dx dy) : DD cor (-dx) (-dy) := by
  obtain ⟨a, b, c, d, e, f⟩ := h
  exact ⟨by omega, by omega, by omega, by omega, fun z => e ⟨by omega, by omega⟩, by rcases f with z | z | z; exact .inl z; exact .inr (.inl (by omega)); exact .inr (.inr (by omega))⟩
theorem adj_symm {w h : Int} {cor : Bool} (i j : Int) (a : adjD w h (DD cor) i j) : adjD w h (DD cor) j i := by
  obtain ⟨x, y, u, v, hx, hu, e1, e2, d⟩ := a
  refine ⟨u, v, x, y, hu, hx, e2, e1, ?_⟩
  have := DD_neg d
  rw [show -(u - x) = x - u by omega, show -(v - y) = y - v by omega] at this
  exact this
def fourL : List S66 := [⟨-1, 0⟩, ⟨1, 0⟩, ⟨0, -1⟩, ⟨0, 1⟩]
theorem four_stps : Stps fourL (DD false) := by
  refine ⟨by decide, fun b b0 b1 => ?_, fun dx dy d => ?_⟩
  · have b1 : b < 4 := b1
    rcases (show b = 0 ∨ b = 1 ∨ b = 2 ∨ b = 3 by omega) with rfl | rfl | rfl | rfl
    · exact ⟨by decide, by decide, by decide, by decide, by show DD false (-1) 0; unfold DD; omega⟩
    · exact ⟨by decide, by decide, by decide, by decide, by show DD false 1 0; unfold DD; omega⟩
    · exact ⟨by decide, by decide, by decide, by decide, by show DD false 0 (-1); unfold DD; omega⟩
    · exact ⟨by decide, by decide, by decide, by decide, by show DD false 0 1; unfold DD; omega⟩
  · obtain ⟨a, b, c, d, e, f⟩ := d
    have f : dx = 0 ∨ dy = 0 := by
      rcases f with z | z
      · cases z
      · exact z
    rcases (show (dx = -1 ∧ dy = 0) ∨ (dx = 1 ∧ dy = 0) ∨ (dx = 0 ∧ dy = -1) ∨ (dx = 0 ∧ dy = 1) by omega) with ⟨rfl, rfl⟩ | ⟨rfl, rfl⟩ | ⟨rfl, rfl⟩ | ⟨rfl, rfl⟩
    · exact ⟨0, by omega, by decide, rfl⟩
    · exact ⟨1, by omega, by decide, rfl⟩
    · exact ⟨2, by omega, by decide, rfl⟩
    · exact ⟨3, by omega, by decide, rfl⟩

section
open Classical
/-- White. -/
def whi (w h : Int) (p : List Int) : Int → Prop := colS w h p 0
def R4 (w h : Int) (p : List Int) : Int → Int → Prop := Rch (adjD w h (DD false)) (whi w h p)
theorem R4_symm {w h : Int} {p : List Int} (i j : Int) (a : R4 w h p i j) : R4 w h p j i := Rch.symm adj_symm a
theorem R4_trans {w h : Int} {p : List Int} (i j k : Int) (a : R4 w h p i j) (b : R4 w h p j k) : R4 w h p i k := Rch.trans a b
/-- The places below n of which something holds, the last one first. -/
noncomputable def hl (ho : Int → Prop) : Nat → List Int
  | 0 => []
  | n + 1 => if ho n then (n : Int) :: hl ho n else hl ho n
theorem hl_s (ho : Int → Prop) (n : Nat) : hl ho (n + 1) = if ho n then (n : Int) :: hl ho n else hl ho n := rfl
theorem hl_mem (ho : Int → Prop) (j : Int) : ∀ n : Nat, j ∈ hl ho n ↔ 0 ≤ j ∧ j < n ∧ ho j
  | 0 => by
    simp [hl]
    omega
  | n + 1 => by
    rw [hl_s]
    by_cases c : ho n
    · rw [if_pos c, List.mem_cons, hl_mem ho j n]
      constructor
      · rintro (rfl | ⟨a, b, d⟩)
        · exact ⟨by omega, by omega, c⟩
        · exact ⟨a, by omega, d⟩
      · rintro ⟨a, b, d⟩
        by_cases e : j = n
        · exact .inl e
        · exact .inr ⟨a, by omega, d⟩
    · rw [if_neg c, hl_mem ho j n]
      constructor
      · rintro ⟨a, b, d⟩
        exact ⟨a, by omega, d⟩
      · rintro ⟨a, b, d⟩
        refine ⟨a, ?_, d⟩
        rcases (show j = n ∨ j < n by omega) with e | e
        · subst e; exact absurd d c
        · exact e
/-- A new one: none below is of its class. -/
theorem ncl_new {R : Int → Int → Prop} {ho : Int → Prop} {n : Nat} (c : ho n) (h : ¬ ∃ k : Int, 0 ≤ k ∧ k < n ∧ ho k ∧ R n k) : ncl R (hl ho (n + 1)) = ncl R (hl ho n) + 1 := by
  rw [hl_s, if_pos c, ncl_cons, if_neg]
  · omega
  · rintro ⟨y, hy, r⟩
    obtain ⟨a, b, d⟩ := (hl_mem ho y n).mp hy
    exact h ⟨y, a, b, d, r⟩
theorem ncl_old {R : Int → Int → Prop} {ho : Int → Prop} {n : Nat} (h : ho n → ∃ k : Int, 0 ≤ k ∧ k < n ∧ ho k ∧ R n k) : ncl R (hl ho (n + 1)) = ncl R (hl ho n) := by
  rw [hl_s]
  by_cases c : ho n
  · obtain ⟨k, a, b, d, r⟩ := h c
    rw [if_pos c, ncl_cons, if_pos ⟨k, (hl_mem ho k n).mpr ⟨a, b, d⟩, r⟩, Nat.zero_add]
  · rw [if_neg c]
theorem ncl_hl_le (R : Int → Int → Prop) (ho : Int → Prop) : ∀ n : Nat, ncl R (hl ho n) ≤ n
  | 0 => Nat.le_refl _
  | n + 1 => by
    have := ncl_hl_le R ho n
    rw [hl_s]
    by_cases c : ho n
    · rw [if_pos c, ncl_cons]
      split <;> omega
    · rw [if_neg c]
      omega
/-- A place at the border. -/
def bord (w h : Int) (j : Int) : Prop := 0 ≤ j ∧ j < w * h ∧ (j % w = 0 ∨ j / w = 0 ∨ j % w = w - 1 ∨ j / w = h - 1)
def hole (w h : Int) (p : List Int) (i : Int) : Prop := whi w h p i ∧ ¬ ∃ j, R4 w h p i j ∧ bord w h j
theorem hole_to {w h : Int} {p : List Int} {i j : Int} (a : hole w h p i) (r : R4 w h p i j) : hole w h p j := ⟨r.right, fun ⟨k, s, b⟩ => a.2 ⟨k, r.trans s, b⟩⟩
noncomputable def holN (w h : Int) (p : List Int) : Int := (ncl (R4 w h p) (hl (hole w h p) (w * h).toNat) : Nat)
end

instance (w h : Int) (p : List Int) : Decidable (Val w h p) := by unfold Val; exact inferInstance
theorem sid_mul {w h : Int} (hw : 0 ≤ w) (hh : 0 ≤ h) (hw' : w ≤ 200) (hh' : h ≤ 200) : 0 ≤ w * h ∧ w * h ≤ 40000 := by
  have h1 : 0 ≤ w * h := Int.mul_nonneg hw hh
  have h2 : w * h ≤ 200 * h := Int.mul_le_mul_of_nonneg_right hw' hh
  omega

theorem fits_is (w h : Int) : bitmap_fits.f w h = some (decide (Sid w h)) := by
  unfold bitmap_fits.f
  by_cases h1 : 0 ≤ w ∧ 0 ≤ h ∧ w ≤ 200 ∧ h ≤ 200
  · obtain ⟨a, b, c, d⟩ := h1
    have := sid_mul a b c d
    rw [if_pos (by omega), if_pos (by omega), if_pos c, if_pos d, w64 (by omega) (by omega)]
    simp [Sid, a, b, c, d]
  · have h2 : ¬ Sid w h := fun s => h1 ⟨s.1, s.2.1, s.2.2.1, s.2.2.2.1⟩
    simp only [h2, decide_false]
    split
    · split
      · split
        · split
          · omega
          · rfl
        · rfl
      · rfl
    · rfl

theorem Valid_l0 (p : List Int) (hl : (p.length : Int) ≤ 9223372036854775807) : EvP (fun k => bitmap_Valid.l0 k p (p.length : Int) 0) (· = decide (∀ x ∈ p, x ≤ 1)) := by
  refine EvP.up (L := fun k i (_ : Unit) => bitmap_Valid.l0 k p (p.length : Int) i) (fun i _ => 0 ≤ i ∧ ∀ j, 0 ≤ j → j < i → rd p j ≤ 1) p.length ?_ 0 () (by omega) ⟨by omega, fun j _ _ => by omega⟩
  intro i _ ⟨h0, hb⟩ hi ih
  refine EvP.step (fun k => by rw [bitmap_Valid.l0]) ?_
  refine EvP.ite (fun h1 => ?_) (fun h1 => ?_)
  · refine EvP.pos h0 (EvP.pos h1 (EvP.ite (fun h2 => EvP.ret ?_) (fun h2 => ?_)))
    · symm
      rw [decide_eq_false_iff_not]
      intro hall
      have := hall _ (rd_mem h0 h1)
      omega
    · rw [w64 (by omega) (by omega)]
      refine ih () h1 ⟨by omega, fun j hj hj' => ?_⟩
      rcases Int.lt_or_le j i with hji | hji
      · exact hb j hj hji
      · have : j = i := by omega
        subst this
        omega
  · refine EvP.ret ?_
    symm
    rw [decide_eq_true_iff]
    intro x hx
    obtain ⟨n, hn, rfl⟩ := List.getElem_of_mem hx
    have := hb (n : Int) (by omega) (by omega)
    rwa [rd_get p n hn] at this
theorem Valid_is (w h : Int) (p : List Int) (hp : ∀ x ∈ p, 0 ≤ x) (hl : (p.length : Int) ≤ 9223372036854775807) : EvP (fun k => bitmap_Valid.f k w h p) (· = decide (Val w h p)) := by
  unfold bitmap_Valid.f
  refine EvP.bindv (fits_is w h) ?_
  refine EvP.ite (fun h1 => ?_) (fun h1 => ?_)
  · rw [decide_eq_true_iff] at h1
    have hm := sid_mul h1.1 h1.2.1 h1.2.2.1 h1.2.2.2.1
    rw [w64 (by omega) (by omega)]
    refine EvP.step (fun k => by rw [bitmap_Valid.j0]) ?_
    refine EvP.ite (fun h2 => EvP.ret ?_) (fun h2 => ?_)
    · symm
      rw [decide_eq_false_iff_not]
      intro v
      simp [v.2.2.2.2.2.1] at h2
    · refine (Valid_l0 p hl).mono ?_
      rintro r rfl
      have e : (p.length : Int) = w * h := by simpa using h2
      apply decide_eq_decide.mpr
      constructor
      · intro hall
        exact ⟨h1.1, h1.2.1, h1.2.2.1, h1.2.2.2.1, h1.2.2.2.2, e, fun x hx => ⟨hp x hx, hall x hx⟩⟩
      · intro v x hx
        exact (v.2.2.2.2.2.2 x hx).2
  · refine EvP.step (fun k => by rw [bitmap_Valid.j0]) ?_
    refine EvP.pos rfl (EvP.ret ?_)
    symm
    rw [decide_eq_false_iff_not]
    intro v
    exact h1 (decide_eq_true v.sid)

def touch (w h : Int) (e : S66) : Prop := e.f0 = 0 ∨ e.f1 = 0 ∨ e.f0 = w - 1 ∨ e.f1 = h - 1
theorem Holes_1_is (w h : Int) (p : List Int) (e : S66) (hw : 0 ≤ w ∧ w ≤ 1000) (hh : 0 ≤ h ∧ h ≤ 1000) : ∃ b, shape_Holes_1.f e.f0 e.f1 w h p = some b ∧ (b = true ↔ touch w h e) := by
  unfold shape_Holes_1.f touch
  rw [w64 (x := w - 1) (by omega) (by omega), w64 (x := h - 1) (by omega) (by omega)]
  by_cases a : e.f0 = 0
  · exact ⟨true, by rw [if_pos a], by simp [a]⟩
  rw [if_neg a]
  by_cases b : e.f1 = 0
  · exact ⟨true, by rw [if_pos b], by simp [b]⟩
  rw [if_neg b]
  by_cases c : e.f0 = w - 1
  · exact ⟨true, by rw [if_pos c], by simp [c]⟩
  rw [if_neg c]
  refine ⟨_, rfl, ?_⟩
  rw [beq_iff_eq]
  exact ⟨fun z => .inr (.inr (.inr z)), fun z => by rcases z with z | z | z | z; exact absurd z a; exact absurd z b; exact absurd z c; exact z⟩
theorem HIndex_is (w h : Int) (p : List Int) (l : List S66) (hl : (l.length : Int) ≤ 1000000) (hw : 0 ≤ w ∧ w ≤ 1000) (hh : 0 ≤ h ∧ h ≤ 1000) : EvP (fun k => slices_IndexFunc_42.f k l w h p) (fun r => 0 ≤ r ↔ ∃ e ∈ l, touch w h e) := by
  unfold slices_IndexFunc_42.f
  refine EvP.up (L := fun k i (_ : Unit) => slices_IndexFunc_42.l0 k l (l.length : Int) i w h p) (fun i _ => 0 ≤ i ∧ ∀ j, 0 ≤ j → j < i → ¬ touch w h (rd_T66 l j)) l.length ?_ 0 () (by omega) ⟨by omega, fun j _ _ => by omega⟩
  intro i s ⟨i0, hs⟩ hi ih
  refine EvP.step (fun k => by rw [slices_IndexFunc_42.l0]) ?_
  refine EvP.ite (fun i1 => ?_) (fun i1 => ?_)
  · obtain ⟨b, e, hb⟩ := Holes_1_is w h p (rd_T66 l i) hw hh
    refine EvP.pos i0 (EvP.pos i1 (EvP.bindv e ?_))
    refine EvP.ite (fun c => EvP.ret ⟨fun _ => ⟨_, rd66_mem i0 i1, hb.mp c⟩, fun _ => i0⟩) (fun c => ?_)
    rw [w64 (by omega) (by omega)]
    refine ih () i1 ⟨by omega, fun j a d => ?_⟩
    by_cases z : j = i
    · subst z; exact fun q => c (hb.mpr q)
    · exact hs j a (by omega)
  · refine EvP.ret ⟨fun h => by omega, fun ⟨e, he, q⟩ => ?_⟩
    obtain ⟨n, n0, n1, en⟩ := mem_rd66 he
    exact absurd (by rw [en]; exact q) (hs n n0 (by omega))
theorem HContains_is (w h : Int) (p : List Int) (l : List S66) (hl : (l.length : Int) ≤ 1000000) (hw : 0 ≤ w ∧ w ≤ 1000) (hh : 0 ≤ h ∧ h ≤ 1000) : EvP (fun k => slices_ContainsFunc_42.f k l w h p) (fun r => r = true ↔ ∃ e ∈ l, touch w h e) := by
  unfold slices_ContainsFunc_42.f
  refine EvP.bind (HIndex_is w h p l hl hw hh) (fun r hr => EvP.ret ?_)
  rw [decide_eq_true_iff]
  exact hr
/-- What the flood found is what is come to. -/
theorem FI.all {w h : Int} {p : List Int} {c : Int} {M0 : Int → Prop} {s : Int} {U : Nat} {mk : List Bool} {out : List S66} {cor : Bool} (f : FI w h p (DD cor) c M0 s U mk out out.length) (hM : ∀ a b, M0 a → colS w h p c a → adjD w h (DD cor) a b → colS w h p c b → M0 b) (j : Int) : (∃ e ∈ out, ix w e = j) ↔ Rch (adjD w h (DD cor)) (colS w h p c) s j := by
  refine flood_all (M := M0) (Q := fun j => ∃ e ∈ out, ix w e = j) adj_symm hM f.beg ?_ ?_ j
  · rintro j ⟨e, he, rfl⟩
    exact (f.own e he).2
  · rintro a b ⟨e, he, rfl⟩ ab cb
    obtain ⟨n, n0, n1, en⟩ := mem_rd66 he
    have := f.dn n n0 n1 b (by rw [en]; exact ab) cb
    exact (f.mks b cb.1 cb.2.1).mp this
theorem Holes_l0 {w h : Int} {p : List Int} (v : Val w h p) : EvP (fun k => shape_Holes.l0 k (List.replicate p.length false) 0 p (p.length : Int) 0 w h p) (· = (holN w h p, 0)) := by
  obtain ⟨hw, hh, hw2, hh2, hm, hp, _⟩ := id v
  refine EvP.up (L := fun k i (s : List Bool × Int) => shape_Holes.l0 k s.1 s.2 p (p.length : Int) i w h p) (fun i s => 0 ≤ i ∧ s.1.length = p.length ∧ (∀ j, 0 ≤ j → j < w * h → (mkd s.1 j ↔ ∃ k, 0 ≤ k ∧ k < i ∧ R4 w h p k j)) ∧ s.2 = (ncl (R4 w h p) (hl (hole w h p) i.toNat) : Nat)) p.length ?_ 0 (List.replicate p.length false, 0) (by omega) ⟨by omega, List.length_replicate, fun j j0 j1 => ?_, rfl⟩
  · rintro i ⟨mk, cnt⟩ ⟨i0, hlm, hmk, hc⟩ hi ih
    have hlm : mk.length = p.length := hlm
    have hmk : ∀ j, 0 ≤ j → j < w * h → (mkd mk j ↔ ∃ k, 0 ≤ k ∧ k < i ∧ R4 w h p k j) := hmk
    have hc : cnt = (ncl (R4 w h p) (hl (hole w h p) i.toNat) : Nat) := hc
    have ei : ((i.toNat : Nat) : Int) = i := by omega
    have en : (i + 1).toNat = i.toNat + 1 := by omega
    have cb := ncl_hl_le (R4 w h p) (hole w h p) i.toNat
    refine EvP.step (fun k => by rw [shape_Holes.l0]) ?_
    refine EvP.ite (fun i1 => ?_) (fun i1 => EvP.ret ?_)
    · have iw : i < w * h := by omega
      have old : (whi w h p i → ∃ k : Int, 0 ≤ k ∧ k < i ∧ R4 w h p k i) → EvP (fun k => shape_Holes.j1 k mk cnt i p (p.length : Int) i true w h p) (· = (holN w h p, 0)) := fun z => by
        refine EvP.step (fun k => by rw [shape_Holes.j1]) (EvP.pos rfl ?_)
        rw [w64 (x := i + 1) (by omega) (by omega)]
        refine ih (mk, cnt) i1 ⟨by omega, hlm, fun j j0 j1 => ?_, ?_⟩
        · show mkd mk j ↔ _
          rw [hmk j j0 j1]
          constructor
          · rintro ⟨k, a, b, r⟩
            exact ⟨k, a, by omega, r⟩
          · rintro ⟨k, a, b, r⟩
            by_cases q : k = i
            · subst q
              obtain ⟨k', a', b', r'⟩ := z r.left
              exact ⟨k', a', b', r'.trans r⟩
            · exact ⟨k, a, by omega, r⟩
        · show cnt = _
          rw [hc, en, ncl_old (n := i.toNat) (fun q => ?_)]
          rw [ei] at q
          obtain ⟨k, a, b, r⟩ := z q.1
          exact ⟨k, a, by omega, hole_to q (R4_symm _ _ r), by rw [ei]; exact R4_symm _ _ r⟩
      refine EvP.pos i0 (EvP.pos i1 ?_)
      refine EvP.ite (fun c => EvP.pos (by omega) ?_) (fun c => old (fun q => absurd q.2.2 c))
      have wi : whi w h p i := ⟨i0, iw, c⟩
      by_cases mi : mkd mk i
      · have e : rdOf false mk i = true := mi
        rw [e]
        exact old (fun _ => (hmk i i0 iw).mp mi)
      have e : rdOf false mk i = false := by
        unfold mkd at mi
        simpa using mi
      rw [e]
      obtain ⟨w0, m0, m1, q0, q1, qe⟩ := flat_of hw i0 iw
      refine EvP.step (fun k => by rw [shape_Holes.j1]) ?_
      refine EvP.neg (by simp) (EvP.neg (by omega) ?_)
      refine EvP.bindv (show shape_four.f = some fourL from rfl) ?_
      rw [tmod_pos i0, tdiv_pos i0, w64 (x := i / w) (by omega) (by omega)]
      refine EvP.bind (flood_is hw hh (by omega) (by omega) hp (by omega) four_stps mk hlm (i % w) (i / w) ⟨m0, m1, q0, q1⟩ (by rw [qe]; exact mi)) ?_
      rintro ⟨out, mk'⟩ f
      have f : FI w h p (DD false) (rd p (i / w * w + i % w)) (mkd mk) (i / w * w + i % w) (unm mk) mk' out out.length := f
      rw [qe, c] at f
      have cl : ∀ a b, mkd mk a → colS w h p 0 a → adjD w h (DD false) a b → colS w h p 0 b → mkd mk b := fun a b ma ca ab cb' => by
        obtain ⟨k, k0, k1, r⟩ := (hmk a ca.1 ca.2.1).mp ma
        exact (hmk b cb'.1 cb'.2.1).mpr ⟨k, k0, k1, .step r ab cb'⟩
      have al := f.all cl
      have lo : (out.length : Int) ≤ 1000000 := by
        have := f.cnt
        have : unm mk ≤ mk.length := List.count_le_length
        omega
      refine EvP.bind (HContains_is w h p out lo ⟨hw, by omega⟩ ⟨hh, by omega⟩) (fun r hr => ?_)
      have ht : (∃ e ∈ out, touch w h e) ↔ ∃ j, R4 w h p i j ∧ bord w h j := by
        constructor
        · rintro ⟨e, he, t⟩
          have ie := (f.own e he).1
          have hx := ix_in ie
          refine ⟨ix w e, (al _).mp ⟨e, he, rfl⟩, hx.1, hx.2, ?_⟩
          unfold ix
          rw [flat_mod ie.1 ie.2.1, flat_div ie.1 ie.2.1]
          exact t
        · rintro ⟨j, r, b⟩
          obtain ⟨e, he, ej⟩ := (al j).mpr r
          have ie := (f.own e he).1
          subst ej
          have b2 := b.2.2
          unfold ix at b2
          rw [flat_mod ie.1 ie.2.1, flat_div ie.1 ie.2.1] at b2
          exact ⟨e, he, b2⟩
      have nm : ∀ j, 0 ≤ j → j < w * h → (mkd mk' j ↔ ∃ k, 0 ≤ k ∧ k < i + 1 ∧ R4 w h p k j) := fun j j0 j1 => by
        rw [f.mks j j0 j1, hmk j j0 j1, al j]
        constructor
        · rintro (⟨k, a, b, r⟩ | r)
          · exact ⟨k, a, by omega, r⟩
          · exact ⟨i, i0, by omega, r⟩
        · rintro ⟨k, a, b, r⟩
          by_cases q : k = i
          · subst q; exact .inr r
          · exact .inl ⟨k, a, by omega, r⟩
      show EvP (fun k => if r = true then shape_Holes.l0 k mk' cnt p (p.length : Int) (wrap64 (i + 1)) w h p else shape_Holes.l0 k mk' (wrap64 (cnt + 1)) p (p.length : Int) (wrap64 (i + 1)) w h p) _
      rw [w64 (x := i + 1) (by omega) (by omega), w64 (x := cnt + 1) (by omega) (by omega)]
      refine EvP.ite (fun z => ih (mk', cnt) i1 ⟨by omega, f.len, nm, ?_⟩) (fun z => ih (mk', cnt + 1) i1 ⟨by omega, f.len, nm, ?_⟩)
      · show cnt = _
        rw [hc, en, ncl_old (n := i.toNat) (fun q => ?_)]
        rw [ei] at q
        exact absurd (ht.mp (hr.mp z)) q.2
      · show cnt + 1 = _
        have c1 : hole w h p ((i.toNat : Nat) : Int) := by
          rw [ei]
          exact ⟨wi, fun q => z (hr.mpr (ht.mpr q))⟩
        have c2 : ¬ ∃ k : Int, 0 ≤ k ∧ k < ((i.toNat : Nat) : Int) ∧ hole w h p k ∧ R4 w h p ((i.toNat : Nat) : Int) k := by
          rintro ⟨k, a, b, d, r⟩
          rw [ei] at r
          exact mi ((hmk i i0 iw).mpr ⟨k, a, by omega, R4_symm _ _ r⟩)
        rw [hc, en, ncl_new c1 c2]
        omega
    · show (cnt, (0 : Int)) = _
      have : i.toNat = (w * h).toNat := by omega
      rw [hc, this]
      rfl
  · constructor
    · intro z
      have : rdOf false (List.replicate p.length false) j = true := z
      simp only [rdOf, List.getD, List.getElem?_replicate] at this
      split at this <;> simp at this
    · rintro ⟨k, a, b, _⟩
      omega
def holQ (w h : Int) (p : List Int) (r : Int × Int) : Prop := (Val w h p → r = (holN w h p, 0)) ∧ (¬ Val w h p → r = (0, 30))
theorem shapeHoles_is (w h : Int) (p : List Int) (hp : ∀ x ∈ p, 0 ≤ x) (hl : (p.length : Int) ≤ 9223372036854775807) : EvP (fun k => shape_Holes.f k w h p) (holQ w h p) := by
  unfold shape_Holes.f
  refine EvP.bind (Valid_is w h p hp hl) ?_
  rintro _ rfl
  refine EvP.ite (fun q => ?_) (fun q => EvP.ret ⟨fun v => absurd (decide_eq_true v) q, fun _ => rfl⟩)
  have v : Val w h p := by simpa using q
  have hlen : (p.length : Int) ≤ 8192 := by rw [v.2.2.2.2.2.1]; exact v.2.2.2.2.1
  refine EvP.pos (by omega) (EvP.pos (by omega) ?_)
  rw [show ((p.length : Int) : Int).toNat = p.length by omega]
  refine (Holes_l0 v).mono ?_
  rintro _ rfl
  exact ⟨fun _ => rfl, fun z => absurd v z⟩

theorem inside_is (w h : Int) (p : List Int) (x y : Int) : incunableref05_inside.f w h p x y = some (decide (0 ≤ x ∧ x < w ∧ 0 ≤ y ∧ y < h)) := by
  unfold incunableref05_inside.f
  by_cases a : x ≥ 0
  · rw [if_pos a]
    by_cases b : y ≥ 0
    · rw [if_pos b]
      by_cases c : x < w
      · rw [if_pos c]
        exact congrArg some (decide_eq_decide.mpr ⟨fun q => by omega, fun q => by omega⟩)
      · rw [if_neg c]
        exact congrArg some (decide_eq_false (by omega)).symm
    · rw [if_neg b]
      exact congrArg some (decide_eq_false (by omega)).symm
  · rw [if_neg a]
    exact congrArg some (decide_eq_false (by omega)).symm

theorem At_is {w h : Int} {p : List Int} (v : Val w h p) (x y : Int) : incunableref05_At.f w h p x y = some (pix w h p x y) := by
  unfold incunableref05_At.f
  rw [inside_is, Option.bind_some]
  by_cases hc : 0 ≤ x ∧ x < w ∧ 0 ≤ y ∧ y < h
  · have hf := flat_lt hc.1 hc.2.1 hc.2.2.1 hc.2.2.2
    have hm := v.2.2.2.2.1
    have hl := v.2.2.2.2.2.1
    have e : wrap64 (y * w) = y * w := w64 (by omega) (by omega)
    have hr := v.2.2.2.2.2.2 _ (rd_mem (l := p) hf.2.1 (by omega))
    rw [if_pos (decide_eq_true hc), e, w64 (by omega) (by omega), if_pos hf.2.1, if_pos (by omega), w64 (by omega) (by omega), pix_in hc.1 hc.2.1 hc.2.2.1 hc.2.2.2]
  · rw [if_neg (by simpa using hc), pix_out hc]

theorem Put_is {w h : Int} {g : Int → Int → Int} {x y v : Int} (hw : 0 ≤ w) (hh : 0 ≤ h) (hm : w * h ≤ 40000) (hx0 : 0 ≤ x) (hx : x < w) (hy0 : 0 ≤ y) (hy : y < h) :
    incunableref05_Put.f w h (tab w h g) x y v = some (tab w h (upd g x y (v % 256))) := by
  have h0 : 0 ≤ w * h := Int.mul_nonneg hw hh
  have hf := flat_lt hx0 hx hy0 hy
  unfold incunableref05_Put.f
  have e : wrap64 (y * w) = y * w := w64 (by omega) (by omega)
  rw [e, w64 (by omega) (by omega), if_pos hf.2.1, if_pos (by rw [tab_length]; omega), set_tab hw hh hx0 hx hy0 hy]

def frL (w h : Int) (p : List Int) : List Int := tab (w + 2) (h + 2) (fun x y => pix w h p (x - 1) (y - 1))
theorem frame_is {w h : Int} {p : List Int} (v : Val w h p) : EvP (fun k => incunableref15_frame.f k w h p) (· = (w + 2, h + 2, frL w h p, 0)) := by
  obtain ⟨hw, hh, hw2, hh2, hm, hp, _⟩ := id v
  have eA : (w + 2) * (h + 2) = w * h + 2 * w + 2 * h + 4 := by
    rw [Int.add_mul, Int.mul_add, Int.mul_add]
    omega
  unfold incunableref15_frame.f
  rw [w64 (x := w + 2) (by omega) (by omega), w64 (x := h + 2) (by omega) (by omega), w64 (x := (w + 2) * (h + 2)) (by omega) (by omega)]
  refine EvP.pos (by omega) (EvP.pos (by omega) ?_)
  rw [replicate_tab (by omega) (by omega)]
  refine EvP.rasterP (L0 := fun k y s => incunableref15_frame.l0 k y w h p (w + 2) (h + 2) s) (L1 := fun k y x s => incunableref15_frame.l1 k y x w h p (w + 2) (h + 2) s) (W := w) (H := h)
    (fun x y => x + 1) (fun x y => y + 1) (fun u t => u - 1) (fun u t => t - 1) (fun _ _ => 0) (fun u t => pix w h p (u - 1) (t - 1)) hw hh (by omega) (by omega) ?_ ?_ ?_ ?_ ?_ ?_ ?_
  · exact fun x y _ _ _ _ => ⟨by omega, by omega⟩
  · exact fun u t _ _ _ _ _ _ _ _ => ⟨by omega, by omega⟩
  · intro y s y0 y1 hk
    refine EvP.step (fun k => by rw [incunableref15_frame.l0]) ?_
    exact EvP.pos y1 hk
  · refine EvP.step (fun k => by rw [incunableref15_frame.l0]) ?_
    refine EvP.neg (by omega) (EvP.ret ?_)
    unfold frL
    refine congrArg (fun l => (w + 2, h + 2, l, (0 : Int))) (tab_congr (by omega) (by omega) (fun u t a b c d => ?_))
    by_cases z : 0 ≤ u - 1 ∧ u - 1 < w ∧ 0 ≤ t - 1 ∧ t - 1 < h
    · rw [if_pos z]
    · rw [if_neg z, pix_out z]
  · intro x y g x0 x1 y0 y1 _ _ _ _ _ hk
    have v01 := v.pix01 x y
    refine EvP.step (fun k => by rw [incunableref15_frame.l1]) ?_
    rw [w64 (x := x + 1) (by omega) (by omega), w64 (x := y + 1) (by omega) (by omega)]
    refine EvP.pos x1 (EvP.bindv (At_is v x y) (EvP.bindv (Put_is (by omega) (by omega) (by omega) (by omega) (by omega) (by omega) (by omega)) ?_))
    have ev : pix w h p (x + 1 - 1) (y + 1 - 1) = pix w h p x y % 256 := by
      rw [show x + 1 - 1 = x by omega, show y + 1 - 1 = y by omega]
      omega
    rw [← ev]
    exact hk
  · intro x y g x0 x1 y0 y1 hn _
    exact absurd ⟨by omega, by omega, by omega, by omega⟩ hn
  · intro y s y0 y1 hk
    refine EvP.step (fun k => by rw [incunableref15_frame.l1]) ?_
    refine EvP.neg (by omega) ?_
    rw [w64 (x := y + 1) (by omega) (by omega)]
    exact hk

theorem Sides_is (w h : Int) : incunableref05_Sides.f w h = some (decide (Sid w h)) := by
  unfold incunableref05_Sides.f
  by_cases h1 : 0 ≤ w ∧ 0 ≤ h ∧ w ≤ 200 ∧ h ≤ 200
  · obtain ⟨a, b, c, d⟩ := h1
    have := sid_mul a b c d
    rw [if_pos (by omega), if_pos (by omega), if_pos c, if_pos d, w64 (by omega) (by omega)]
    simp [Sid, a, b, c, d]
  · have h2 : ¬ Sid w h := fun s => h1 ⟨s.1, s.2.1, s.2.2.1, s.2.2.2.1⟩
    simp only [h2, decide_false]
    split
    · split
      · split
        · split
          · omega
          · rfl
        · rfl
      · rfl
    · rfl

theorem refValid_l0 (w h : Int) (p : List Int) (hl : (p.length : Int) ≤ 9223372036854775807) : EvP (fun k => incunableref05_Valid.l0 k 0 w h p) (· = decide (∀ x ∈ p, x ≤ 1)) := by
  refine EvP.up (L := fun k i (_ : Unit) => incunableref05_Valid.l0 k i w h p) (fun i _ => 0 ≤ i ∧ ∀ j, 0 ≤ j → j < i → rd p j ≤ 1) p.length ?_ 0 () (by omega) ⟨by omega, fun j _ _ => by omega⟩
  intro i _ ⟨h0, hb⟩ hi ih
  refine EvP.step (fun k => by rw [incunableref05_Valid.l0]) ?_
  refine EvP.ite (fun h1 => ?_) (fun h1 => ?_)
  · refine EvP.pos h0 (EvP.ite (fun h2 => EvP.ret ?_) (fun h2 => ?_))
    · symm
      rw [decide_eq_false_iff_not]
      intro hall
      have := hall _ (rd_mem h0 h1)
      omega
    · rw [w64 (by omega) (by omega)]
      refine ih () h1 ⟨by omega, fun j hj hj' => ?_⟩
      rcases Int.lt_or_le j i with hji | hji
      · exact hb j hj hji
      · have : j = i := by omega
        subst this
        omega
  · refine EvP.ret ?_
    symm
    rw [decide_eq_true_iff]
    intro x hx
    obtain ⟨n, hn, rfl⟩ := List.getElem_of_mem hx
    have := hb (n : Int) (by omega) (by omega)
    rwa [rd_get p n hn] at this
theorem refValid_is (w h : Int) (p : List Int) (hp : ∀ x ∈ p, 0 ≤ x) (hl : (p.length : Int) ≤ 9223372036854775807) : EvP (fun k => incunableref05_Valid.f k w h p) (· = decide (Val w h p)) := by
  unfold incunableref05_Valid.f
  refine EvP.bindv (Sides_is w h) ?_
  refine EvP.ite (fun h1 => ?_) (fun h1 => ?_)
  · rw [decide_eq_true_iff] at h1
    have hm := sid_mul h1.1 h1.2.1 h1.2.2.1 h1.2.2.2.1
    rw [w64 (by omega) (by omega)]
    refine EvP.step (fun k => by rw [incunableref05_Valid.j0]) ?_
    refine EvP.ite (fun h2 => EvP.ret ?_) (fun h2 => ?_)
    · symm
      rw [decide_eq_false_iff_not]
      intro v
      simp [v.2.2.2.2.2.1] at h2
    · refine (refValid_l0 w h p hl).mono ?_
      rintro r rfl
      have e : (p.length : Int) = w * h := by simpa using h2
      apply decide_eq_decide.mpr
      constructor
      · intro hall
        exact ⟨h1.1, h1.2.1, h1.2.2.1, h1.2.2.2.1, h1.2.2.2.2, e, fun x hx => ⟨hp x hx, hall x hx⟩⟩
      · intro v x hx
        exact (v.2.2.2.2.2.2 x hx).2
  · refine EvP.step (fun k => by rw [incunableref05_Valid.j0]) ?_
    refine EvP.pos rfl (EvP.ret ?_)
    symm
    rw [decide_eq_false_iff_not]
    intro v
    exact h1 (decide_eq_true v.sid)

theorem FR.all {w h : Int} {p : List Int} {c : Int} {m0 : List Int} {a s : Int} {U : Nat} {m out : List Int} {cor : Bool} (f : FR w h p (DD cor) c m0 a s U m out out.length) (hM : ∀ x y, rd m0 x ≠ 0 → colS w h p c x → adjD w h (DD cor) x y → colS w h p c y → rd m0 y ≠ 0) (j : Int) : j ∈ out ↔ Rch (adjD w h (DD cor)) (colS w h p c) s j := by
  refine flood_all (M := fun j => rd m0 j ≠ 0) (Q := fun j => j ∈ out) adj_symm hM f.beg ?_ ?_ j
  · intro j hj
    exact ⟨(f.own j hj).2.1, fun z => z (f.own j hj).2.2⟩
  · intro x y hx xy cy
    obtain ⟨n, hn, he⟩ := List.getElem_of_mem hx
    have e : rd out (n : Int) = x := by rw [rd_get out n hn]; exact he
    have := f.dn (n : Int) (by omega) (by omega) y (by rw [e]; exact xy) cy
    by_cases z : y ∈ out
    · exact .inr z
    · rw [(f.mks y cy.1 cy.2.1).2 z] at this
      exact .inl this
def inl4 (w h : Int) (p : List Int) (i : Int) : Prop := whi w h p i ∧ ¬ R4 w h p 0 i
noncomputable def inlN (w h : Int) (p : List Int) : Int := (ncl (R4 w h p) (hl (inl4 w h p) (w * h).toNat) : Nat)
theorem refHoles_l0 {w h : Int} {p : List Int} (hw : 0 ≤ w) (hh : 0 ≤ h) (hw2 : w ≤ 1000) (hh2 : h ≤ 1000) (hp : (p.length : Int) = w * h) (hm : w * h ≤ 1000000) (hb : ∀ z ∈ p, 0 ≤ z ∧ z ≤ 255) (m1 : List Int) (hl1 : m1.length = p.length) (h1 : ∀ j, 0 ≤ j → j < w * h → (rd m1 j ≠ 0 ↔ R4 w h p 0 j)) :
    EvP (fun k => incunableref15_Holes.l0 k m1 0 0 w h p) (· = (inlN w h p, 0)) := by
  refine EvP.up (L := fun k i (s : List Int × Int) => incunableref15_Holes.l0 k s.1 s.2 i w h p) (fun i s => 0 ≤ i ∧ s.1.length = p.length ∧ (∀ j, 0 ≤ j → j < w * h → (rd s.1 j ≠ 0 ↔ R4 w h p 0 j ∨ ∃ k, 0 ≤ k ∧ k < i ∧ R4 w h p k j)) ∧ s.2 = (ncl (R4 w h p) (hl (inl4 w h p) i.toNat) : Nat)) p.length ?_ 0 (m1, 0) (by omega) ⟨by omega, hl1, fun j j0 j1 => ?_, rfl⟩
  · rintro i ⟨m, cnt⟩ ⟨i0, hlm, hmk, hc⟩ hi ih
    have hlm : m.length = p.length := hlm
    have hmk : ∀ j, 0 ≤ j → j < w * h → (rd m j ≠ 0 ↔ R4 w h p 0 j ∨ ∃ k, 0 ≤ k ∧ k < i ∧ R4 w h p k j) := hmk
    have hc : cnt = (ncl (R4 w h p) (hl (inl4 w h p) i.toNat) : Nat) := hc
    have ei : ((i.toNat : Nat) : Int) = i := by omega
    have en : (i + 1).toNat = i.toNat + 1 := by omega
    have cb := ncl_hl_le (R4 w h p) (inl4 w h p) i.toNat
    refine EvP.step (fun k => by rw [incunableref15_Holes.l0]) ?_
    refine EvP.ite (fun i1 => ?_) (fun i1 => EvP.ret ?_)
    · have i1 : i < (m.length : Int) := i1
      have iw : i < w * h := by omega
      have old : (whi w h p i → rd m i ≠ 0) → EvP (fun k => incunableref15_Holes.l0 k m cnt (wrap64 (i + 1)) w h p) (· = (inlN w h p, 0)) := fun z => by
        rw [w64 (x := i + 1) (by omega) (by omega)]
        refine ih (m, cnt) (by omega) ⟨by omega, hlm, fun j j0 j1 => ?_, ?_⟩
        · show rd m j ≠ 0 ↔ _
          rw [hmk j j0 j1]
          constructor
          · rintro (r | ⟨k, a, b, r⟩)
            · exact .inl r
            · exact .inr ⟨k, a, by omega, r⟩
          · rintro (r | ⟨k, a, b, r⟩)
            · exact .inl r
            · by_cases q : k = i
              · subst q
                rcases (hmk k i0 iw).mp (z r.left) with r' | ⟨k', a', b', r'⟩
                · exact .inl (r'.trans r)
                · exact .inr ⟨k', a', b', r'.trans r⟩
              · exact .inr ⟨k, a, by omega, r⟩
        · show cnt = _
          rw [hc, en, ncl_old (n := i.toNat) (fun q => ?_)]
          rw [ei] at q
          rcases (hmk i i0 iw).mp (z q.1) with r | ⟨k, a, b, r⟩
          · exact absurd r q.2
          · exact ⟨k, a, by omega, ⟨r.left, fun r' => q.2 (r'.trans r)⟩, by rw [ei]; exact R4_symm _ _ r⟩
      refine EvP.pos i0 (EvP.pos (by omega) ?_)
      refine EvP.ite (fun c => ?_) (fun c => old (fun q => absurd q.2.2 c))
      have wi : whi w h p i := ⟨i0, iw, c⟩
      refine EvP.ite (fun mi => ?_) (fun mi => old (fun _ => mi))
      have mi : rd m i = 0 := mi
      rw [w64 (x := cnt + 1) (by omega) (by omega), w64 (x := 1 + (cnt + 1)) (by omega) (by omega), w64 (x := i + 1) (by omega) (by omega)]
      refine EvP.bind (spread_is (cor := false) hw hh hw2 hh2 hp hm hb m hlm i (1 + (cnt + 1)) 0 (by omega) i0 iw c mi) ?_
      rintro ⟨q, m'⟩ ⟨out, hq, f⟩
      have f : FR w h p (DD false) 0 m (1 + (cnt + 1)) i (unz m) m' out out.length := f
      have cl : ∀ x y, rd m x ≠ 0 → colS w h p 0 x → adjD w h (DD false) x y → colS w h p 0 y → rd m y ≠ 0 := fun x y mx cx xy cy => by
        rcases (hmk x cx.1 cx.2.1).mp mx with r | ⟨k, k0, k1, r⟩
        · exact (hmk y cy.1 cy.2.1).mpr (.inl (.step r xy cy))
        · exact (hmk y cy.1 cy.2.1).mpr (.inr ⟨k, k0, k1, .step r xy cy⟩)
      have al := f.all cl
      show EvP (fun k => incunableref15_Holes.l0 k m' (cnt + 1) (i + 1) w h p) _
      refine ih (m', cnt + 1) (by omega) ⟨by omega, f.len, fun j j0 j1 => ?_, ?_⟩
      · show rd m' j ≠ 0 ↔ _
        have hk := f.mks j j0 j1
        constructor
        · intro z
          by_cases y : j ∈ out
          · exact .inr ⟨i, i0, by omega, (al j).mp y⟩
          · rw [hk.2 y] at z
            rcases (hmk j j0 j1).mp z with r | ⟨k, a, b, r⟩
            · exact .inl r
            · exact .inr ⟨k, a, by omega, r⟩
        · intro z
          by_cases y : j ∈ out
          · rw [hk.1 y]
            omega
          · rw [hk.2 y]
            rcases z with r | ⟨k, a, b, r⟩
            · exact (hmk j j0 j1).mpr (.inl r)
            · by_cases e : k = i
              · subst e
                exact absurd ((al j).mpr r) y
              · exact (hmk j j0 j1).mpr (.inr ⟨k, a, by omega, r⟩)
      · show cnt + 1 = _
        have c1 : inl4 w h p ((i.toNat : Nat) : Int) := by
          rw [ei]
          exact ⟨wi, fun r => (hmk i i0 iw).mpr (.inl r) mi⟩
        have c2 : ¬ ∃ k : Int, 0 ≤ k ∧ k < ((i.toNat : Nat) : Int) ∧ inl4 w h p k ∧ R4 w h p ((i.toNat : Nat) : Int) k := by
          rintro ⟨k, a, b, d, r⟩
          rw [ei] at r
          exact (hmk i i0 iw).mpr (.inr ⟨k, a, by omega, R4_symm _ _ r⟩) mi
        rw [hc, en, ncl_new c1 c2]
        omega
    · show (cnt, (0 : Int)) = _
      have i1 : ¬ i < (m.length : Int) := i1
      have : i.toNat = (w * h).toNat := by omega
      rw [hc, this]
      rfl
  · rw [h1 j j0 j1]
    constructor
    · exact fun r => .inl r
    · rintro (r | ⟨k, a, b, _⟩)
      · exact r
      · omega
theorem frL_len {w h : Int} {p : List Int} (v : Val w h p) : ((frL w h p).length : Int) = (w + 2) * (h + 2) ∧ (w + 2) * (h + 2) ≤ 1000000 ∧ 0 < (w + 2) * (h + 2) := by
  obtain ⟨hw, hh, hw2, hh2, hm, hp, _⟩ := id v
  have eA : (w + 2) * (h + 2) = w * h + 2 * w + 2 * h + 4 := by
    rw [Int.add_mul, Int.mul_add, Int.mul_add]
    omega
  have h0 : 0 ≤ w * h := Int.mul_nonneg hw hh
  unfold frL
  rw [tab_length]
  omega
theorem frL_byt {w h : Int} {p : List Int} (v : Val w h p) : ∀ z ∈ frL w h p, 0 ≤ z ∧ z ≤ 255 := by
  intro z hz
  obtain ⟨i, hi, rfl⟩ := List.mem_map.1 hz
  have := v.pix01 ((i : Int) % (w + 2) - 1) ((i : Int) / (w + 2) - 1)
  show 0 ≤ pix w h p ((i : Int) % (w + 2) - 1) ((i : Int) / (w + 2) - 1) ∧ pix w h p ((i : Int) % (w + 2) - 1) ((i : Int) / (w + 2) - 1) ≤ 255
  omega
theorem frL_at {w h : Int} {p : List Int} {x y : Int} (hx : 0 ≤ x ∧ x < w + 2 ∧ 0 ≤ y ∧ y < h + 2) : rd (frL w h p) (y * (w + 2) + x) = pix w h p (x - 1) (y - 1) := rd_tab_at _ _ _ _ _ hx.1 hx.2.1 hx.2.2.1 hx.2.2.2
theorem refHoles15_is (w h : Int) (p : List Int) (hp : ∀ x ∈ p, 0 ≤ x) (hl : (p.length : Int) ≤ 9223372036854775807) : EvP (fun k => incunableref15_Holes.f k w h p) (fun r => (Val w h p → r = (inlN (w + 2) (h + 2) (frL w h p), 0)) ∧ (¬ Val w h p → r = (0, 30))) := by
  unfold incunableref15_Holes.f
  refine EvP.bind (refValid_is w h p hp hl) ?_
  rintro _ rfl
  refine EvP.ite (fun q => ?_) (fun q => EvP.ret ⟨fun v => absurd (decide_eq_true v) q, fun _ => rfl⟩)
  have v : Val w h p := by simpa using q
  obtain ⟨hw, hh, hw2, hh2, hm, _, _⟩ := id v
  obtain ⟨fl, fm, f0⟩ := frL_len v
  refine EvP.bind (frame_is v) ?_
  rintro _ rfl
  show EvP (fun k => if 0 ≤ ((frL w h p).length : Int) then (if ((frL w h p).length : Int).toNat ≤ 35184372088832 then ((incunableref15_spread.f k (w + 2) (h + 2) (frL w h p) (List.replicate ((frL w h p).length : Int).toNat 0) 0 1 0 false).bind fun bt => incunableref15_Holes.l0 k bt.2 0 0 (w + 2) (h + 2) (frL w h p)) else none) else none) _
  refine EvP.pos (by omega) (EvP.pos (by omega) ?_)
  have r0 : ∀ j, 0 ≤ j → j < (w + 2) * (h + 2) → rd (List.replicate ((frL w h p).length : Int).toNat (0 : Int)) j = 0 := fun j j0 j1 => rd_replicate _ _ _ j0 (by omega)
  have c0 : rd (frL w h p) 0 = 0 := by
    have := frL_at (w := w) (h := h) (p := p) (x := 0) (y := 0) ⟨by omega, by omega, by omega, by omega⟩
    rw [show (0 : Int) * (w + 2) + 0 = 0 by omega] at this
    rw [this]
    exact pix_out (by omega)
  refine EvP.bind (spread_is (cor := false) (by omega) (by omega) (by omega) (by omega) fl fm (frL_byt v) _ (by rw [List.length_replicate]; omega) 0 1 0 (by omega) (by omega) f0 c0 (r0 0 (by omega) f0)) ?_
  rintro ⟨q, m⟩ ⟨out, hq, f⟩
  have f : FR (w + 2) (h + 2) (frL w h p) (DD false) 0 (List.replicate ((frL w h p).length : Int).toNat 0) 1 0 _ m out out.length := f
  have al := f.all (fun x y mx cx _ _ => absurd (r0 x cx.1 cx.2.1) mx)
  refine (refHoles_l0 (by omega) (by omega) (by omega) (by omega) fl fm (frL_byt v) m f.len (fun j j0 j1 => ?_)).mono (fun r e => ⟨fun _ => e, fun z => absurd v z⟩)
  have hk := f.mks j j0 j1
  constructor
  · intro z
    by_cases y : j ∈ out
    · exact (al j).mp y
    · rw [hk.2 y] at z
      exact absurd (r0 j j0 j1) z
  · intro z
    rw [hk.1 ((al j).mpr z)]
    omega

theorem row_path {w h : Int} {p : List Int} {t : Int} (t0 : 0 ≤ t) (t1 : t < h) : ∀ n : Nat, (n : Int) < w → (∀ u : Int, 0 ≤ u → u ≤ n → whi w h p (t * w + u)) → R4 w h p (t * w) (t * w + n)
  | 0, _, hw => by
    have := hw 0 (by omega) (by omega)
    rw [Int.add_zero] at this
    show R4 w h p (t * w) (t * w + 0)
    rw [Int.add_zero]
    exact .refl this
  | n + 1, hn, hw => by
    have ih := row_path t0 t1 n (by omega) (fun u a b => hw u a (by omega))
    refine .step ih ⟨n, t, n + 1, t, ⟨by omega, by omega, t0, t1⟩, ⟨by omega, by omega, t0, t1⟩, rfl, by omega, ?_⟩ (hw _ (by omega) (by omega))
    unfold DD
    omega
theorem col_path {w h : Int} {p : List Int} {u : Int} (u0 : 0 ≤ u) (u1 : u < w) : ∀ n : Nat, (n : Int) < h → (∀ t : Int, 0 ≤ t → t ≤ n → whi w h p (t * w + u)) → R4 w h p u (n * w + u)
  | 0, _, hw => by
    have := hw 0 (by omega) (by omega)
    rw [Int.zero_mul, Int.zero_add] at this
    show R4 w h p u (((0 : Nat) : Int) * w + u)
    rw [show ((0 : Nat) : Int) = 0 from rfl, Int.zero_mul, Int.zero_add]
    exact .refl this
  | n + 1, hn, hw => by
    have ih := col_path u0 u1 n (by omega) (fun t a b => hw t a (by omega))
    refine .step ih ⟨u, n, u, n + 1, ⟨u0, u1, by omega, by omega⟩, ⟨u0, u1, by omega, by omega⟩, rfl, by rw [Int.natCast_add]; rfl, ?_⟩ (hw _ (by omega) (by omega))
    unfold DD
    omega
theorem ring_whi {w h : Int} {p : List Int} (v : Val w h p) {u t : Int} (hu : 0 ≤ u ∧ u < w + 2 ∧ 0 ≤ t ∧ t < h + 2) (r : u = 0 ∨ t = 0 ∨ u = w + 1 ∨ t = h + 1) : whi (w + 2) (h + 2) (frL w h p) (t * (w + 2) + u) := by
  have hf := flat_lt hu.1 hu.2.1 hu.2.2.1 hu.2.2.2
  refine ⟨hf.2.1, hf.2.2, ?_⟩
  rw [frL_at hu]
  exact pix_out (by omega)
theorem ring_one {w h : Int} {p : List Int} (v : Val w h p) {u t : Int} (hu : 0 ≤ u ∧ u < w + 2 ∧ 0 ≤ t ∧ t < h + 2) (r : u = 0 ∨ t = 0 ∨ u = w + 1 ∨ t = h + 1) : R4 (w + 2) (h + 2) (frL w h p) 0 (t * (w + 2) + u) := by
  obtain ⟨hw, hh, _, _, _, _, _⟩ := id v
  obtain ⟨u0, u1, t0, t1⟩ := hu
  have eu : ((u.toNat : Nat) : Int) = u := by omega
  have et : ((t.toNat : Nat) : Int) = t := by omega
  have row : ∀ t' : Int, 0 ≤ t' → t' < h + 2 → (t' = 0 ∨ t' = h + 1) → R4 (w + 2) (h + 2) (frL w h p) (t' * (w + 2)) (t' * (w + 2) + u) := fun t' a b c => by
    have := row_path (w := w + 2) (h := h + 2) (p := frL w h p) a b u.toNat (by omega) (fun x x0 x1 => ring_whi v ⟨x0, by omega, a, b⟩ (by omega))
    rw [eu] at this
    exact this
  have col : ∀ u' : Int, 0 ≤ u' → u' < w + 2 → (u' = 0 ∨ u' = w + 1) → R4 (w + 2) (h + 2) (frL w h p) u' (t * (w + 2) + u') := fun u' a b c => by
    have := col_path (w := w + 2) (h := h + 2) (p := frL w h p) a b t.toNat (by omega) (fun x x0 x1 => ring_whi v ⟨a, b, x0, by omega⟩ (by omega))
    rw [et] at this
    exact this
  have row0 := row 0 (by omega) (by omega) (.inl rfl)
  rw [Int.zero_mul, Int.zero_add] at row0
  have col0 := col 0 (by omega) (by omega) (.inl rfl)
  rw [Int.add_zero] at col0
  rcases r with z | z | z | z
  · subst z
    rw [Int.add_zero]
    exact col0
  · subst z
    rw [Int.zero_mul, Int.zero_add]
    exact row0
  · have a := col u u0 u1 (.inr z)
    exact row0.trans a
  · have a := row t t0 t1 (.inr z)
    exact col0.trans a

def fi (w i : Int) : Int := (i / w + 1) * (w + 2) + (i % w + 1)
theorem fi_at {w x y : Int} (x0 : 0 ≤ x) (x1 : x < w) : fi w (y * w + x) = (y + 1) * (w + 2) + (x + 1) := by
  unfold fi
  rw [flat_div x0 x1, flat_mod x0 x1]
theorem whi_fi {w h : Int} {p : List Int} {x y : Int} (hx : 0 ≤ x ∧ x < w ∧ 0 ≤ y ∧ y < h) : whi (w + 2) (h + 2) (frL w h p) ((y + 1) * (w + 2) + (x + 1)) ↔ whi w h p (y * w + x) := by
  have hf := flat_lt hx.1 hx.2.1 hx.2.2.1 hx.2.2.2
  have hf2 := flat_lt (x := x + 1) (w := w + 2) (y := y + 1) (h := h + 2) (by omega) (by omega) (by omega) (by omega)
  have e := frL_at (w := w) (h := h) (p := p) (x := x + 1) (y := y + 1) ⟨by omega, by omega, by omega, by omega⟩
  rw [show x + 1 - 1 = x by omega, show y + 1 - 1 = y by omega, pix_in hx.1 hx.2.1 hx.2.2.1 hx.2.2.2] at e
  constructor
  · rintro ⟨_, _, c⟩
    exact ⟨hf.2.1, hf.2.2, e.symm.trans c⟩
  · rintro ⟨_, _, c⟩
    exact ⟨hf2.2.1, hf2.2.2, e.trans c⟩
theorem R_fi {w h : Int} {p : List Int} (hw : 0 ≤ w) {i j : Int} (r : R4 w h p i j) : R4 (w + 2) (h + 2) (frL w h p) (fi w i) (fi w j) := by
  have one : ∀ k, whi w h p k → whi (w + 2) (h + 2) (frL w h p) (fi w k) := fun k c => by
    obtain ⟨_, a, b, d, e, f⟩ := flat_of hw c.1 c.2.1
    have := (whi_fi (p := p) ⟨a, b, d, e⟩).mpr (by rw [f]; exact c)
    exact this
  induction r with
  | refl c => exact .refl (one _ c)
  | step _ a c ih =>
    obtain ⟨x, y, u, v, hx, hu, e1, e2, d⟩ := a
    refine .step ih ⟨x + 1, y + 1, u + 1, v + 1, ⟨by omega, by omega, by omega, by omega⟩, ⟨by omega, by omega, by omega, by omega⟩, by rw [e1, fi_at hx.1 hx.2.1], by rw [e2, fi_at hu.1 hu.2.1], ?_⟩ (one _ c)
    rw [show u + 1 - (x + 1) = u - x by omega, show v + 1 - (y + 1) = v - y by omega]
    exact d
theorem R_back {w h : Int} {p : List Int} (hw : 0 ≤ w) {i k' : Int} (hi : hole w h p i) (r : R4 (w + 2) (h + 2) (frL w h p) (fi w i) k') : ∃ j, R4 w h p i j ∧ k' = fi w j := by
  have key : ∀ a b, R4 (w + 2) (h + 2) (frL w h p) a b → a = fi w i → ∃ j, R4 w h p i j ∧ b = fi w j := by
    intro a b r
    induction r with
    | refl c => exact fun e => ⟨i, .refl hi.1, e⟩
    | step _ ad c ih =>
      intro e
      obtain ⟨j, rj, ej⟩ := ih e
      obtain ⟨x', y', u', v', hx', hu', e1, e2, d⟩ := ad
      have cj := rj.right
      obtain ⟨_, a, b, dd, ee, f⟩ := flat_of hw cj.1 cj.2.1
      have ej2 : (j / w + 1) * (w + 2) + (j % w + 1) = y' * (w + 2) + x' := by rw [← e1, ej]; rfl
      obtain ⟨ey, ex⟩ := flat_inj (w := w + 2) (by omega) (by omega) hx'.1 hx'.2.1 ej2
      obtain ⟨d0, d1, d2, d3, _, _⟩ := id d
      by_cases z : 1 ≤ u' ∧ u' ≤ w ∧ 1 ≤ v' ∧ v' ≤ h
      · have hk : 0 ≤ u' - 1 ∧ u' - 1 < w ∧ 0 ≤ v' - 1 ∧ v' - 1 < h := ⟨by omega, by omega, by omega, by omega⟩
        have ck : whi w h p ((v' - 1) * w + (u' - 1)) := (whi_fi hk).mp (by rw [show v' - 1 + 1 = v' by omega, show u' - 1 + 1 = u' by omega, ← e2]; exact c)
        refine ⟨(v' - 1) * w + (u' - 1), .step rj ⟨j % w, j / w, u' - 1, v' - 1, ⟨a, b, dd, ee⟩, hk, f.symm, rfl, ?_⟩ ck, ?_⟩
        · rw [show u' - 1 - j % w = u' - x' by omega, show v' - 1 - j / w = v' - y' by omega]
          exact d
        · rw [fi_at hk.1 hk.2.1, e2, show v' - 1 + 1 = v' by omega, show u' - 1 + 1 = u' by omega]
      · exact absurd ⟨j, rj, cj.1, cj.2.1, by omega⟩ hi.2
  exact key _ _ r rfl

theorem hole_inl {w h : Int} {p : List Int} (hw : 0 ≤ w) {i : Int} (a : hole w h p i) : inl4 (w + 2) (h + 2) (frL w h p) (fi w i) := by
  refine ⟨(R_fi hw (.refl a.1)).left, fun r => ?_⟩
  obtain ⟨j, rj, e⟩ := R_back hw a (R4_symm _ _ r)
  obtain ⟨_, b, c, d, _, _⟩ := flat_of hw rj.right.1 rj.right.2.1
  have := Int.mul_nonneg (show 0 ≤ j / w + 1 by omega) (show 0 ≤ w + 2 by omega)
  unfold fi at e
  omega
theorem inl_hole {w h : Int} {p : List Int} (v : Val w h p) {n : Int} (a : inl4 (w + 2) (h + 2) (frL w h p) n) : ∃ i, hole w h p i ∧ n = fi w i := by
  obtain ⟨hw, hh, _, _, _, _, _⟩ := id v
  obtain ⟨_, u0, u1, t0, t1, e⟩ := flat_of (w := w + 2) (by omega) a.1.1 a.1.2.1
  generalize n / (w + 2) = t at t0 t1 e
  generalize n % (w + 2) = u at u0 u1 e
  subst e
  by_cases z : u = 0 ∨ t = 0 ∨ u = w + 1 ∨ t = h + 1
  · exact absurd (ring_one v ⟨u0, u1, t0, t1⟩ z) a.2
  · have hx : 0 ≤ u - 1 ∧ u - 1 < w ∧ 0 ≤ t - 1 ∧ t - 1 < h := ⟨by omega, by omega, by omega, by omega⟩
    have ef : t * (w + 2) + u = fi w ((t - 1) * w + (u - 1)) := by
      rw [fi_at hx.1 hx.2.1, show t - 1 + 1 = t by omega, show u - 1 + 1 = u by omega]
    have ci : whi w h p ((t - 1) * w + (u - 1)) := (whi_fi hx).mp (by rw [show t - 1 + 1 = t by omega, show u - 1 + 1 = u by omega]; exact a.1)
    refine ⟨_, ⟨ci, fun ⟨j, rj, bj⟩ => ?_⟩, ef⟩
    have cj := rj.right
    obtain ⟨_, b, c, d, e, f⟩ := flat_of hw cj.1 cj.2.1
    have bb := bj.2.2
    have rf := R_fi hw rj
    have hit : ∀ x' y' : Int, (0 ≤ x' ∧ x' < w + 2 ∧ 0 ≤ y' ∧ y' < h + 2) → (x' = 0 ∨ y' = 0 ∨ x' = w + 1 ∨ y' = h + 1) → DD false (j % w + 1 - x') (j / w + 1 - y') → False := fun x' y' hx' r d' => by
      have r0 := ring_one v hx' r
      have r1 : R4 (w + 2) (h + 2) (frL w h p) 0 (fi w j) := .step r0 ⟨x', y', j % w + 1, j / w + 1, hx', ⟨by omega, by omega, by omega, by omega⟩, rfl, rfl, d'⟩ rf.right
      exact a.2 (by rw [ef]; exact r1.trans (R4_symm _ _ rf))
    rcases bb with q | q | q | q
    · exact hit 0 (j / w + 1) ⟨by omega, by omega, by omega, by omega⟩ (by omega) (by unfold DD; omega)
    · exact hit (j % w + 1) 0 ⟨by omega, by omega, by omega, by omega⟩ (by omega) (by unfold DD; omega)
    · exact hit (w + 1) (j / w + 1) ⟨by omega, by omega, by omega, by omega⟩ (by omega) (by unfold DD; omega)
    · exact hit (j % w + 1) (h + 1) ⟨by omega, by omega, by omega, by omega⟩ (by omega) (by unfold DD; omega)
theorem fi_inj {w h : Int} (hw : 0 ≤ w) {i j : Int} (i0 : 0 ≤ i) (i1 : i < w * h) (j0 : 0 ≤ j) (j1 : j < w * h) (e : fi w i = fi w j) : i = j := by
  obtain ⟨_, a, b, _, _, c⟩ := flat_of hw i0 i1
  obtain ⟨_, a', b', _, _, c'⟩ := flat_of hw j0 j1
  unfold fi at e
  obtain ⟨x, y⟩ := flat_inj (w := w + 2) (by omega) (by omega) (by omega) (by omega) e
  rw [← c, ← c', show i / w = j / w by omega, show i % w = j % w by omega]
theorem hol_frame {w h : Int} {p : List Int} (v : Val w h p) : inlN (w + 2) (h + 2) (frL w h p) = holN w h p := by
  obtain ⟨hw, hh, _, _, _, _, _⟩ := id v
  obtain ⟨_, _, f0⟩ := frL_len v
  have h0 : 0 ≤ w * h := Int.mul_nonneg hw hh
  unfold inlN holN
  have mem1 : ∀ x, x ∈ hl (hole w h p) (w * h).toNat → hole w h p x := fun x hx => ((hl_mem _ _ _).mp hx).2.2
  have mem2 : ∀ x, x ∈ hl (inl4 (w + 2) (h + 2) (frL w h p)) ((w + 2) * (h + 2)).toNat → inl4 (w + 2) (h + 2) (frL w h p) x := fun x hx => ((hl_mem _ _ _).mp hx).2.2
  have le1 := ncl_le (R := R4 w h p) (R' := R4 (w + 2) (h + 2) (frL w h p)) (fi w) R4_symm R4_trans (hl (hole w h p) (w * h).toNat) (hl (inl4 (w + 2) (h + 2) (frL w h p)) ((w + 2) * (h + 2)).toNat)
    (fun z hz => .refl (mem2 z hz).1)
    (fun x hx => (hl_mem _ _ _).mpr ⟨(hole_inl hw (mem1 x hx)).1.1, by have := (hole_inl hw (mem1 x hx)).1.2.1; omega, hole_inl hw (mem1 x hx)⟩)
    (fun x hx y hy r => by
      obtain ⟨j, rj, e⟩ := R_back hw (mem1 x hx) r
      have hy' := (mem1 y hy).1
      have := fi_inj hw hy'.1 hy'.2.1 rj.right.1 rj.right.2.1 e
      rw [this]
      exact rj)
  have g : ∀ i, hole w h p i → ((fi w i) / (w + 2) - 1) * w + ((fi w i) % (w + 2) - 1) = i := fun i c => by
    obtain ⟨_, a, b, _, _, e⟩ := flat_of hw c.1.1 c.1.2.1
    unfold fi
    rw [flat_div (by omega) (by omega), flat_mod (by omega) (by omega)]
    rw [show i / w + 1 - 1 = i / w by omega, show i % w + 1 - 1 = i % w by omega]
    exact e
  have le2 := ncl_le (R := R4 (w + 2) (h + 2) (frL w h p)) (R' := R4 w h p) (fun n => (n / (w + 2) - 1) * w + (n % (w + 2) - 1)) R4_symm R4_trans (hl (inl4 (w + 2) (h + 2) (frL w h p)) ((w + 2) * (h + 2)).toNat) (hl (hole w h p) (w * h).toNat)
    (fun z hz => .refl (mem1 z hz).1)
    (fun x hx => by
      obtain ⟨i, hi, e⟩ := inl_hole v (mem2 x hx)
      have := g i hi
      rw [← e] at this
      show (x / (w + 2) - 1) * w + (x % (w + 2) - 1) ∈ _
      rw [this]
      exact (hl_mem _ _ _).mpr ⟨hi.1.1, by have := hi.1.2.1; omega, hi⟩)
    (fun x hx y hy r => by
      obtain ⟨i, hi, e⟩ := inl_hole v (mem2 x hx)
      obtain ⟨j, hj, e2⟩ := inl_hole v (mem2 y hy)
      have g1 := g i hi
      have g2 := g j hj
      rw [← e] at g1
      rw [← e2] at g2
      have r : R4 w h p ((x / (w + 2) - 1) * w + (x % (w + 2) - 1)) ((y / (w + 2) - 1) * w + (y % (w + 2) - 1)) := r
      rw [g1, g2] at r
      rw [e, e2]
      exact R_fi hw r)
  omega

theorem q4 (q : Int) (h0 : -9223372036854775808 ≤ q) (h1 : q ≤ 9223372036854775807) : Int.tmod (wrap64 (Int.tmod q 4 + 4)) 4 = q % 4 := by
  rcases Int.lt_or_le q 0 with h | h
  · have e : Int.tmod q 4 = -((-q) % 4) := by
      rw [show q = -(-q) by omega, Int.neg_tmod, tmod_pos (by omega)]
      omega
    rw [e, w64 (by omega) (by omega), tmod_pos (by omega)]
    omega
  · rw [tmod_pos h, w64 (by omega) (by omega), tmod_pos (by omega)]
    omega
/-- One quarter. -/
def t1 (b : Int × Int × List Int) : Int × Int × List Int := (b.2.1, b.1, tab b.2.1 b.1 (fun x y => pix b.1 b.2.1 b.2.2 y (b.2.1 - 1 - x)))
def turnR : Nat → Int × Int × List Int → Int × Int × List Int
  | 0, b => b
  | n + 1, b => turnR n (t1 b)
theorem sid_swap {w h : Int} (s : Sid w h) : Sid h w := ⟨s.2.1, s.1, s.2.2.2.1, s.2.2.1, by rw [Int.mul_comm]; exact s.2.2.2.2⟩
theorem val_t1 {w h : Int} {p : List Int} (v : Val w h p) : Val (t1 (w, h, p)).1 (t1 (w, h, p)).2.1 (t1 (w, h, p)).2.2 :=
  val_tab (g := fun x y => pix w h p y (h - 1 - x)) (sid_swap v.sid) (fun _ _ _ _ _ _ => v.pix01 _ _)
/-- What Turn returns. -/
def turnQ (w h : Int) (p : List Int) (q : Int) : Int × Int × List Int := turnR (q % 4).toNat (w, h, p)

/-- The sum of the first numbers. -/
def sm : Nat → (Int → Int) → Int
  | 0, _ => 0
  | n + 1, f => sm n f + f (n : Int)
theorem sm_s (n : Nat) (f : Int → Int) : sm (n + 1) f = sm n f + f (n : Int) := rfl
theorem sm_0 (f : Int → Int) : sm 0 f = 0 := rfl
theorem sm_congr {f g : Int → Int} : ∀ {n : Nat}, (∀ i : Int, 0 ≤ i → i < n → f i = g i) → sm n f = sm n g
  | 0, _ => rfl
  | n + 1, h => by
    unfold sm
    rw [sm_congr (fun i h0 h1 => h i h0 (by omega)), h n (by omega) (by omega)]
theorem sm_bound {f : Int → Int} {c : Int} (hc : 0 ≤ c) : ∀ {n : Nat}, (∀ i : Int, 0 ≤ i → i < n → 0 ≤ f i ∧ f i ≤ c) → 0 ≤ sm n f ∧ sm n f ≤ n * c
  | 0, _ => by simp [sm]
  | n + 1, h => by
    have h1 := sm_bound hc (fun i h0 h1 => h i h0 (by omega)) (n := n)
    have h2 := h n (by omega) (by omega)
    unfold sm
    have e : ((n + 1 : Nat) : Int) * c = n * c + c := by rw [Int.natCast_add, Int.add_mul]; simp
    omega
theorem sm_zero {f : Int → Int} (h0 : ∀ i : Int, 0 ≤ i → 0 ≤ f i) : ∀ {n : Nat}, sm n f = 0 → ∀ i : Int, 0 ≤ i → i < n → f i = 0
  | 0, _, i, a, b => by omega
  | n + 1, h, i, a, b => by
    unfold sm at h
    have h1 : 0 ≤ sm n f := by
      have : ∀ m : Nat, 0 ≤ sm m f := by
        intro m
        induction m with
        | zero => simp [sm]
        | succ m ih => unfold sm; have := h0 m (by omega); omega
      exact this n
    have h2 := h0 n (by omega)
    rcases Int.lt_or_le i n with c | c
    · exact sm_zero h0 (show sm n f = 0 by omega) i a c
    · have : i = n := by omega
      subst this
      omega
theorem sm_const (c : Int) : ∀ n : Nat, sm n (fun _ => c) = n * c
  | 0 => by simp [sm]
  | n + 1 => by
    unfold sm
    rw [sm_const c n, Int.natCast_add, Int.add_mul]
    simp
theorem sm_add (f : Int → Int) (a : Nat) : ∀ b : Nat, sm (a + b) f = sm a f + sm b (fun i => f (a + i))
  | 0 => by simp [sm]
  | b + 1 => by
    rw [show a + (b + 1) = (a + b) + 1 from rfl, sm_s, sm_s, sm_add f a b]
    have e : ((a + b : Nat) : Int) = (a : Int) + (b : Int) := by omega
    rw [e]
    show sm a f + sm b (fun i => f (a + i)) + f (a + b) = sm a f + (sm b (fun i => f (a + i)) + f (a + b))
    omega
theorem sm_plus (f g : Int → Int) : ∀ n : Nat, sm n (fun i => f i + g i) = sm n f + sm n g
  | 0 => by simp [sm]
  | n + 1 => by
    rw [sm_s, sm_s, sm_s, sm_plus f g n]
    show sm n f + sm n g + (f n + g n) = sm n f + f n + (sm n g + g n)
    omega
theorem sm_swap (g : Int → Int → Int) (W : Nat) : ∀ H : Nat, sm H (fun y => sm W (fun x => g x y)) = sm W (fun x => sm H (fun y => g x y))
  | 0 => by
    have : sm W (fun x => sm 0 (fun y => g x y)) = sm W (fun _ => 0) := sm_congr (fun i _ _ => rfl)
    rw [this, sm_const 0 W, sm_0]
    simp
  | H + 1 => by
    rw [sm_s, sm_swap g W H]
    have : sm W (fun x => sm (H + 1) (fun y => g x y)) = sm W (fun x => sm H (fun y => g x y) + g x H) := sm_congr (fun i _ _ => rfl)
    rw [this, sm_plus]
theorem sm_front (f : Int → Int) : ∀ n : Nat, sm (n + 1) f = f 0 + sm n (fun i => f (i + 1))
  | 0 => by simp [sm]
  | n + 1 => by
    rw [show sm (n + 1 + 1) f = sm (n + 1) f + f ((n + 1 : Nat) : Int) from rfl, sm_front f n]
    rw [show sm (n + 1) (fun i => f (i + 1)) = sm n (fun i => f (i + 1)) + f ((n : Int) + 1) from rfl]
    have e : ((n + 1 : Nat) : Int) = (n : Int) + 1 := by omega
    rw [e]
    omega
theorem sm_mirror (f : Int → Int) : ∀ n : Nat, sm n (fun i => f ((n : Int) - 1 - i)) = sm n f
  | 0 => rfl
  | n + 1 => by
    rw [sm_front]
    have e : (((n + 1 : Nat) : Int) - 1 - 0) = (n : Int) := by omega
    rw [e]
    have e2 : sm n (fun i => f (((n + 1 : Nat) : Int) - 1 - (i + 1))) = sm n (fun i => f ((n : Int) - 1 - i)) := sm_congr (fun i _ _ => by
      have : ((n + 1 : Nat) : Int) - 1 - (i + 1) = (n : Int) - 1 - i := by omega
      rw [this])
    rw [e2, sm_mirror f n, sm_s]
    omega
/-- All pixels' sum. -/
def tot (w h : Int) (g : Int → Int → Int) : Int := sm h.toNat (fun y => sm w.toNat (fun x => g x y))
theorem sm_flat (g : Int → Int → Int) (W : Nat) : ∀ H : Nat, sm (W * H) (fun i => g (i % (W : Int)) (i / (W : Int))) = sm H (fun y => sm W (fun x => g x y))
  | 0 => rfl
  | H + 1 => by
    rw [Nat.mul_succ, sm_add, sm_flat g W H]
    rw [show sm (H + 1) (fun y => sm W (fun x => g x y)) = sm H (fun y => sm W (fun x => g x y)) + sm W (fun x => g x (H : Int)) from rfl]
    congr 1
    refine sm_congr (fun i h0 h1 => ?_)
    have e : ((W * H : Nat) : Int) + i = (H : Int) * (W : Int) + i := by rw [Int.natCast_mul, Int.mul_comm]
    rw [e, flat_mod h0 h1, flat_div h0 h1]
theorem sm_tab {w h : Int} (hw : 0 ≤ w) (hh : 0 ≤ h) (g : Int → Int → Int) : sm (tab w h g).length (fun i => rd (tab w h g) i) = tot w h g := by
  have h0 : 0 ≤ w * h := Int.mul_nonneg hw hh
  rw [tab_length]
  have e : (w * h).toNat = w.toNat * h.toNat := by
    have e1 : ((w.toNat * h.toNat : Nat) : Int) = w * h := by rw [Int.natCast_mul, Int.toNat_of_nonneg hw, Int.toNat_of_nonneg hh]
    omega
  have ew : ((w.toNat : Nat) : Int) = w := Int.toNat_of_nonneg hw
  unfold tot
  rw [← sm_flat g w.toNat h.toNat, e, ew]
  refine sm_congr (fun i a b => ?_)
  rw [rd_tab w h g i a (by omega)]
theorem tot_congr {w h : Int} {g g' : Int → Int → Int} (hg : ∀ x y, 0 ≤ x → x < w → 0 ≤ y → y < h → g x y = g' x y) : tot w h g = tot w h g' :=
  sm_congr (fun y a b => sm_congr (fun x c d => hg x y c (by omega) a (by omega)))
theorem tot_turn {w h : Int} (hw : 0 ≤ w) (hh : 0 ≤ h) (g : Int → Int → Int) : tot h w (fun x y => g y (h - 1 - x)) = tot w h g := by
  unfold tot
  have eh : ((h.toNat : Nat) : Int) = h := Int.toNat_of_nonneg hh
  rw [sm_swap (fun x y => g x y) w.toNat h.toNat]
  refine sm_congr (fun y a b => ?_)
  have := sm_mirror (fun i => g y i) h.toNat
  rw [eh] at this
  exact this
theorem tot_flip {w h : Int} (hw : 0 ≤ w) (hh : 0 ≤ h) (g : Int → Int → Int) : tot w h (fun x y => g (w - 1 - x) y) = tot w h g := by
  unfold tot
  have ew : ((w.toNat : Nat) : Int) = w := Int.toNat_of_nonneg hw
  refine sm_congr (fun y a b => ?_)
  have := sm_mirror (fun i => g i y) w.toNat
  rw [ew] at this
  exact this
/-- How many pixels are black. -/
def blk (p : List Int) : Int := sm p.length (fun i => rd p i)
theorem blk_val {w h : Int} {p : List Int} (v : Val w h p) : blk p = tot w h (pix w h p) := by
  unfold blk
  have e := sm_tab v.1 v.2.1 (pix w h p)
  rw [← v.tab] at e
  exact e

theorem val_turn : ∀ (n : Nat) {w h : Int} {p : List Int}, Val w h p → Val (turnR n (w, h, p)).1 (turnR n (w, h, p)).2.1 (turnR n (w, h, p)).2.2
  | 0, _, _, _, v => v
  | n + 1, _, _, _, v => val_turn n (val_t1 v)
theorem turn_add : ∀ (n m : Nat) (b : Int × Int × List Int), turnR m (turnR n b) = turnR (n + m) b
  | 0, m, b => by rw [Nat.zero_add]; rfl
  | n + 1, m, b => by
    rw [show n + 1 + m = (n + m) + 1 by omega]
    exact turn_add n m (t1 b)
theorem turn2 {w h : Int} {p : List Int} (v : Val w h p) : turnR 2 (w, h, p) = (w, h, tab w h (fun x y => pix w h p (w - 1 - x) (h - 1 - y))) := by
  show (w, h, tab w h _) = _
  refine congrArg (fun l => (w, h, l)) (tab_congr v.1 v.2.1 (fun x y a b c d => ?_))
  show pix h w (tab h w (fun x y => pix w h p y (h - 1 - x))) y (w - 1 - x) = _
  rw [pix_tab, if_pos (by omega)]
theorem turn3 {w h : Int} {p : List Int} (v : Val w h p) : turnR 3 (w, h, p) = (h, w, tab h w (fun x y => pix w h p (w - 1 - y) x)) := by
  have e : turnR 3 (w, h, p) = turnR 1 (turnR 2 (w, h, p)) := (turn_add 2 1 _).symm
  rw [e, turn2 v]
  show (h, w, tab h w _) = _
  refine congrArg (fun l => (h, w, l)) (tab_congr v.2.1 v.1 (fun x y a b c d => ?_))
  show pix w h (tab w h (fun x y => pix w h p (w - 1 - x) (h - 1 - y))) y (h - 1 - x) = _
  rw [pix_tab, if_pos (by omega), show h - 1 - (h - 1 - x) = x by omega]
theorem turn4 {w h : Int} {p : List Int} (v : Val w h p) : turnR 4 (w, h, p) = (w, h, p) := by
  have e : turnR 4 (w, h, p) = turnR 2 (turnR 2 (w, h, p)) := (turn_add 2 2 _).symm
  have v2 := val_turn 2 v
  rw [turn2 v] at v2
  rw [e, turn2 v, turn2 v2]
  have e2 : tab w h (fun x y => pix w h (tab w h (fun x y => pix w h p (w - 1 - x) (h - 1 - y))) (w - 1 - x) (h - 1 - y)) = p := by
    refine Eq.trans (tab_congr v.1 v.2.1 (fun x y a b c d => ?_)) v.tab.symm
    rw [pix_tab, if_pos (by omega), show w - 1 - (w - 1 - x) = x by omega, show h - 1 - (h - 1 - y) = y by omega]
  exact congrArg (fun l => (w, h, l)) e2
theorem turn_mod {w h : Int} {p : List Int} (v : Val w h p) (n : Nat) (hn : n < 8) : turnR n (w, h, p) = turnR (n % 4) (w, h, p) := by
  rcases Nat.lt_or_ge n 4 with a | a
  · rw [Nat.mod_eq_of_lt a]
  · have e : n = 4 + (n - 4) := by omega
    rw [show n % 4 = n - 4 by omega]
    conv => lhs; rw [e, ← turn_add 4 (n - 4), turn4 v]
theorem blk_t1 {w h : Int} {p : List Int} (v : Val w h p) : blk (t1 (w, h, p)).2.2 = blk p := by
  rw [blk_val v, ← tot_turn v.1 v.2.1 (pix w h p)]
  exact sm_tab v.2.1 v.1 (fun x y => pix w h p y (h - 1 - x))
theorem blk_turn : ∀ (n : Nat) {w h : Int} {p : List Int}, Val w h p → blk (turnR n (w, h, p)).2.2 = blk p
  | 0, _, _, _, _ => rfl
  | n + 1, _, _, _, v => (blk_turn n (val_t1 v)).trans (blk_t1 v)

def tg (w h i : Int) : Int := (i % w) * h + (h - 1 - i / w)
def tf (w h j : Int) : Int := (h - 1 - j % h) * w + j / h
theorem tg_at {w h x y : Int} (x0 : 0 ≤ x) (x1 : x < w) : tg w h (y * w + x) = x * h + (h - 1 - y) := by
  unfold tg
  rw [flat_mod x0 x1, flat_div x0 x1]
theorem tq_at {w h : Int} {p : List Int} {x y : Int} (hx : 0 ≤ x ∧ x < w ∧ 0 ≤ y ∧ y < h) : rd (t1 (w, h, p)).2.2 (x * h + (h - 1 - y)) = rd p (y * w + x) := by
  have := rd_tab_at h w (fun x y => pix w h p y (h - 1 - x)) (h - 1 - y) x (by omega) (by omega) hx.1 hx.2.1
  refine this.trans ?_
  show pix w h p x (h - 1 - (h - 1 - y)) = _
  rw [show h - 1 - (h - 1 - y) = y by omega, pix_in hx.1 hx.2.1 hx.2.2.1 hx.2.2.2]
theorem whi_tg {w h : Int} {p : List Int} {x y : Int} (hx : 0 ≤ x ∧ x < w ∧ 0 ≤ y ∧ y < h) : whi h w (t1 (w, h, p)).2.2 (x * h + (h - 1 - y)) ↔ whi w h p (y * w + x) := by
  have hf := flat_lt hx.1 hx.2.1 hx.2.2.1 hx.2.2.2
  have hf2 := flat_lt (x := h - 1 - y) (w := h) (y := x) (h := w) (by omega) (by omega) hx.1 hx.2.1
  have e := tq_at (p := p) hx
  constructor
  · rintro ⟨_, _, c⟩
    exact ⟨hf.2.1, hf.2.2, e.symm.trans c⟩
  · rintro ⟨_, _, c⟩
    exact ⟨hf2.2.1, hf2.2.2, e.trans c⟩
theorem R_tg {w h : Int} {p : List Int} (hw : 0 ≤ w) {i j : Int} (r : R4 w h p i j) : R4 h w (t1 (w, h, p)).2.2 (tg w h i) (tg w h j) := by
  have one : ∀ k, whi w h p k → whi h w (t1 (w, h, p)).2.2 (tg w h k) := fun k c => by
    obtain ⟨_, a, b, d, e, f⟩ := flat_of hw c.1 c.2.1
    exact (whi_tg (p := p) ⟨a, b, d, e⟩).mpr (by rw [f]; exact c)
  induction r with
  | refl c => exact .refl (one _ c)
  | step _ a c ih =>
    obtain ⟨x, y, u, v, hx, hu, e1, e2, d⟩ := a
    refine .step ih ⟨h - 1 - y, x, h - 1 - v, u, ⟨by omega, by omega, hx.1, hx.2.1⟩, ⟨by omega, by omega, hu.1, hu.2.1⟩, by rw [e1, tg_at hx.1 hx.2.1], by rw [e2, tg_at hu.1 hu.2.1], ?_⟩ (one _ c)
    obtain ⟨d0, d1, d2, d3, d4, d5⟩ := d
    exact ⟨by omega, by omega, by omega, by omega, fun z => d4 ⟨by omega, by omega⟩, by rcases d5 with z | z | z; exact .inl z; exact .inr (.inr (by omega)); exact .inr (.inl (by omega))⟩
theorem bord_tg {w h : Int} (hw : 0 ≤ w) {j : Int} (b : bord w h j) : bord h w (tg w h j) := by
  obtain ⟨_, a, c, d, e, f⟩ := flat_of hw b.1 b.2.1
  have hf := flat_lt (x := h - 1 - j / w) (w := h) (y := j % w) (h := w) (by omega) (by omega) a c
  have bb := b.2.2
  refine ⟨hf.2.1, hf.2.2, ?_⟩
  unfold tg
  rw [flat_mod (by omega) (by omega), flat_div (by omega) (by omega)]
  omega
theorem hol_t1_le {w h : Int} {p : List Int} (v : Val w h p) : holN h w (t1 (w, h, p)).2.2 ≤ holN w h p := by
  obtain ⟨hw, hh, _, _, _, _, _⟩ := id v
  unfold holN
  have mem1 : ∀ x, x ∈ hl (hole h w (t1 (w, h, p)).2.2) (h * w).toNat → hole h w (t1 (w, h, p)).2.2 x := fun x hx => ((hl_mem _ _ _).mp hx).2.2
  have back : ∀ x, hole h w (t1 (w, h, p)).2.2 x → tg w h (tf w h x) = x ∧ whi w h p (tf w h x) := fun x c => by
    obtain ⟨_, a, b, d, e, f⟩ := flat_of hh c.1.1 c.1.2.1
    have hx : 0 ≤ x / h ∧ x / h < w ∧ 0 ≤ h - 1 - x % h ∧ h - 1 - x % h < h := ⟨d, e, by omega, by omega⟩
    have e1 : tg w h (tf w h x) = x := by
      unfold tf
      rw [tg_at hx.1 hx.2.1, show h - 1 - (h - 1 - x % h) = x % h by omega]
      exact f
    refine ⟨e1, (whi_tg (p := p) hx).mp ?_⟩
    rw [show h - 1 - (h - 1 - x % h) = x % h by omega, f]
    exact c.1
  have hol : ∀ x, hole h w (t1 (w, h, p)).2.2 x → hole w h p (tf w h x) := fun x c => by
    obtain ⟨e, wx⟩ := back x c
    refine ⟨wx, fun ⟨j, rj, bj⟩ => c.2 ⟨tg w h j, ?_, bord_tg hw bj⟩⟩
    have := R_tg hw rj
    rw [e] at this
    exact this
  have := ncl_le (R := R4 h w (t1 (w, h, p)).2.2) (R' := R4 w h p) (tf w h) R4_symm R4_trans (hl (hole h w (t1 (w, h, p)).2.2) (h * w).toNat) (hl (hole w h p) (w * h).toNat)
    (fun z hz => .refl ((hl_mem _ _ _).mp hz).2.2.1)
    (fun x hx => (hl_mem _ _ _).mpr ⟨(hol x (mem1 x hx)).1.1, by have := (hol x (mem1 x hx)).1.2.1; omega, hol x (mem1 x hx)⟩)
    (fun x hx y hy r => by
      have := R_tg hw r
      rw [(back x (mem1 x hx)).1, (back y (mem1 y hy)).1] at this
      exact this)
  omega

theorem make2_l0 (w h c : Int) (a b : Int) (hw : 0 ≤ w) (hh : 0 ≤ h) (hw' : w ≤ 200) (hh' : h ≤ 200) : EvP (fun k => incunableref05_make2.l0 k w h c 0 a b []) (· = (a, b, List.replicate (w * h).toNat (c % 256))) := by
  have hm := sid_mul hw hh hw' hh'
  refine EvP.up (L := fun k i (s : List Int) => incunableref05_make2.l0 k w h c i a b s) (fun i s => 0 ≤ i ∧ s = List.replicate i.toNat (c % 256)) (w * h) ?_ 0 [] (by omega) ⟨by omega, rfl⟩
  intro i s ⟨h0, hs⟩ hi ih
  subst hs
  refine EvP.step (fun k => by rw [incunableref05_make2.l0]) ?_
  rw [w64 (x := w * h) (by omega) (by omega)]
  refine EvP.ite (fun h1 => ?_) (fun h1 => ?_)
  · refine EvP.pos (by rw [List.length_replicate]; omega) ?_
    rw [w64 (by omega) (by omega)]
    refine ih _ h1 ⟨by omega, ?_⟩
    rw [show (i + 1).toNat = i.toNat + 1 by omega, List.replicate_succ']
  · have : i = w * h := by omega
    subst this
    exact EvP.ret rfl
theorem make2_is (w h c : Int) (hw : 0 ≤ w) (hh : 0 ≤ h) (hw' : w ≤ 200) (hh' : h ≤ 200) : EvP (fun k => incunableref05_make2.f k w h c) (· = (w, h, tab w h (fun _ _ => c % 256))) := by
  unfold incunableref05_make2.f
  refine (make2_l0 w h c w h hw hh hw' hh').mono ?_
  rintro r rfl
  rw [replicate_tab hw hh]

theorem refTurn_0 {w h : Int} {p : List Int} (v : Val w h p) : EvP (fun k => incunableref05_Turn.l0 k 0 0 w h p w h (tab w h (fun _ _ => 0 % 256))) (· = (w, h, tab w h (fun u t => pix w h p (u) (t)), 0)) := by
  obtain ⟨hw, hh, w200, h200, hm⟩ := v.sid
  have hm2 : h * w = w * h := Int.mul_comm h w
  have e0 : tab w h (fun u t => if 0 ≤ u ∧ u < w ∧ 0 ≤ t ∧ t < h then pix w h p (u) (t) else 0 % 256) = tab w h (fun u t => pix w h p (u) (t)) := tab_congr (by omega) (by omega) (fun u t a b c d => if_pos (by omega))
  refine EvP.rasterP (L0 := fun k j (l : List Int) => incunableref05_Turn.l0 k 0 j w h p w h l) (L1 := fun k j i (l : List Int) => incunableref05_Turn.l1 k 0 j i w h p w h l) (W := w) (H := h)
    (fun i j => i) (fun i j => j) (fun u t => u) (fun u t => t) (fun _ _ => 0 % 256) (fun u t => pix w h p (u) (t)) hw hh (by omega) (by omega) ?_ ?_ ?_ ?_ ?_ ?_ ?_
  · intro i j a b c d
    exact ⟨by show (i) = i; omega, by show (j) = j; omega⟩
  · intro u t a b c d e f g' h'
    exact ⟨by show (u) = u; omega, by show (t) = t; omega⟩
  · intro j l a b hk
    refine EvP.step (fun k => by rw [incunableref05_Turn.l0]) ?_
    exact EvP.pos b hk
  · refine EvP.step (fun k => by rw [incunableref05_Turn.l0]) ?_
    refine EvP.neg (by omega) (EvP.ret ?_)
    rw [e0]
  · intro i j g' a b c d p0 p1 q0 q1 e hk
    refine EvP.step (fun k => by rw [incunableref05_Turn.l1]) ?_
    refine EvP.pos b (EvP.pos rfl ?_)
    refine EvP.bindv (At_is v _ _) ?_
    skip
    refine EvP.bindv (Put_is (by omega) (by omega) (by omega) (show 0 ≤ i by omega) (by omega) (show 0 ≤ j by omega) (by omega)) ?_
    have e3 := v.pix01 i j
    rw [w64 (x := i + 1) (by omega) (by omega), show pix w h p i j % 256 = pix w h p i j by omega]
    have e5 : (i) = i := by omega
    have e6 : (j) = j := by omega
    try simp only [e5, e6] at hk
    exact hk
  · intro i j g' a b c d q hk
    have q : ¬ (0 ≤ i ∧ i < w ∧ 0 ≤ j ∧ j < h) := q
    exact absurd (by omega) q
  · intro j l a b hk
    refine EvP.step (fun k => by rw [incunableref05_Turn.l1]) ?_
    refine EvP.neg (by omega) ?_
    rw [w64 (x := j + 1) (by omega) (by omega)]
    exact hk
theorem refTurn_1 {w h : Int} {p : List Int} (v : Val w h p) : EvP (fun k => incunableref05_Turn.l0 k 1 0 w h p h w (tab h w (fun _ _ => 0 % 256))) (· = (h, w, tab h w (fun u t => pix w h p (t) (h - 1 - u)), 0)) := by
  obtain ⟨hw, hh, w200, h200, hm⟩ := v.sid
  have hm2 : h * w = w * h := Int.mul_comm h w
  have e0 : tab h w (fun u t => if 0 ≤ t ∧ t < w ∧ 0 ≤ h - 1 - u ∧ h - 1 - u < h then pix w h p (t) (h - 1 - u) else 0 % 256) = tab h w (fun u t => pix w h p (t) (h - 1 - u)) := tab_congr (by omega) (by omega) (fun u t a b c d => if_pos (by omega))
  refine EvP.rasterP (L0 := fun k j (l : List Int) => incunableref05_Turn.l0 k 1 j w h p h w l) (L1 := fun k j i (l : List Int) => incunableref05_Turn.l1 k 1 j i w h p h w l) (W := w) (H := h)
    (fun i j => h - 1 - j) (fun i j => i) (fun u t => t) (fun u t => h - 1 - u) (fun _ _ => 0 % 256) (fun u t => pix w h p (t) (h - 1 - u)) hw hh (by omega) (by omega) ?_ ?_ ?_ ?_ ?_ ?_ ?_
  · intro i j a b c d
    exact ⟨by show (i) = i; omega, by show h - 1 - (h - 1 - j) = j; omega⟩
  · intro u t a b c d e f g' h'
    exact ⟨by show h - 1 - (h - 1 - u) = u; omega, by show (t) = t; omega⟩
  · intro j l a b hk
    refine EvP.step (fun k => by rw [incunableref05_Turn.l0]) ?_
    exact EvP.pos b hk
  · refine EvP.step (fun k => by rw [incunableref05_Turn.l0]) ?_
    refine EvP.neg (by omega) (EvP.ret ?_)
    rw [e0]
  · intro i j g' a b c d p0 p1 q0 q1 e hk
    refine EvP.step (fun k => by rw [incunableref05_Turn.l1]) ?_
    refine EvP.pos b (EvP.neg (by decide) (EvP.pos rfl ?_))
    refine EvP.bindv (At_is v _ _) ?_
    rw [w64 (x := h - 1) (by omega) (by omega), w64 (x := h - 1 - j) (by omega) (by omega)]
    refine EvP.bindv (Put_is (by omega) (by omega) (by omega) (show 0 ≤ h - 1 - j by omega) (by omega) (show 0 ≤ i by omega) (by omega)) ?_
    have e3 := v.pix01 i j
    rw [w64 (x := i + 1) (by omega) (by omega), show pix w h p i j % 256 = pix w h p i j by omega]
    have e5 : (i) = i := by omega
    have e6 : h - 1 - (h - 1 - j) = j := by omega
    try simp only [e5, e6] at hk
    exact hk
  · intro i j g' a b c d q hk
    have q : ¬ (0 ≤ h - 1 - j ∧ h - 1 - j < h ∧ 0 ≤ i ∧ i < w) := q
    exact absurd (by omega) q
  · intro j l a b hk
    refine EvP.step (fun k => by rw [incunableref05_Turn.l1]) ?_
    refine EvP.neg (by omega) ?_
    rw [w64 (x := j + 1) (by omega) (by omega)]
    exact hk
theorem refTurn_2 {w h : Int} {p : List Int} (v : Val w h p) : EvP (fun k => incunableref05_Turn.l0 k 2 0 w h p w h (tab w h (fun _ _ => 0 % 256))) (· = (w, h, tab w h (fun u t => pix w h p (w - 1 - u) (h - 1 - t)), 0)) := by
  obtain ⟨hw, hh, w200, h200, hm⟩ := v.sid
  have hm2 : h * w = w * h := Int.mul_comm h w
  have e0 : tab w h (fun u t => if 0 ≤ w - 1 - u ∧ w - 1 - u < w ∧ 0 ≤ h - 1 - t ∧ h - 1 - t < h then pix w h p (w - 1 - u) (h - 1 - t) else 0 % 256) = tab w h (fun u t => pix w h p (w - 1 - u) (h - 1 - t)) := tab_congr (by omega) (by omega) (fun u t a b c d => if_pos (by omega))
  refine EvP.rasterP (L0 := fun k j (l : List Int) => incunableref05_Turn.l0 k 2 j w h p w h l) (L1 := fun k j i (l : List Int) => incunableref05_Turn.l1 k 2 j i w h p w h l) (W := w) (H := h)
    (fun i j => w - 1 - i) (fun i j => h - 1 - j) (fun u t => w - 1 - u) (fun u t => h - 1 - t) (fun _ _ => 0 % 256) (fun u t => pix w h p (w - 1 - u) (h - 1 - t)) hw hh (by omega) (by omega) ?_ ?_ ?_ ?_ ?_ ?_ ?_
  · intro i j a b c d
    exact ⟨by show w - 1 - (w - 1 - i) = i; omega, by show h - 1 - (h - 1 - j) = j; omega⟩
  · intro u t a b c d e f g' h'
    exact ⟨by show w - 1 - (w - 1 - u) = u; omega, by show h - 1 - (h - 1 - t) = t; omega⟩
  · intro j l a b hk
    refine EvP.step (fun k => by rw [incunableref05_Turn.l0]) ?_
    exact EvP.pos b hk
  · refine EvP.step (fun k => by rw [incunableref05_Turn.l0]) ?_
    refine EvP.neg (by omega) (EvP.ret ?_)
    rw [e0]
  · intro i j g' a b c d p0 p1 q0 q1 e hk
    refine EvP.step (fun k => by rw [incunableref05_Turn.l1]) ?_
    refine EvP.pos b (EvP.neg (by decide) (EvP.neg (by decide) (EvP.pos rfl ?_)))
    refine EvP.bindv (At_is v _ _) ?_
    rw [w64 (x := w - 1) (by omega) (by omega), w64 (x := w - 1 - i) (by omega) (by omega), w64 (x := h - 1) (by omega) (by omega), w64 (x := h - 1 - j) (by omega) (by omega)]
    refine EvP.bindv (Put_is (by omega) (by omega) (by omega) (show 0 ≤ w - 1 - i by omega) (by omega) (show 0 ≤ h - 1 - j by omega) (by omega)) ?_
    have e3 := v.pix01 i j
    rw [w64 (x := i + 1) (by omega) (by omega), show pix w h p i j % 256 = pix w h p i j by omega]
    have e5 : w - 1 - (w - 1 - i) = i := by omega
    have e6 : h - 1 - (h - 1 - j) = j := by omega
    try simp only [e5, e6] at hk
    exact hk
  · intro i j g' a b c d q hk
    have q : ¬ (0 ≤ w - 1 - i ∧ w - 1 - i < w ∧ 0 ≤ h - 1 - j ∧ h - 1 - j < h) := q
    exact absurd (by omega) q
  · intro j l a b hk
    refine EvP.step (fun k => by rw [incunableref05_Turn.l1]) ?_
    refine EvP.neg (by omega) ?_
    rw [w64 (x := j + 1) (by omega) (by omega)]
    exact hk
theorem refTurn_3 {w h : Int} {p : List Int} (v : Val w h p) : EvP (fun k => incunableref05_Turn.l0 k 3 0 w h p h w (tab h w (fun _ _ => 0 % 256))) (· = (h, w, tab h w (fun u t => pix w h p (w - 1 - t) (u)), 0)) := by
  obtain ⟨hw, hh, w200, h200, hm⟩ := v.sid
  have hm2 : h * w = w * h := Int.mul_comm h w
  have e0 : tab h w (fun u t => if 0 ≤ w - 1 - t ∧ w - 1 - t < w ∧ 0 ≤ u ∧ u < h then pix w h p (w - 1 - t) (u) else 0 % 256) = tab h w (fun u t => pix w h p (w - 1 - t) (u)) := tab_congr (by omega) (by omega) (fun u t a b c d => if_pos (by omega))
  refine EvP.rasterP (L0 := fun k j (l : List Int) => incunableref05_Turn.l0 k 3 j w h p h w l) (L1 := fun k j i (l : List Int) => incunableref05_Turn.l1 k 3 j i w h p h w l) (W := w) (H := h)
    (fun i j => j) (fun i j => w - 1 - i) (fun u t => w - 1 - t) (fun u t => u) (fun _ _ => 0 % 256) (fun u t => pix w h p (w - 1 - t) (u)) hw hh (by omega) (by omega) ?_ ?_ ?_ ?_ ?_ ?_ ?_
  · intro i j a b c d
    exact ⟨by show w - 1 - (w - 1 - i) = i; omega, by show (j) = j; omega⟩
  · intro u t a b c d e f g' h'
    exact ⟨by show (u) = u; omega, by show w - 1 - (w - 1 - t) = t; omega⟩
  · intro j l a b hk
    refine EvP.step (fun k => by rw [incunableref05_Turn.l0]) ?_
    exact EvP.pos b hk
  · refine EvP.step (fun k => by rw [incunableref05_Turn.l0]) ?_
    refine EvP.neg (by omega) (EvP.ret ?_)
    rw [e0]
  · intro i j g' a b c d p0 p1 q0 q1 e hk
    refine EvP.step (fun k => by rw [incunableref05_Turn.l1]) ?_
    refine EvP.pos b (EvP.neg (by decide) (EvP.neg (by decide) (EvP.neg (by decide) (EvP.pos rfl ?_))))
    refine EvP.bindv (At_is v _ _) ?_
    rw [w64 (x := w - 1) (by omega) (by omega), w64 (x := w - 1 - i) (by omega) (by omega)]
    refine EvP.bindv (Put_is (by omega) (by omega) (by omega) (show 0 ≤ j by omega) (by omega) (show 0 ≤ w - 1 - i by omega) (by omega)) ?_
    have e3 := v.pix01 i j
    rw [w64 (x := i + 1) (by omega) (by omega), show pix w h p i j % 256 = pix w h p i j by omega]
    have e5 : w - 1 - (w - 1 - i) = i := by omega
    have e6 : (j) = j := by omega
    try simp only [e5, e6] at hk
    exact hk
  · intro i j g' a b c d q hk
    have q : ¬ (0 ≤ j ∧ j < h ∧ 0 ≤ w - 1 - i ∧ w - 1 - i < w) := q
    exact absurd (by omega) q
  · intro j l a b hk
    refine EvP.step (fun k => by rw [incunableref05_Turn.l1]) ?_
    refine EvP.neg (by omega) ?_
    rw [w64 (x := j + 1) (by omega) (by omega)]
    exact hk
theorem refTurn_is {w h : Int} {p : List Int} (v : Val w h p) (q : Int) (h0 : -9223372036854775808 ≤ q) (h1 : q ≤ 9223372036854775807) :
    EvP (fun k => incunableref05_Turn.f k w h p q) (· = ((turnQ w h p q).1, (turnQ w h p q).2.1, (turnQ w h p q).2.2, 0)) := by
  have hlen : (p.length : Int) ≤ 8192 := by rw [v.2.2.2.2.2.1]; exact v.2.2.2.2.1
  obtain ⟨hw, hh, w200, h200, hm⟩ := v.sid
  unfold incunableref05_Turn.f
  refine EvP.bind (refValid_is w h p (fun x hx => (v.2.2.2.2.2.2 x hx).1) (by omega)) ?_
  rintro _ rfl
  refine EvP.pos (decide_eq_true v) ?_
  refine EvP.bind (make2_is w h 0 hw hh w200 h200) ?_
  rintro _ rfl
  rw [q4 q h0 h1]
  unfold turnQ
  have four : q % 4 = 0 ∨ q % 4 = 1 ∨ q % 4 = 2 ∨ q % 4 = 3 := by omega
  rcases four with e | e | e | e
  · rw [e]
    refine EvP.neg (by decide) (EvP.step (fun k => by rw [incunableref05_Turn.j0]) ?_)
    refine (refTurn_0 v).mono ?_
    rintro _ rfl
    show (w, h, tab w h (fun u t => pix w h p u t), 0) = (w, h, p, 0)
    rw [show tab w h (fun u t => pix w h p u t) = p from v.tab.symm]
  · rw [e]
    refine EvP.pos (by decide) ?_
    refine EvP.bind (make2_is h w 0 hh hw h200 w200) ?_
    rintro _ rfl
    refine EvP.step (fun k => by rw [incunableref05_Turn.j0]) ?_
    refine (refTurn_1 v).mono ?_
    rintro _ rfl
    rfl
  · rw [e]
    refine EvP.neg (by decide) (EvP.step (fun k => by rw [incunableref05_Turn.j0]) ?_)
    refine (refTurn_2 v).mono ?_
    rintro _ rfl
    have := turn2 v
    show _ = ((turnR 2 (w, h, p)).1, (turnR 2 (w, h, p)).2.1, (turnR 2 (w, h, p)).2.2, 0)
    rw [this]
  · rw [e]
    refine EvP.pos (by decide) ?_
    refine EvP.bind (make2_is h w 0 hh hw h200 w200) ?_
    rintro _ rfl
    refine EvP.step (fun k => by rw [incunableref05_Turn.j0]) ?_
    refine (refTurn_3 v).mono ?_
    rintro _ rfl
    have := turn3 v
    show _ = ((turnR 3 (w, h, p)).1, (turnR 3 (w, h, p)).2.1, (turnR 3 (w, h, p)).2.2, 0)
    rw [this]
theorem refTurn_bad {w h : Int} {p : List Int} (v : ¬ Val w h p) (hp : ∀ x ∈ p, 0 ≤ x) (hl : (p.length : Int) ≤ 9223372036854775807) (q : Int) : EvP (fun k => incunableref05_Turn.f k w h p q) (· = (0, 0, [], 30)) := by
  unfold incunableref05_Turn.f
  refine EvP.bind (refValid_is w h p hp hl) ?_
  rintro _ rfl
  exact EvP.neg (by simpa using v) (EvP.ret rfl)

theorem Sane15_is : EvP (fun k => incunablelaw15_Sane.f k) (· = true) :=
  ⟨true, Ev.of (fun k => incunablelaw15_Sane.mono k) (k := 60) (by decide +kernel), rfl⟩

noncomputable def holB (b : Int × Int × List Int) : Int := holN b.1 b.2.1 b.2.2
theorem hol_le : ∀ (n : Nat) {w h : Int} {p : List Int}, Val w h p → holB (turnR n (w, h, p)) ≤ holN w h p
  | 0, _, _, _, _ => Int.le_refl _
  | n + 1, w, h, p, v => Int.le_trans (hol_le n (val_t1 v)) (hol_t1_le v)
theorem hol_turn {w h : Int} {p : List Int} (v : Val w h p) (n : Nat) (hn : n ≤ 4) : holB (turnR n (w, h, p)) = holN w h p := by
  have a := hol_le n v
  have vn := val_turn n v
  have b := hol_le (4 - n) vn
  have e : turnR (4 - n) (turnR n (w, h, p)) = (w, h, p) := by
    rw [turn_add, show n + (4 - n) = 4 by omega]
    exact turn4 v
  have b : holB (turnR (4 - n) (turnR n (w, h, p))) ≤ holB (turnR n (w, h, p)) := b
  rw [e] at b
  have b : holN w h p ≤ holB (turnR n (w, h, p)) := b
  omega
theorem Huge15_is (w h : Int) (p : List Int) : incunablelaw15_Huge.f w h p = some (decide ((p.length : Int) > 20000)) := rfl
theorem holes_j0 {w h : Int} {p : List Int} (hb : Byt p) (hl : (p.length : Int) ≤ 140737488351232) (m : Int) (h0 : -9223372036854775808 ≤ m) (h1 : m ≤ 9223372036854775807) (x : Bool) : EvP (fun k => incunablelaw15_ShapeHoles.j0 k m x w h p) (· = true) := by
  have hb0 : ∀ z ∈ p, 0 ≤ z := fun z hz => (hb z hz).1
  have sane : EvP (fun k => (incunablelaw15_Sane.f k).bind fun t => some t) (· = true) := by
    refine EvP.bind Sane15_is ?_
    rintro _ rfl
    exact EvP.ret rfl
  refine EvP.step (fun k => by rw [incunablelaw15_ShapeHoles.j0]) ?_
  refine EvP.ite (fun _ => sane) (fun _ => ?_)
  refine EvP.bind (shapeHoles_is w h p hb0 (by omega)) (fun r hr => ?_)
  refine EvP.bind (refHoles15_is w h p hb0 (by omega)) (fun s hs => ?_)
  have e : r = s := by
    by_cases v : Val w h p
    · rw [hr.1 v, hs.1 v, hol_frame v]
    · rw [hr.2 v, hs.2 v]
  subst e
  refine EvP.pos rfl ?_
  refine EvP.step (fun k => by rw [incunablelaw15_ShapeHoles.j1]) ?_
  refine EvP.neg (by simp) ?_
  by_cases v : Val w h p
  · rw [hr.1 v]
    refine EvP.pos rfl ?_
    refine EvP.bind (refTurn_is v m h0 h1) ?_
    rintro _ rfl
    have vm := val_turn (m % 4).toNat v
    have lm : ((turnR (m % 4).toNat (w, h, p)).2.2.length : Int) ≤ 8192 := by rw [vm.2.2.2.2.2.1]; exact vm.2.2.2.2.1
    refine EvP.bind (shapeHoles_is (turnR (m % 4).toNat (w, h, p)).1 (turnR (m % 4).toNat (w, h, p)).2.1 (turnR (m % 4).toNat (w, h, p)).2.2 (fun z hz => (val_byt vm z hz).1) (by omega)) (fun q hq => ?_)
    rw [hq.1 vm]
    refine EvP.pos rfl (EvP.pos (hol_turn v (m % 4).toNat (by omega)) sane)
  · rw [hr.2 v]
    exact EvP.neg (by decide) sane
theorem ShapeHoles : incunablelaw15_ShapeHoles.Pure := by
  intro w h p m _ _ hp hm
  have hb := wf_byt hp.2.2
  obtain ⟨h0, h1⟩ := wf_i64 hm
  have hl : (p.length : Int) ≤ 140737488351232 := by have := hp.2.1; omega
  refine EvP.rounds ?_
  unfold incunablelaw15_ShapeHoles.f
  refine EvP.bindv (Huge15_is w h p) ?_
  exact EvP.ite (fun _ => holes_j0 hb hl m h0 h1 _) (fun _ => holes_j0 hb hl m h0 h1 _)

end Go.Proofs.Ytaflekobfbgedaa.Pure
