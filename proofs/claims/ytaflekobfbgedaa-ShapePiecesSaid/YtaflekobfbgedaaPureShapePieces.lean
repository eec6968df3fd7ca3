/- Pieces: the pieces of a bitmap, cut into tiles and trimmed, are the document's -/
import Derived.Test.YtaflekobfbgedaaPShapePiecesx15
import Derived.Test.YtaflekobfbgedaaQBase
namespace Go.Proofs.Ytaflekobfbgedaa.Pure
open Go.RowKit Go.Proofs.Ytaflekobfbgedaa.PShapePieces Go.Proofs.YtaflekobfbgedaaW.PrintWords Go.Proofs.YtaflekobfbgedaaW.PrintLast Go.Proofs.YtaflekobfbgedaaW.PrintMore Go.Proofs.YtaflekobfbgedaaW.Pu
set_option linter.unusedVariables false
set_option linter.unusedSimpArgs false
/-- Come to by steps, all of it in C. -/
inductive Rch (adj : Int → Int → Prop) (C : Int → Prop) : Int → Int → Prop
  | refl {i : Int} : C i → Rch adj C i i
  | step {i j k : Int} : Rch adj C i j → adj j k → C k → Rch adj C i k
theorem Rch.left {adj : Int → Int → Prop} {C : Int → Prop} {i j : Int} (h : Rch adj C i j) : C i := by
  induction h with
  | refl h => exact h
  | step _ _ _ ih => exact ih
theorem Rch.right {adj : Int → Int → Prop} {C : Int → Prop} {i j : Int} (h : Rch adj C i j) : C j := by
  cases h with
  | refl h => exact h
  | step _ _ h => exact h
theorem Rch.trans {adj : Int → Int → Prop} {C : Int → Prop} {i j k : Int} (h : Rch adj C i j) (g : Rch adj C j k) : Rch adj C i k := by
  induction g with
  | refl _ => exact h
  | step _ a c ih => exact .step ih a c
theorem Rch.symm {adj : Int → Int → Prop} {C : Int → Prop} (hs : ∀ i j, adj i j → adj j i) {i j : Int} (h : Rch adj C i j) : Rch adj C j i := by
  induction h with
  | refl h => exact .refl h
  | step h a c ih => exact (Rch.step (.refl c) (hs _ _ a) h.right).trans ih
/-- A set that holds all neighbours of its own holds all that is come to. -/
theorem Rch.closed {adj : Int → Int → Prop} {C : Int → Prop} {M : Int → Prop} (hm : ∀ p q, M p → C p → adj p q → C q → M q) {i j : Int} (h : Rch adj C i j) (hi : M i) : M j := by
  induction h with
  | refl _ => exact hi
  | step h a c ih => exact hm _ _ ih h.right a c
/-- The flood's end: what was marked anew is what is come to from the start. -/
theorem flood_all {adj : Int → Int → Prop} {C : Int → Prop} {M Q : Int → Prop} {s : Int} (hs : ∀ i j, adj i j → adj j i) (hM : ∀ p q, M p → C p → adj p q → C q → M q)
    (h0 : Q s) (hQ : ∀ j, Q j → Rch adj C s j ∧ ¬ M j) (hc : ∀ p q, Q p → adj p q → C q → M q ∨ Q q) (j : Int) : Q j ↔ Rch adj C s j := by
  constructor
  · exact fun h => (hQ j h).1
  · intro h
    induction h with
    | refl _ => exact h0
    | step h a c ih =>
      rcases hc _ _ ih a c with m | q
      · exact absurd (hM _ _ m c (hs _ _ a) h.right) (hQ _ ih).2
      · exact q

def ix (w : Int) (e : S66) : Int := e.f1 * w + e.f0
def inn (w h : Int) (e : S66) : Prop := 0 ≤ e.f0 ∧ e.f0 < w ∧ 0 ≤ e.f1 ∧ e.f1 < h
/-- Neighbours by displacements. -/
def adjD (w h : Int) (D : Int → Int → Prop) (i j : Int) : Prop := ∃ x y u v : Int, (0 ≤ x ∧ x < w ∧ 0 ≤ y ∧ y < h) ∧ (0 ≤ u ∧ u < w ∧ 0 ≤ v ∧ v < h) ∧ i = y * w + x ∧ j = v * w + u ∧ D (u - x) (v - y)
def colS (w h : Int) (p : List Int) (c : Int) (i : Int) : Prop := 0 ≤ i ∧ i < w * h ∧ rd p i = c
def mkd (m : List Bool) (j : Int) : Prop := rdOf false m j = true
def unm (m : List Bool) : Nat := m.count false
theorem unm_set : ∀ (m : List Bool) (i : Nat), i < m.length → m.getD i false = false → unm (m.set i true) + 1 = unm m
  | [], i, h, _ => by simp at h
  | b :: m, 0, _, e => by
    have : b = false := e
    subst this
    unfold unm
    rw [List.set_cons_zero, List.count_cons, List.count_cons]
    simp
  | b :: m, i + 1, h, e => by
    have ih := unm_set m i (by simpa using h) e
    unfold unm at ih ⊢
    rw [List.set_cons_succ, List.count_cons, List.count_cons]
    omega
theorem mkd_set (m : List Bool) {i j : Int} (i0 : 0 ≤ i) (i1 : i < (m.length : Int)) (j0 : 0 ≤ j) : mkd (m.set i.toNat true) j ↔ j = i ∨ mkd m j := by
  have hi : i.toNat < m.length := by omega
  unfold mkd rdOf
  simp only [List.getD, List.getElem?_set]
  by_cases e : j = i
  · subst e
    simp [hi]
  · have : ¬ i.toNat = j.toNat := by omega
    simp [this, e]
theorem rd66_app (l : List S66) (e : S66) {n : Int} (n0 : 0 ≤ n) (n1 : n < (l.length : Int)) : rd_T66 (l ++ [e]) n = rd_T66 l n := by
  have : n.toNat < l.length := by omega
  simp [rd_T66, List.getD, List.getElem?_append_left this]
theorem rd66_mem {l : List S66} {n : Int} (n0 : 0 ≤ n) (n1 : n < (l.length : Int)) : rd_T66 l n ∈ l := by
  have h2 : n.toNat < l.length := by omega
  have e : rd_T66 l n = l[n.toNat] := by simp [rd_T66, List.getD, h2]
  rw [e]
  exact List.getElem_mem _
theorem mem_rd66 {l : List S66} {e : S66} (h : e ∈ l) : ∃ n : Int, 0 ≤ n ∧ n < (l.length : Int) ∧ rd_T66 l n = e := by
  obtain ⟨n, hn, he⟩ := List.getElem_of_mem h
  refine ⟨(n : Int), by omega, by omega, ?_⟩
  simp [rd_T66, List.getD, hn, he]
theorem ix_in {w h : Int} {e : S66} (i : inn w h e) : 0 ≤ ix w e ∧ ix w e < w * h := ⟨(flat_lt i.1 i.2.1 i.2.2.1 i.2.2.2).2.1, (flat_lt i.1 i.2.1 i.2.2.1 i.2.2.2).2.2⟩
/-- What holds within the flood: the marks, the places found; t of them are done. -/
structure FI (w h : Int) (p : List Int) (D : Int → Int → Prop) (c : Int) (M0 : Int → Prop) (s : Int) (U : Nat) (mk : List Bool) (out : List S66) (t : Int) : Prop where
  len : mk.length = p.length
  cnt : out.length + unm mk = U
  own : ∀ e ∈ out, inn w h e ∧ Rch (adjD w h D) (colS w h p c) s (ix w e) ∧ ¬ M0 (ix w e)
  mks : ∀ j, 0 ≤ j → j < w * h → (mkd mk j ↔ M0 j ∨ ∃ e ∈ out, ix w e = j)
  beg : ∃ e ∈ out, ix w e = s
  t0 : 0 ≤ t
  t1 : t ≤ (out.length : Int)
  dn : ∀ n : Int, 0 ≤ n → n < t → ∀ q, adjD w h D (ix w (rd_T66 out n)) q → colS w h p c q → mkd mk q
/-- The steps at place t that are done. -/
def Stp (w h : Int) (p : List Int) (c : Int) (st : List S66) (mk : List Bool) (q : S66) (b : Int) : Prop := ∀ n : Int, 0 ≤ n → n < b → ∀ u v : Int, u = q.f0 + (rd_T66 st n).f0 → v = q.f1 + (rd_T66 st n).f1 → 0 ≤ u → u < w → 0 ≤ v → v < h → colS w h p c (v * w + u) → mkd mk (v * w + u)
/-- One place more. -/
theorem FI.more {w h : Int} {p : List Int} {D : Int → Int → Prop} {c : Int} {M0 : Int → Prop} {s : Int} {U : Nat} {mk : List Bool} {out : List S66} {t : Int} (f : FI w h p D c M0 s U mk out t) (hp : (p.length : Int) = w * h) (ht : t < (out.length : Int))
    (u v : Int) (hi : inn w h ⟨u, v⟩) (hd : D (u - (rd_T66 out t).f0) (v - (rd_T66 out t).f1)) (hn : ¬ mkd mk (v * w + u)) (hc : rd p (v * w + u) = c) :
    FI w h p D c M0 s U (mk.set (v * w + u).toNat true) (out ++ [⟨u, v⟩]) t := by
  have hx := ix_in hi
  have hx0 : 0 ≤ v * w + u := hx.1
  have hx1 : v * w + u < w * h := hx.2
  have hlt : v * w + u < (mk.length : Int) := by rw [f.len, hp]; exact hx1
  have hq := f.own _ (rd66_mem f.t0 ht)
  refine ⟨by rw [List.length_set]; exact f.len, ?_, ?_, ?_, ?_, f.t0, by rw [List.length_append]; have := f.t1; simp; omega, ?_⟩
  · have := unm_set mk (v * w + u).toNat (by omega) (by
      unfold mkd rdOf at hn
      simpa using hn)
    have := f.cnt
    rw [List.length_append]
    simp
    omega
  · intro e he
    rcases List.mem_append.mp he with he | he
    · exact f.own e he
    · have : e = ⟨u, v⟩ := by simpa using he
      subst this
      refine ⟨hi, .step hq.2.1 ⟨_, _, u, v, hq.1, hi, rfl, rfl, hd⟩ ⟨hx0, hx1, hc⟩, fun m => hn ((f.mks _ hx0 hx1).mpr (.inl m))⟩
  · intro j j0 j1
    rw [mkd_set mk hx0 hlt j0, f.mks j j0 j1]
    constructor
    · rintro (rfl | m | ⟨e, he, r⟩)
      · exact .inr ⟨⟨u, v⟩, by simp, rfl⟩
      · exact .inl m
      · exact .inr ⟨e, List.mem_append_left _ he, r⟩
    · rintro (m | ⟨e, he, r⟩)
      · exact .inr (.inl m)
      · rcases List.mem_append.mp he with he | he
        · exact .inr (.inr ⟨e, he, r⟩)
        · have : e = ⟨u, v⟩ := by simpa using he
          subst this
          exact .inl r.symm
  · obtain ⟨e, he, r⟩ := f.beg
    exact ⟨e, List.mem_append_left _ he, r⟩
  · intro n n0 n1 q ha hq2
    rw [rd66_app out _ n0 (by omega)] at ha
    exact (mkd_set mk hx0 hlt hq2.1).mpr (.inr (f.dn n n0 n1 q ha hq2))
theorem Stp.more {w h : Int} {p : List Int} {c : Int} {st : List S66} {mk : List Bool} {q : S66} {b : Int} (f : Stp w h p c st mk q b) {i : Int} (i0 : 0 ≤ i) (i1 : i < (mk.length : Int)) : Stp w h p c st (mk.set i.toNat true) q b :=
  fun n n0 n1 u v eu ev u0 u1 v0 v1 hc => (mkd_set mk i0 i1 hc.1).mpr (.inr (f n n0 n1 u v eu ev u0 u1 v0 v1 hc))
theorem Stp.next {w h : Int} {p : List Int} {c : Int} {st : List S66} {mk : List Bool} {q : S66} {b : Int} (f : Stp w h p c st mk q b) (g : ∀ u v : Int, u = q.f0 + (rd_T66 st b).f0 → v = q.f1 + (rd_T66 st b).f1 → 0 ≤ u → u < w → 0 ≤ v → v < h → colS w h p c (v * w + u) → mkd mk (v * w + u)) : Stp w h p c st mk q (b + 1) := by
  intro n n0 n1
  by_cases e : n = b
  · subst e; exact g
  · exact f n n0 (by omega)
/-- All steps at a place done: the place is. -/
theorem FI.done {w h : Int} {p : List Int} {D : Int → Int → Prop} {c : Int} {M0 : Int → Prop} {s : Int} {U : Nat} {mk : List Bool} {out : List S66} {t : Int} {st : List S66} (f : FI w h p D c M0 s U mk out t) (ht : t < (out.length : Int)) (hD : ∀ dx dy, D dx dy → ∃ b : Int, 0 ≤ b ∧ b < (st.length : Int) ∧ rd_T66 st b = ⟨dx, dy⟩)
    (g : Stp w h p c st mk (rd_T66 out t) (st.length : Int)) : FI w h p D c M0 s U mk out (t + 1) := by
  refine ⟨f.len, f.cnt, f.own, f.mks, f.beg, by have := f.t0; omega, by omega, ?_⟩
  intro n n0 n1 q ha hq
  by_cases e : n = t
  · subst e
    have hi := (f.own _ (rd66_mem f.t0 ht)).1
    obtain ⟨x, y, u, v, hx, hu, e1, e2, hd⟩ := ha
    have e1 : (rd_T66 out n).f1 * w + (rd_T66 out n).f0 = y * w + x := e1
    obtain ⟨ey, ex⟩ := flat_inj hi.1 hi.2.1 hx.1 hx.2.1 e1
    obtain ⟨b, b0, b1, eb⟩ := hD _ _ hd
    subst e2
    exact g b b0 b1 u v (by rw [eb, ex]; show u = x + (u - x); omega) (by rw [eb, ey]; show v = y + (v - y); omega) hu.1 hu.2.1 hu.2.2.1 hu.2.2.2 hq
  · exact f.dn n n0 (by omega) q ha hq

/-- Steps: each by one at the most, and they are the displacements. -/
structure Stps (st : List S66) (D : Int → Int → Prop) : Prop where
  few : st.length ≤ 100
  one : ∀ b : Int, 0 ≤ b → b < (st.length : Int) → -1 ≤ (rd_T66 st b).f0 ∧ (rd_T66 st b).f0 ≤ 1 ∧ -1 ≤ (rd_T66 st b).f1 ∧ (rd_T66 st b).f1 ≤ 1 ∧ D (rd_T66 st b).f0 (rd_T66 st b).f1
  all : ∀ dx dy, D dx dy → ∃ b : Int, 0 ≤ b ∧ b < (st.length : Int) ∧ rd_T66 st b = ⟨dx, dy⟩
theorem flood_l1 {P : List S66 × List Bool → Prop} {w h : Int} {p : List Int} {D : Int → Int → Prop} {c : Int} {M0 : Int → Prop} {s : Int} {U : Nat} {st : List S66} (hw : 0 ≤ w) (hh : 0 ≤ h) (hw2 : w ≤ 1000) (hh2 : h ≤ 1000) (hp : (p.length : Int) = w * h) (hm : w * h ≤ 1000000) (hU : U ≤ 1000000) (hst : Stps st D) (t : Int)
    (hk : ∀ mk out, FI w h p D c M0 s U mk out (t + 1) → EvP (fun k => shape_flood.l0 k mk st c out (t + 1) w h p) P) (mk : List Bool) (out : List S66) (f : FI w h p D c M0 s U mk out t) (ht : t < (out.length : Int)) :
    EvP (fun k => shape_flood.l1 k mk st c out t st (st.length : Int) 0 w h p) P := by
  have few := hst.few
  refine EvP.up (L := fun k b (x : List Bool × List S66) => shape_flood.l1 k x.1 st c x.2 t st (st.length : Int) b w h p) (fun b x => 0 ≤ b ∧ FI w h p D c M0 s U x.1 x.2 t ∧ t < (x.2.length : Int) ∧ Stp w h p c st x.1 (rd_T66 x.2 t) b) st.length ?_ 0 (mk, out) (by omega) ⟨by omega, f, ht, fun n n0 n1 => by omega⟩
  rintro b ⟨mk, out⟩ ⟨b0, f, ht, g⟩ hb ih
  have f : FI w h p D c M0 s U mk out t := f
  have ht : t < (out.length : Int) := ht
  have g : Stp w h p c st mk (rd_T66 out t) b := g
  have lo : out.length ≤ 1000000 := by have := f.cnt; omega
  refine EvP.step (fun k => by rw [shape_flood.l1]) ?_
  refine EvP.ite (fun b1 => ?_) (fun b1 => ?_)
  · obtain ⟨d0, d1, d2, d3, hd⟩ := hst.one b b0 b1
    have hi := (f.own _ (rd66_mem f.t0 ht)).1
    obtain ⟨i0, i1, i2, i3⟩ := hi
    refine EvP.pos b0 (EvP.pos b1 (EvP.pos f.t0 (EvP.pos ht ?_)))
    rw [w64 (x := (rd_T66 out t).f0 + (rd_T66 st b).f0) (by omega) (by omega), w64 (x := (rd_T66 out t).f1 + (rd_T66 st b).f1) (by omega) (by omega)]
    have hdu : D ((rd_T66 out t).f0 + (rd_T66 st b).f0 - (rd_T66 out t).f0) ((rd_T66 out t).f1 + (rd_T66 st b).f1 - (rd_T66 out t).f1) := by
      rw [show (rd_T66 out t).f0 + (rd_T66 st b).f0 - (rd_T66 out t).f0 = (rd_T66 st b).f0 by omega, show (rd_T66 out t).f1 + (rd_T66 st b).f1 - (rd_T66 out t).f1 = (rd_T66 st b).f1 by omega]
      exact hd
    generalize eu : (rd_T66 out t).f0 + (rd_T66 st b).f0 = u at hdu ⊢
    generalize ev : (rd_T66 out t).f1 + (rd_T66 st b).f1 = v at hdu ⊢
    have skip : (0 ≤ u → u < w → 0 ≤ v → v < h → colS w h p c (v * w + u) → mkd mk (v * w + u)) → EvP (fun k => shape_flood.j2 k mk st c out t st (st.length : Int) b true w h p u v) P := fun z => by
      refine EvP.step (fun k => by rw [shape_flood.j2]) (EvP.pos rfl ?_)
      rw [w64 (x := b + 1) (by omega) (by omega)]
      refine ih (mk, out) b1 ⟨by omega, f, ht, g.next (fun u' v' eu' ev' => ?_)⟩
      rw [eu', ev', eu, ev]
      exact z
    refine EvP.ite (fun z => skip (fun a => by omega)) (fun z1 => ?_)
    refine EvP.ite (fun z => skip (fun _ _ a => by omega)) (fun z2 => ?_)
    refine EvP.ite (fun z => skip (fun _ a => by omega)) (fun z3 => ?_)
    refine EvP.ite (fun z => skip (fun _ _ _ a => by omega)) (fun z4 => ?_)
    have hin : inn w h ⟨u, v⟩ := ⟨by show 0 ≤ u; omega, by show u < w; omega, by show 0 ≤ v; omega, by show v < h; omega⟩
    have hx0 : 0 ≤ v * w + u := (ix_in hin).1
    have hx1 : v * w + u < w * h := (ix_in hin).2
    have hv0 : 0 ≤ v * w := Int.mul_nonneg (by omega) hw
    have hlt : v * w + u < (mk.length : Int) := by rw [f.len, hp]; exact hx1
    rw [w64 (x := v * w) (by omega) (by omega), w64 (x := v * w + u) (by omega) (by omega)]
    refine EvP.pos hx0 (EvP.pos hlt ?_)
    refine EvP.ite (fun z => skip (fun _ _ _ _ _ => z)) (fun z5 => ?_)
    refine EvP.pos (by omega) ?_
    by_cases e : rd p (v * w + u) = c
    · have eb : (rd p (v * w + u) != c) = false := by rw [e]; simp
      rw [eb]
      refine EvP.step (fun k => by rw [shape_flood.j2]) ?_
      refine EvP.neg (by simp) ?_
      rw [w64 (x := v * w) (by omega) (by omega), w64 (x := v * w + u) (by omega) (by omega), w64 (x := b + 1) (by omega) (by omega)]
      refine EvP.pos hx0 (EvP.pos hlt (EvP.pos (by show out.length < 8796093022208; omega) ?_))
      have f2 := f.more hp ht u v hin hdu z5 e
      refine ih (mk.set (v * w + u).toNat true, out ++ [⟨u, v⟩]) b1 ⟨by omega, f2, by show t < ((out ++ [⟨u, v⟩] : List S66).length : Int); rw [List.length_append]; omega, ?_⟩
      show Stp w h p c st (mk.set (v * w + u).toNat true) (rd_T66 (out ++ [⟨u, v⟩]) t) (b + 1)
      rw [rd66_app out _ f.t0 ht]
      refine (g.more hx0 hlt).next (fun u' v' eu' ev' _ _ _ _ _ => ?_)
      rw [eu', ev', eu, ev]
      exact (mkd_set mk hx0 hlt hx0).mpr (.inl rfl)
    · have eb : (rd p (v * w + u) != c) = true := by
        rw [bne_iff_ne]
        exact e
      rw [eb]
      exact skip (fun _ _ _ _ q => absurd q.2.2 e)
  · have eb : b = (st.length : Int) := by omega
    subst eb
    have f2 := f.done ht hst.all g
    rw [w64 (x := t + 1) (by have := f.t0; omega) (by omega)]
    exact hk mk out f2
theorem flood_l0 {w h : Int} {p : List Int} {D : Int → Int → Prop} {c : Int} {M0 : Int → Prop} {s : Int} {U : Nat} {st : List S66} (hw : 0 ≤ w) (hh : 0 ≤ h) (hw2 : w ≤ 1000) (hh2 : h ≤ 1000) (hp : (p.length : Int) = w * h) (hm : w * h ≤ 1000000) (hU : U ≤ 1000000) (hst : Stps st D) :
    ∀ (mk : List Bool) (out : List S66) (t : Int), FI w h p D c M0 s U mk out t → EvP (fun k => shape_flood.l0 k mk st c out t w h p) (fun r => FI w h p D c M0 s U r.2 r.1 r.1.length) := by
  intro mk out t f
  refine EvP.loop (L := fun k (x : List Bool × List S66 × Int) => shape_flood.l0 k x.1 st c x.2.1 x.2.2 w h p) (fun x => FI w h p D c M0 s U x.1 x.2.1 x.2.2) (fun x => U - x.2.2.toNat) ?_ (mk, out, t) f
  rintro ⟨mk, out, t⟩ f ih
  have f : FI w h p D c M0 s U mk out t := f
  refine EvP.step (fun k => by rw [shape_flood.l0]) ?_
  refine EvP.ite (fun z => ?_) (fun z => EvP.ret ?_)
  · have z : t < (out.length : Int) := z
    refine flood_l1 hw hh hw2 hh2 hp hm hU hst t (fun mk' out' f' => ih (mk', out', t + 1) f' ?_) mk out f z
    have := f.cnt
    have := f.t0
    show U - (t + 1).toNat < U - t.toNat
    omega
  · have z : ¬ t < (out.length : Int) := z
    have e : t = (out.length : Int) := by have := f.t1; omega
    subst e
    exact f
/-- The flood of the program: what it found, and the marks. -/
theorem flood_is {w h : Int} {p : List Int} {D : Int → Int → Prop} {st : List S66} (hw : 0 ≤ w) (hh : 0 ≤ h) (hw2 : w ≤ 1000) (hh2 : h ≤ 1000) (hp : (p.length : Int) = w * h) (hm : w * h ≤ 1000000) (hst : Stps st D) (mk : List Bool) (hl : mk.length = p.length) (x y : Int) (hi : inn w h ⟨x, y⟩) (hn : ¬ mkd mk (y * w + x)) :
    EvP (fun k => shape_flood.f k w h p mk x y st) (fun r => FI w h p D (rd p (y * w + x)) (mkd mk) (y * w + x) (unm mk) r.2 r.1 r.1.length) := by
  have hx0 : 0 ≤ y * w + x := (ix_in hi).1
  have hx1 : y * w + x < w * h := (ix_in hi).2
  have hi1 : 0 ≤ x := hi.1
  have hi2 : x < w := hi.2.1
  have hv0 : 0 ≤ y * w := Int.mul_nonneg hi.2.2.1 hw
  have hlt : y * w + x < (mk.length : Int) := by rw [hl, hp]; exact hx1
  have hU : unm mk ≤ 1000000 := by
    have : unm mk ≤ mk.length := List.count_le_length
    omega
  unfold shape_flood.f
  rw [w64 (x := y * w) (by omega) (by omega), w64 (x := y * w + x) (by omega) (by omega)]
  refine EvP.pos hx0 (EvP.pos (by omega) (EvP.pos hlt ?_))
  refine flood_l0 hw hh hw2 hh2 hp hm hU hst _ _ 0 ⟨by rw [List.length_set]; exact hl, ?_, ?_, ?_, ⟨⟨x, y⟩, by simp, rfl⟩, by omega, by simp, fun n n0 n1 => by omega⟩
  · have := unm_set mk (y * w + x).toNat (by omega) (by
      unfold mkd rdOf at hn
      simpa using hn)
    simp
    omega
  · intro e he
    have : e = ⟨x, y⟩ := by simpa using he
    subst this
    exact ⟨hi, .refl ⟨hx0, hx1, rfl⟩, hn⟩
  · intro j j0 j1
    rw [mkd_set mk hx0 hlt j0]
    constructor
    · rintro (rfl | m)
      · exact .inr ⟨⟨x, y⟩, by simp, rfl⟩
      · exact .inl m
    · rintro (m | ⟨e, he, r⟩)
      · exact .inr m
      · have : e = ⟨x, y⟩ := by simpa using he
        subst this
        exact .inl r.symm

def DD (cor : Bool) (dx dy : Int) : Prop := -1 ≤ dx ∧ dx ≤ 1 ∧ -1 ≤ dy ∧ dy ≤ 1 ∧ ¬ (dx = 0 ∧ dy = 0) ∧ (cor = true ∨ dx = 0 ∨ dy = 0)
def unz (m : List Int) : Nat := m.count 0
theorem unz_set : ∀ (m : List Int) (i : Nat) (a : Int), i < m.length → m.getD i 0 = 0 → a ≠ 0 → unz (m.set i a) + 1 = unz m
  | [], i, _, h, _, _ => by simp at h
  | b :: m, 0, a, _, e, ha => by
    have : b = 0 := e
    subst this
    unfold unz
    rw [List.set_cons_zero, List.count_cons, List.count_cons]
    simp [ha]
  | b :: m, i + 1, a, h, e, ha => by
    have ih := unz_set m i a (by simpa using h) e ha
    unfold unz at ih ⊢
    rw [List.set_cons_succ, List.count_cons, List.count_cons]
    omega
structure FR (w h : Int) (p : List Int) (D : Int → Int → Prop) (c : Int) (m0 : List Int) (a s : Int) (U : Nat) (m : List Int) (out : List Int) (t : Int) : Prop where
  len : m.length = p.length
  cnt : out.length + unz m = U
  own : ∀ e ∈ out, (0 ≤ e ∧ e < w * h) ∧ Rch (adjD w h D) (colS w h p c) s e ∧ rd m0 e = 0
  mks : ∀ j, 0 ≤ j → j < w * h → (j ∈ out → rd m j = a) ∧ (j ∉ out → rd m j = rd m0 j)
  beg : s ∈ out
  t0 : 0 ≤ t
  t1 : t ≤ (out.length : Int)
  dn : ∀ n : Int, 0 ≤ n → n < t → ∀ q, adjD w h D (rd out n) q → colS w h p c q → rd m q ≠ 0
theorem FR.more {w h : Int} {p : List Int} {D : Int → Int → Prop} {c : Int} {m0 : List Int} {a s : Int} {U : Nat} {m out : List Int} {t : Int} (f : FR w h p D c m0 a s U m out t) (ha : a ≠ 0) (hp : (p.length : Int) = w * h)
    {i j : Int} (hi : i ∈ out) (j0 : 0 ≤ j) (j1 : j < w * h) (hd : adjD w h D i j) (hn : rd m j = 0) (hc : rd p j = c) : FR w h p D c m0 a s U (m.set j.toNat a) (out ++ [j]) t := by
  have hlt : j < (m.length : Int) := by rw [f.len, hp]; exact j1
  have hq := f.own _ hi
  have nj : j ∉ out := fun z => ha (((f.mks j j0 j1).1 z).symm.trans hn)
  refine ⟨by rw [List.length_set]; exact f.len, ?_, ?_, ?_, List.mem_append_left _ f.beg, f.t0, by rw [List.length_append]; have := f.t1; simp; omega, ?_⟩
  · have := unz_set m j.toNat a (by omega) hn ha
    have := f.cnt
    rw [List.length_append]
    simp
    omega
  · intro e he
    rcases List.mem_append.mp he with he | he
    · exact f.own e he
    · have : e = j := by simpa using he
      subst this
      exact ⟨⟨j0, j1⟩, .step hq.2.1 hd ⟨j0, j1, hc⟩, ((f.mks e j0 j1).2 nj).symm.trans hn⟩
  · intro q q0 q1
    rw [rd_set m j q a j0 hlt q0]
    by_cases e : q = j
    · subst e
      exact ⟨fun _ => if_pos rfl, fun z => absurd (List.mem_append_right _ (by simp)) z⟩
    · rw [if_neg e]
      refine ⟨fun z => (f.mks q q0 q1).1 ?_, fun z => (f.mks q q0 q1).2 (fun y => z (List.mem_append_left _ y))⟩
      rcases List.mem_append.mp z with z | z
      · exact z
      · exact absurd (by simpa using z) e
  · intro n n0 n1 q hadj hq2
    rw [rd_append out j n n0, if_neg (by have := f.t1; omega)] at hadj
    rw [rd_set m j q a j0 hlt hq2.1]
    split
    · exact ha
    · exact f.dn n n0 n1 q hadj hq2
/-- What of the window is done. -/
def Win (w h : Int) (p : List Int) (c : Int) (cor : Bool) (m : List Int) (x y v u : Int) : Prop := ∀ u' v' : Int, y - 1 ≤ v' → x - 1 ≤ u' → u' ≤ x + 1 → (v' < v ∨ v' = v ∧ u' < u) → (cor = true ∨ u' = x ∨ v' = y) → 0 ≤ u' → u' < w → 0 ≤ v' → v' < h → colS w h p c (v' * w + u') → rd m (v' * w + u') ≠ 0
theorem Win.more {w h : Int} {p : List Int} {c : Int} {cor : Bool} {m : List Int} {x y v u : Int} (g : Win w h p c cor m x y v u) {j a : Int} (j0 : 0 ≤ j) (j1 : j < (m.length : Int)) (ha : a ≠ 0) : Win w h p c cor (m.set j.toNat a) x y v u := by
  intro u' v' a1 a2 a3 a4 a5 a6 a7 a8 a9 hc
  rw [rd_set m j _ a j0 j1 hc.1]
  split
  · exact ha
  · exact g u' v' a1 a2 a3 a4 a5 a6 a7 a8 a9 hc
theorem Win.next {w h : Int} {p : List Int} {c : Int} {cor : Bool} {m : List Int} {x y v u : Int} (g : Win w h p c cor m x y v u) (k : (cor = true ∨ u = x ∨ v = y) → 0 ≤ u → u < w → 0 ≤ v → v < h → colS w h p c (v * w + u) → rd m (v * w + u) ≠ 0) : Win w h p c cor m x y v (u + 1) := by
  intro u' v' a1 a2 a3 a4 a5 a6 a7 a8 a9 hc
  by_cases e : v' = v ∧ u' = u
  · obtain ⟨rfl, rfl⟩ := e
    exact k a5 a6 a7 a8 a9 hc
  · exact g u' v' a1 a2 a3 (by omega) a5 a6 a7 a8 a9 hc
theorem FR.done {w h : Int} {p : List Int} {c : Int} {m0 : List Int} {a s : Int} {U : Nat} {m out : List Int} {t : Int} {cor : Bool} (f : FR w h p (DD cor) c m0 a s U m out t) (ht : t < (out.length : Int)) {x y : Int} (hx : 0 ≤ x ∧ x < w ∧ 0 ≤ y ∧ y < h) (ex : rd out t = y * w + x)
    (g : Win w h p c cor m x y (y + 2) (x - 1)) : FR w h p (DD cor) c m0 a s U m out (t + 1) := by
  refine ⟨f.len, f.cnt, f.own, f.mks, f.beg, by have := f.t0; omega, by omega, ?_⟩
  intro n n0 n1 q ha hq
  by_cases e : n = t
  · subst e
    rw [ex] at ha
    obtain ⟨x', y', u, v, hx', hu, e1, e2, hd⟩ := ha
    obtain ⟨ey, ex'⟩ := flat_inj hx.1 hx.2.1 hx'.1 hx'.2.1 e1
    subst e2 ey ex'
    obtain ⟨d0, d1, d2, d3, _, d5⟩ := hd
    exact g u v (by omega) (by omega) (by omega) (by omega) (by rcases d5 with z | z | z; exact .inl z; exact .inr (.inl (by omega)); exact .inr (.inr (by omega))) hu.1 hu.2.1 hu.2.2.1 hu.2.2.2 hq
  · exact f.dn n n0 (by omega) q ha hq
theorem spread_l2 {P : Int × List Int → Prop} {w h : Int} {p : List Int} {c : Int} {m0 : List Int} {a s : Int} {U : Nat} {cor : Bool} (hw : 0 ≤ w) (hh : 0 ≤ h) (hw2 : w ≤ 1000) (hh2 : h ≤ 1000) (hp : (p.length : Int) = w * h) (hm : w * h ≤ 1000000) (hb : ∀ z ∈ p, 0 ≤ z ∧ z ≤ 255) (hU : U ≤ 1000000) (ha : a ≠ 0) (t x y : Int) (hx : 0 ≤ x ∧ x < w ∧ 0 ≤ y ∧ y < h) (v : Int) (v0 : y - 1 ≤ v) (v1 : v ≤ y + 1)
    (hk : ∀ m out, FR w h p (DD cor) c m0 a s U m out t → t < (out.length : Int) → rd out t = y * w + x → Win w h p c cor m x y (v + 1) (x - 1) → EvP (fun k => incunableref15_spread.l1 k m a c cor out t x y (v + 1) w h p) P)
    (m out : List Int) (f : FR w h p (DD cor) c m0 a s U m out t) (ht : t < (out.length : Int)) (ex : rd out t = y * w + x) (g : Win w h p c cor m x y v (x - 1)) :
    EvP (fun k => incunableref15_spread.l2 k m a c cor out t x y v (x - 1) w h p) P := by
  refine EvP.up (L := fun k u (z : List Int × List Int) => incunableref15_spread.l2 k z.1 a c cor z.2 t x y v u w h p) (fun u z => x - 1 ≤ u ∧ FR w h p (DD cor) c m0 a s U z.1 z.2 t ∧ t < (z.2.length : Int) ∧ rd z.2 t = y * w + x ∧ Win w h p c cor z.1 x y v u) (x + 2) ?_ (x - 1) (m, out) (by omega) ⟨by omega, f, ht, ex, g⟩
  rintro u ⟨m, out⟩ ⟨u0, f, ht, ex, g⟩ hu ih
  have f : FR w h p (DD cor) c m0 a s U m out t := f
  have ht : t < (out.length : Int) := ht
  have ex : rd out t = y * w + x := ex
  have g : Win w h p c cor m x y v u := g
  have lo : out.length ≤ 1000000 := by have := f.cnt; omega
  obtain ⟨x0, x1, y0, y1⟩ := hx
  refine EvP.step (fun k => by rw [incunableref15_spread.l2]) ?_
  rw [w64 (x := x + 1) (by omega) (by omega)]
  refine EvP.ite (fun u1 => ?_) (fun u1 => ?_)
  · have skip : ((cor = true ∨ u = x ∨ v = y) → 0 ≤ u → u < w → 0 ≤ v → v < h → colS w h p c (v * w + u) → rd m (v * w + u) ≠ 0) → EvP (fun k => incunableref15_spread.l2 k m a c cor out t x y v (wrap64 (u + 1)) w h p) P := fun z => by
      rw [w64 (x := u + 1) (by omega) (by omega)]
      exact ih (m, out) (by omega) ⟨by omega, f, ht, ex, g.next z⟩
    have yes : ((cor = true ∨ u = x ∨ v = y) → 0 ≤ u → u < w → 0 ≤ v → v < h → colS w h p c (v * w + u) → rd m (v * w + u) ≠ 0) → EvP (fun k => incunableref15_spread.j3 k m a c cor out t x y v u true w h p) P := fun z => EvP.step (fun k => by rw [incunableref15_spread.j3]) (EvP.pos rfl (skip z))
    refine EvP.ite (fun z => yes (fun _ b => by omega)) (fun z1 => ?_)
    refine EvP.ite (fun z => yes (fun _ _ _ b => by omega)) (fun z2 => ?_)
    refine EvP.ite (fun z => yes (fun _ _ b => by omega)) (fun z3 => ?_)
    refine EvP.ite (fun z => yes (fun _ _ _ _ b => by omega)) (fun z4 => ?_)
    have no : (cor = true ∨ u = x ∨ v = y) → EvP (fun k => incunableref15_spread.j3 k m a c cor out t x y v u false w h p) P := fun hal => by
      have hf := flat_lt (x := u) (y := v) (w := w) (h := h) (by omega) (by omega) (by omega) (by omega)
      obtain ⟨hv0, j0, j1⟩ := hf
      have hlt : v * w + u < (m.length : Int) := by rw [f.len, hp]; exact j1
      have pb := hb _ (rd_mem (l := p) j0 (by omega))
      refine EvP.step (fun k => by rw [incunableref15_spread.j3]) ?_
      refine EvP.neg (by simp) ?_
      rw [w64 (x := v * w) (by omega) (by omega), w64 (x := v * w + u) (by omega) (by omega), w64 (x := rd p (v * w + u)) (by omega) (by omega)]
      refine EvP.pos j0 (EvP.pos (by omega) ?_)
      refine EvP.ite (fun e => EvP.pos hlt ?_) (fun e => skip (fun _ _ _ _ _ q => absurd q.2.2 e))
      refine EvP.ite (fun n => EvP.pos (by omega) ?_) (fun n => skip (fun _ _ _ _ _ _ => n))
      have mi : y * w + x ∈ out := by rw [← ex]; exact rd_mem f.t0 ht
      have nc : ¬ (u - x = 0 ∧ v - y = 0) := fun z => by
        have e1 : v * w + u = y * w + x := by rw [show v = y by omega, show u = x by omega]
        rw [e1] at n
        have hq := (f.own _ mi).1
        exact ha (((f.mks _ hq.1 hq.2).1 mi).symm.trans n)
      have f2 := f.more ha hp mi j0 j1 ⟨x, y, u, v, ⟨x0, x1, y0, y1⟩, ⟨by omega, by omega, by omega, by omega⟩, rfl, rfl, by omega, by omega, by omega, by omega, nc, by rcases hal with z | z | z; exact .inl z; exact .inr (.inl (by omega)); exact .inr (.inr (by omega))⟩ n e
      rw [w64 (x := u + 1) (by omega) (by omega)]
      refine ih (m.set (v * w + u).toNat a, out ++ [v * w + u]) (by omega) ⟨by omega, f2, by show t < ((out ++ [v * w + u] : List Int).length : Int); rw [List.length_append]; omega, ?_, ?_⟩
      · show rd (out ++ [v * w + u]) t = _
        rw [rd_append _ _ _ f.t0, if_neg (by omega)]
        exact ex
      · refine (g.more j0 hlt ha).next (fun _ _ _ _ _ _ => ?_)
        show rd (m.set (v * w + u).toNat a) (v * w + u) ≠ 0
        rw [rd_set m _ _ a j0 hlt j0, if_pos rfl]
        exact ha
    refine EvP.ite (fun z => no (.inl z)) (fun z5 => ?_)
    refine EvP.ite (fun z => no (.inr (.inl z))) (fun z6 => ?_)
    by_cases e : v = y
    · have eb : (v != y) = false := by rw [e]; simp
      rw [eb]
      exact no (.inr (.inr e))
    · have eb : (v != y) = true := by
        rw [bne_iff_ne]
        exact e
      rw [eb]
      exact yes (fun z => absurd z (by rintro (z | z | z); exact z5 z; exact z6 z; exact e z))
  · rw [w64 (x := v + 1) (by omega) (by omega)]
    refine hk m out f ht ex ?_
    intro u' v' a1 a2 a3 a4 a5 a6 a7 a8 a9 hc
    exact g u' v' a1 a2 a3 (by omega) a5 a6 a7 a8 a9 hc
theorem spread_l0 {w h : Int} {p : List Int} {c : Int} {m0 : List Int} {a s : Int} {U : Nat} {cor : Bool} (hw : 0 ≤ w) (hh : 0 ≤ h) (hw2 : w ≤ 1000) (hh2 : h ≤ 1000) (hp : (p.length : Int) = w * h) (hm : w * h ≤ 1000000) (hb : ∀ z ∈ p, 0 ≤ z ∧ z ≤ 255) (hU : U ≤ 1000000) (ha : a ≠ 0) (m out : List Int) (t : Int) (f : FR w h p (DD cor) c m0 a s U m out t) :
    EvP (fun k => incunableref15_spread.l0 k m a c cor out t w h p) (fun r => ∃ out : List Int, r.1 = (out.length : Int) ∧ FR w h p (DD cor) c m0 a s U r.2 out out.length) := by
  refine EvP.loop (L := fun k (x : List Int × List Int × Int) => incunableref15_spread.l0 k x.1 a c cor x.2.1 x.2.2 w h p) (fun x => FR w h p (DD cor) c m0 a s U x.1 x.2.1 x.2.2) (fun x => U - x.2.2.toNat) ?_ (m, out, t) f
  rintro ⟨m, out, t⟩ f ih
  have f : FR w h p (DD cor) c m0 a s U m out t := f
  have lo : out.length ≤ 1000000 := by have := f.cnt; omega
  refine EvP.step (fun k => by rw [incunableref15_spread.l0]) ?_
  refine EvP.ite (fun z => ?_) (fun z => EvP.ret ?_)
  · have z : t < (out.length : Int) := z
    obtain ⟨⟨q0, q1⟩, _⟩ := f.own _ (rd_mem f.t0 z)
    obtain ⟨w0, a1, a2, a3, a4, a5⟩ := flat_of hw q0 q1
    have ex : rd out t = (rd out t / w) * w + rd out t % w := a5.symm
    refine EvP.pos f.t0 (EvP.neg (by omega) ?_)
    show EvP (fun k => incunableref15_spread.l1 k m a c cor out t (Int.tmod (rd out t) w) (wrap64 (Int.tdiv (rd out t) w)) (wrap64 (wrap64 (Int.tdiv (rd out t) w) - 1)) w h p) _
    rw [tmod_pos q0, tdiv_pos q0]
    generalize rd out t / w = y at a3 a4 ex ⊢
    generalize rd out t % w = x at a1 a2 ex ⊢
    rw [w64 (x := y) (by omega) (by omega), w64 (x := y - 1) (by omega) (by omega)]
    refine EvP.up (L := fun k v (z : List Int × List Int) => incunableref15_spread.l1 k z.1 a c cor z.2 t x y v w h p) (fun v z => y - 1 ≤ v ∧ FR w h p (DD cor) c m0 a s U z.1 z.2 t ∧ t < (z.2.length : Int) ∧ rd z.2 t = y * w + x ∧ Win w h p c cor z.1 x y v (x - 1)) (y + 2) ?_ (y - 1) (m, out) (by omega) ⟨by omega, f, z, ex, fun u' v' b1 b2 b3 b4 => by omega⟩
    rintro v ⟨m, out⟩ ⟨v0, f, ht, ex, g⟩ hv ih2
    have f : FR w h p (DD cor) c m0 a s U m out t := f
    have ht : t < (out.length : Int) := ht
    have lo : out.length ≤ 1000000 := by have := f.cnt; omega
    refine EvP.step (fun k => by rw [incunableref15_spread.l1]) ?_
    rw [w64 (x := y + 1) (by omega) (by omega)]
    refine EvP.ite (fun v1 => ?_) (fun v1 => ?_)
    · rw [w64 (x := x - 1) (by omega) (by omega)]
      exact spread_l2 hw hh hw2 hh2 hp hm hb hU ha t x y ⟨a1, a2, a3, a4⟩ v v0 v1 (fun m' out' f' ht' ex' g' => ih2 (m', out') (by omega) ⟨by omega, f', ht', ex', g'⟩) m out f ht ex g
    · have ev : v = y + 2 := by omega
      subst ev
      have f2 := f.done ht ⟨a1, a2, a3, a4⟩ ex g
      have t0 := f.t0
      show EvP (fun k => incunableref15_spread.l0 k m a c cor out (wrap64 (t + 1)) w h p) _
      rw [w64 (x := t + 1) (by omega) (by omega)]
      refine ih (m, out, t + 1) f2 ?_
      have := f.cnt
      show U - (t + 1).toNat < U - t.toNat
      omega
  · have z : ¬ t < (out.length : Int) := z
    have e : t = (out.length : Int) := by have := f.t1; omega
    subst e
    exact ⟨out, rfl, f⟩
/-- The flood of the reference. -/
theorem spread_is {w h : Int} {p : List Int} {cor : Bool} (hw : 0 ≤ w) (hh : 0 ≤ h) (hw2 : w ≤ 1000) (hh2 : h ≤ 1000) (hp : (p.length : Int) = w * h) (hm : w * h ≤ 1000000) (hb : ∀ z ∈ p, 0 ≤ z ∧ z ≤ 255) (m : List Int) (hl : m.length = p.length) (s a c : Int) (ha : a ≠ 0) (s0 : 0 ≤ s) (s1 : s < w * h) (hc : rd p s = c) (hn : rd m s = 0) :
    EvP (fun k => incunableref15_spread.f k w h p m s a c cor) (fun r => ∃ out : List Int, r.1 = (out.length : Int) ∧ FR w h p (DD cor) c m a s (unz m) r.2 out out.length) := by
  have hlt : s < (m.length : Int) := by rw [hl, hp]; exact s1
  have hU : unz m ≤ 1000000 := by
    have : unz m ≤ m.length := List.count_le_length
    omega
  unfold incunableref15_spread.f
  refine EvP.pos s0 (EvP.pos hlt ?_)
  refine spread_l0 hw hh hw2 hh2 hp hm hb hU ha _ _ 0 ⟨by rw [List.length_set]; exact hl, ?_, ?_, ?_, by simp, by omega, by simp, fun n n0 n1 => by omega⟩
  · have := unz_set m s.toNat a (by omega) hn ha
    simp
    omega
  · intro e he
    have : e = s := by simpa using he
    subst this
    exact ⟨⟨s0, s1⟩, .refl ⟨s0, s1, hc⟩, hn⟩
  · intro j j0 j1
    rw [rd_set m s j a s0 hlt j0]
    by_cases e : j = s
    · subst e
      exact ⟨fun _ => if_pos rfl, fun z => absurd (by simp) z⟩
    · rw [if_neg e]
      exact ⟨fun z => absurd (by simpa using z) e, fun _ => rfl⟩

theorem DD_neg {cor : Bool} {dx dy : Int} (h : DD cor dx dy) : DD cor (-dx) (-dy) := by
  obtain ⟨a, b, c, d, e, f⟩ := h
  exact ⟨by omega, by omega, by omega, by omega, fun z => e ⟨by omega, by omega⟩, by rcases f with z | z | z; exact .inl z; exact .inr (.inl (by omega)); exact .inr (.inr (by omega))⟩
theorem adj_symm {w h : Int} {cor : Bool} (i j : Int) (a : adjD w h (DD cor) i j) : adjD w h (DD cor) j i := by
  obtain ⟨x, y, u, v, hx, hu, e1, e2, d⟩ := a
  refine ⟨u, v, x, y, hu, hx, e2, e1, ?_⟩
  have := DD_neg d
  rw [show -(u - x) = x - u by omega, show -(v - y) = y - v by omega] at this
  exact this
def fourL : List S66 := [⟨-1, 0⟩, ⟨1, 0⟩, ⟨0, -1⟩, ⟨0, 1⟩]
theorem four_stps : Stps fourL (DD false) := by
  refine ⟨by decide, fun b b0 b1 => ?_, fun dx dy d => ?_⟩
  · have b1 : b < 4 := b1
    rcases (show b = 0 ∨ b = 1 ∨ b = 2 ∨ b = 3 by omega) with rfl | rfl | rfl | rfl
    · exact ⟨by decide, by decide, by decide, by decide, by show DD false (-1) 0; unfold DD; omega⟩
    · exact ⟨by decide, by decide, by decide, by decide, by show DD false 1 0; unfold DD; omega⟩
    · exact ⟨by decide, by decide, by decide, by decide, by show DD false 0 (-1); unfold DD; omega⟩
    · exact ⟨by decide, by decide, by decide, by decide, by show DD false 0 1; unfold DD; omega⟩
  · obtain ⟨a, b, c, d, e, f⟩ := d
    have f : dx = 0 ∨ dy = 0 := by
      rcases f with z | z
      · cases z
      · exact z
    rcases (show (dx = -1 ∧ dy = 0) ∨ (dx = 1 ∧ dy = 0) ∨ (dx = 0 ∧ dy = -1) ∨ (dx = 0 ∧ dy = 1) by omega) with ⟨rfl, rfl⟩ | ⟨rfl, rfl⟩ | ⟨rfl, rfl⟩ | ⟨rfl, rfl⟩
    · exact ⟨0, by omega, by decide, rfl⟩
    · exact ⟨1, by omega, by decide, rfl⟩
    · exact ⟨2, by omega, by decide, rfl⟩
    · exact ⟨3, by omega, by decide, rfl⟩

def mixv (op a b : Int) : Int := if op = 0 then b else if op = 1 then (if a < b then b else a) else if op = 2 then (if b < a then b else a) else if op = 3 then (a + b) % 2 else (a + b + 1) % 2
theorem five {op : Int} (h0 : 0 ≤ op) (h1 : op ≤ 4) : op = 0 ∨ op = 1 ∨ op = 2 ∨ op = 3 ∨ op = 4 := by omega
theorem bit {a : Int} (h0 : 0 ≤ a) (h1 : a ≤ 1) : a = 0 ∨ a = 1 := by omega
theorem mix_01 {op a b : Int} (h0 : 0 ≤ op) (h1 : op ≤ 4) (a0 : 0 ≤ a) (a1 : a ≤ 1) (b0 : 0 ≤ b) (b1 : b ≤ 1) : 0 ≤ mixv op a b ∧ mixv op a b ≤ 1 := by
  rcases five h0 h1 with rfl | rfl | rfl | rfl | rfl <;> rcases bit a0 a1 with rfl | rfl <;> rcases bit b0 b1 with rfl | rfl <;> decide +kernel
theorem mix3 {a b : Int} (a0 : 0 ≤ a) (a1 : a ≤ 1) (b0 : 0 ≤ b) (b1 : b ≤ 1) : mixv 3 (mixv 3 a b) b = a := by
  rcases bit a0 a1 with rfl | rfl <;> rcases bit b0 b1 with rfl | rfl <;> decide +kernel
theorem mix3_ne {a b : Int} (a0 : 0 ≤ a) (a1 : a ≤ 1) (b0 : 0 ≤ b) (b1 : b ≤ 1) : mixv 3 a b = if a = b then 0 else 1 := by
  rcases bit a0 a1 with rfl | rfl <;> rcases bit b0 b1 with rfl | rfl <;> decide +kernel
theorem mix1_zero {b : Int} (b0 : 0 ≤ b) (b1 : b ≤ 1) : mixv 1 0 b = b := by
  rcases bit b0 b1 with rfl | rfl <;> decide +kernel
theorem mix0 (a b : Int) : mixv 0 a b = b := rfl

instance (w h : Int) (p : List Int) : Decidable (Val w h p) := by unfold Val; exact inferInstance
theorem sid_mul {w h : Int} (hw : 0 ≤ w) (hh : 0 ≤ h) (hw' : w ≤ 200) (hh' : h ≤ 200) : 0 ≤ w * h ∧ w * h ≤ 40000 := by
  have h1 : 0 ≤ w * h := Int.mul_nonneg hw hh
  have h2 : w * h ≤ 200 * h := Int.mul_le_mul_of_nonneg_right hw' hh
  omega

/-- What is drawn. -/
def drawG (g : Int → Int → Int) (w' h' : Int) (s : List Int) (x y op : Int) : Int → Int → Int := fun u t => if 0 ≤ u - x ∧ u - x < w' ∧ 0 ≤ t - y ∧ t - y < h' then mixv op (g u t) (pix w' h' s (u - x) (t - y)) else g u t
def Shf (x y : Int) : Prop := -100000 ≤ x ∧ x ≤ 100000 ∧ -100000 ≤ y ∧ y ≤ 100000
instance (x y : Int) : Decidable (Shf x y) := by unfold Shf; exact inferInstance
def drawR (w h : Int) (p : List Int) (w' h' : Int) (s : List Int) (x y op : Int) : Int × Int × List Int × Int :=
  if ¬ (Val w h p ∧ Val w' h' s) then (0, 0, [], 30) else if op < 0 ∨ op > 4 ∨ ¬ Shf x y then (0, 0, [], 2) else (w, h, tab w h (drawG (pix w h p) w' h' s x y op), 0)
theorem drawG_01 {g : Int → Int → Int} {w' h' : Int} {s : List Int} {x y op : Int} (v : Val w' h' s) (h0 : 0 ≤ op) (h1 : op ≤ 4) {u t : Int} (hg : 0 ≤ g u t ∧ g u t ≤ 1) : 0 ≤ drawG g w' h' s x y op u t ∧ drawG g w' h' s x y op u t ≤ 1 := by
  unfold drawG
  split
  · have b := v.pix01 (u - x) (t - y)
    exact mix_01 h0 h1 hg.1 hg.2 b.1 b.2
  · exact hg

/-- The numbers of a list are those of bytes. -/
def Byt (p : List Int) : Prop := ∀ x ∈ p, 0 ≤ x ∧ x ≤ 255
theorem val_byt {w h : Int} {p : List Int} (v : Val w h p) : Byt p := fun x hx => ⟨(v.2.2.2.2.2.2 x hx).1, by have := (v.2.2.2.2.2.2 x hx).2; omega⟩

/-- A part of a bitmap. -/
def partG (w h : Int) (p : List Int) (x y : Int) : Int → Int → Int := fun u t => pix w h p (x + u) (y + t)
def cutR (w h : Int) (p : List Int) (x y w' h' : Int) : Int × Int × List Int × Int :=
  if ¬ Val w h p then (0, 0, [], 30) else if w' < 0 ∨ h' < 0 ∨ ¬ Shf x y then (0, 0, [], 2) else if Sid w' h' then (w', h', tab w' h' (partG w h p x y), 0) else (0, 0, [], 4)
theorem part_val {w h : Int} {p : List Int} {x y w' h' : Int} (v : Val w h p) (s : Sid w' h') : Val w' h' (tab w' h' (partG w h p x y)) := val_tab s (fun _ _ _ _ _ _ => v.pix01 _ _)
theorem nil_byt' : Byt [] := fun x hx => by simp at hx
theorem cutR_byt (w h : Int) (p : List Int) (x y w' h' : Int) : Byt (cutR w h p x y w' h').2.2.1 := by
  unfold cutR
  by_cases a : Val w h p
  · rw [if_neg (c := ¬ Val w h p) (fun q => q a)]
    split
    · exact nil_byt'
    · split
      · rename_i s
        exact val_byt (part_val a s)
      · exact nil_byt'
  · rw [if_pos a]
    exact nil_byt'
theorem cutR_ok {w h : Int} {p : List Int} {x y w' h' : Int} (e : (cutR w h p x y w' h').2.2.2 = 0) : Val w h p ∧ Shf x y ∧ Sid w' h' ∧ cutR w h p x y w' h' = (w', h', tab w' h' (partG w h p x y), 0) := by
  unfold cutR at e ⊢
  by_cases a : Val w h p
  · rw [if_neg (c := ¬ Val w h p) (fun q => q a)] at e ⊢
    by_cases b : w' < 0 ∨ h' < 0 ∨ ¬ Shf x y
    · rw [if_pos b] at e
      exact absurd e (by decide)
    · rw [if_neg b] at e ⊢
      by_cases c : Sid w' h'
      · rw [if_pos c]
        exact ⟨a, Classical.not_not.mp (fun q => b (.inr (.inr q))), c, rfl⟩
      · rw [if_neg c] at e
        exact absurd e (by decide)
  · rw [if_pos a] at e
    exact absurd e (by decide)
theorem cutR_all {w h : Int} {p : List Int} (v : Val w h p) : cutR w h p 0 0 w h = (w, h, p, 0) := by
  unfold cutR
  rw [if_neg (c := ¬ Val w h p) (fun q => q v), if_neg (by intro q; rcases q with q | q | q; exact absurd v.1 (by omega); exact absurd v.2.1 (by omega); exact q (by unfold Shf; omega)), if_pos v.sid]
  have e : tab w h (partG w h p 0 0) = p := by
    refine Eq.trans (tab_congr v.1 v.2.1 (fun u t a b c d => ?_)) v.tab.symm
    unfold partG
    rw [Int.zero_add, Int.zero_add]
  rw [e]

def mnv (a b : Int) : Int := if b < a then b else a
def mxv (a b : Int) : Int := if a < b then b else a
/-- The box of the black pixels, one pixel more. -/
def stp (w : Int) (p : List Int) (i : Int) (s : Int × Int × Int × Int) : Int × Int × Int × Int := if rd p i = 1 then (mnv s.1 (i % w), mnv s.2.1 (i / w), mxv s.2.2.1 (i % w), mxv s.2.2.2 (i / w)) else s
def trf (w h : Int) (p : List Int) : Nat → Int × Int × Int × Int
  | 0 => (w, h, -1, -1)
  | n + 1 => stp w p (n : Int) (trf w h p n)
/-- What is known of the box of the first n pixels. -/
def Box (w h : Int) (p : List Int) (n : Nat) (s : Int × Int × Int × Int) : Prop :=
  (s = (w, h, -1, -1) ∧ ∀ i : Int, 0 ≤ i → i < n → rd p i ≠ 1) ∨
  (0 ≤ s.1 ∧ s.1 ≤ s.2.2.1 ∧ s.2.2.1 < w ∧ 0 ≤ s.2.1 ∧ s.2.1 ≤ s.2.2.2 ∧ s.2.2.2 < h ∧ ∀ i : Int, 0 ≤ i → i < n → rd p i = 1 → s.1 ≤ i % w ∧ i % w ≤ s.2.2.1 ∧ s.2.1 ≤ i / w ∧ i / w ≤ s.2.2.2)
theorem trf_box {w h : Int} {p : List Int} (hw : 0 ≤ w) : ∀ n : Nat, (n : Int) ≤ w * h → Box w h p n (trf w h p n)
  | 0, _ => .inl ⟨rfl, fun i a b => by omega⟩
  | n + 1, hn => by
    have ih := trf_box (h := h) (p := p) hw n (by omega)
    obtain ⟨hw', a, b, c, d, _⟩ := flat_of (w := w) (h := h) (i := (n : Int)) hw (by omega) (by omega)
    show Box w h p (n + 1) (stp w p n (trf w h p n))
    unfold stp
    by_cases e : rd p n = 1
    · rw [if_pos e]
      rcases ih with ⟨e1, e2⟩ | ⟨q1, q2, q3, q4, q5, q6, q7⟩
      · right
        rw [e1]
        unfold mnv mxv
        refine ⟨?_, ?_, ?_, ?_, ?_, ?_, ?_⟩
        · show 0 ≤ (if (n : Int) % w < w then (n : Int) % w else w); split <;> omega
        · show (if (n : Int) % w < w then (n : Int) % w else w) ≤ (if -1 < (n : Int) % w then (n : Int) % w else -1); split <;> split <;> omega
        · show (if -1 < (n : Int) % w then (n : Int) % w else -1) < w; split <;> omega
        · show 0 ≤ (if (n : Int) / w < h then (n : Int) / w else h); split <;> omega
        · show (if (n : Int) / w < h then (n : Int) / w else h) ≤ (if -1 < (n : Int) / w then (n : Int) / w else -1); split <;> split <;> omega
        · show (if -1 < (n : Int) / w then (n : Int) / w else -1) < h; split <;> omega
        · intro i i0 i1 hi
          have : i = n := by
            rcases Int.lt_or_le i n with z | z
            · exact absurd hi (e2 i i0 z)
            · omega
          subst this
          refine ⟨?_, ?_, ?_, ?_⟩
          · show (if (n : Int) % w < w then (n : Int) % w else w) ≤ _; split <;> omega
          · show _ ≤ (if -1 < (n : Int) % w then (n : Int) % w else -1); split <;> omega
          · show (if (n : Int) / w < h then (n : Int) / w else h) ≤ _; split <;> omega
          · show _ ≤ (if -1 < (n : Int) / w then (n : Int) / w else -1); split <;> omega
      · right
        generalize trf w h p n = s at q1 q2 q3 q4 q5 q6 q7
        unfold mnv mxv
        refine ⟨?_, ?_, ?_, ?_, ?_, ?_, ?_⟩
        · show 0 ≤ (if (n : Int) % w < s.1 then (n : Int) % w else s.1); split <;> omega
        · show (if (n : Int) % w < s.1 then (n : Int) % w else s.1) ≤ (if s.2.2.1 < (n : Int) % w then (n : Int) % w else s.2.2.1); split <;> split <;> omega
        · show (if s.2.2.1 < (n : Int) % w then (n : Int) % w else s.2.2.1) < w; split <;> omega
        · show 0 ≤ (if (n : Int) / w < s.2.1 then (n : Int) / w else s.2.1); split <;> omega
        · show (if (n : Int) / w < s.2.1 then (n : Int) / w else s.2.1) ≤ (if s.2.2.2 < (n : Int) / w then (n : Int) / w else s.2.2.2); split <;> split <;> omega
        · show (if s.2.2.2 < (n : Int) / w then (n : Int) / w else s.2.2.2) < h; split <;> omega
        · intro i i0 i1 hi
          have hb : i = n ∨ (s.1 ≤ i % w ∧ i % w ≤ s.2.2.1 ∧ s.2.1 ≤ i / w ∧ i / w ≤ s.2.2.2) := by
            rcases Int.lt_or_le i n with z | z
            · exact .inr (q7 i i0 z hi)
            · left; omega
          refine ⟨?_, ?_, ?_, ?_⟩
          · show (if (n : Int) % w < s.1 then (n : Int) % w else s.1) ≤ _
            rcases hb with rfl | hb <;> split <;> omega
          · show _ ≤ (if s.2.2.1 < (n : Int) % w then (n : Int) % w else s.2.2.1)
            rcases hb with rfl | hb <;> split <;> omega
          · show (if (n : Int) / w < s.2.1 then (n : Int) / w else s.2.1) ≤ _
            rcases hb with rfl | hb <;> split <;> omega
          · show _ ≤ (if s.2.2.2 < (n : Int) / w then (n : Int) / w else s.2.2.2)
            rcases hb with rfl | hb <;> split <;> omega
    · rw [if_neg e]
      rcases ih with ⟨e1, e2⟩ | ⟨q1, q2, q3, q4, q5, q6, q7⟩
      · left
        refine ⟨e1, fun i a b hi => ?_⟩
        rcases Int.lt_or_le i n with z | z
        · exact e2 i a z hi
        · have : i = n := by omega
          subst this
          exact e hi
      · right
        refine ⟨q1, q2, q3, q4, q5, q6, fun i a b hi => ?_⟩
        rcases Int.lt_or_le i n with z | z
        · exact q7 i a z hi
        · have : i = n := by omega
          subst this
          exact absurd hi e
/-- The box of all black pixels. -/
def trb (w h : Int) (p : List Int) : Int × Int × Int × Int := trf w h p (w * h).toNat
theorem trb_box {w h : Int} {p : List Int} (hw : 0 ≤ w) (hh : 0 ≤ h) : Box w h p (w * h).toNat (trb w h p) :=
  trf_box hw _ (by have := Int.mul_nonneg hw hh; omega)
def trimT (w h : Int) (p : List Int) (s : Int × Int × Int × Int) : Int × Int × List Int × Int × Int × Int :=
  if s.2.2.1 < 0 then (0, 0, [], 0, 0, 0) else (s.2.2.1 - s.1 + 1, s.2.2.2 - s.2.1 + 1, tab (s.2.2.1 - s.1 + 1) (s.2.2.2 - s.2.1 + 1) (partG w h p s.1 s.2.1), s.1, s.2.1, 0)
def trimR (w h : Int) (p : List Int) : Int × Int × List Int × Int × Int × Int := if Val w h p then trimT w h p (trb w h p) else (0, 0, [], 0, 0, 30)
theorem box_sid {w h : Int} {p : List Int} (s : Sid w h) {n : Nat} {b : Int × Int × Int × Int} (hb : Box w h p n b) (hr : ¬ b.2.2.1 < 0) :
    Sid (b.2.2.1 - b.1 + 1) (b.2.2.2 - b.2.1 + 1) ∧ 0 ≤ b.1 ∧ 0 ≤ b.2.1 ∧ b.1 ≤ 200 ∧ b.2.1 ≤ 200 ∧ b.2.2.1 < w ∧ b.2.2.2 < h ∧ b.1 ≤ b.2.2.1 ∧ b.2.1 ≤ b.2.2.2 := by
  obtain ⟨s1, s2, s3, s4, s5⟩ := s
  rcases hb with ⟨e, _⟩ | ⟨q1, q2, q3, q4, q5, q6, _⟩
  · rw [e] at hr
    exact absurd (by decide : (-1 : Int) < 0) hr
  · have h1 : (b.2.2.1 - b.1 + 1) * (b.2.2.2 - b.2.1 + 1) ≤ w * (b.2.2.2 - b.2.1 + 1) := Int.mul_le_mul_of_nonneg_right (by omega) (by omega)
    have h2 : w * (b.2.2.2 - b.2.1 + 1) ≤ w * h := Int.mul_le_mul_of_nonneg_left (by omega) s1
    exact ⟨⟨by omega, by omega, by omega, by omega, by omega⟩, by omega, by omega, by omega, by omega, by omega, by omega, by omega, by omega⟩
theorem trimR_byt {w h : Int} {p : List Int} : Byt (trimR w h p).2.2.1 := by
  unfold trimR
  by_cases v : Val w h p
  · rw [if_pos v]
    unfold trimT
    by_cases r : (trb w h p).2.2.1 < 0
    · rw [if_pos r]
      exact fun x hx => by simp at hx
    · rw [if_neg r]
      exact val_byt (part_val v (box_sid v.sid (trb_box v.1 v.2.1) r).1)
  · rw [if_neg v]
    exact fun x hx => by simp at hx

theorem refSame_is (w h : Int) (p : List Int) (w' h' : Int) (p' : List Int) (hp : Byt p) (hp' : Byt p') : incunableref05_Same.f w h p w' h' p' = some (decide (w = w' ∧ h = h' ∧ p = p')) := by
  unfold incunableref05_Same.f
  rw [strOfNums_eq hp hp']
  by_cases a : w = w'
  · by_cases b : h = h'
    · simp [a, b]
    · simp [a, b]
  · simp [a]

theorem wf_byt {p : List Int} (h : ∀ y ∈ p, (Lit.int .u8 y).wf = true) : Byt p := fun x hx => by
  have h1 : (decide (IntKind.u8.min ≤ x) && decide (x ≤ IntKind.u8.max)) = true := h x hx
  obtain ⟨a, b⟩ := Bool.and_eq_true_iff.mp h1
  exact ⟨of_decide_eq_true a, of_decide_eq_true b⟩
theorem wf_i64 {x : Int} (h : (Lit.int .i64 x).wf = true) : -9223372036854775808 ≤ x ∧ x ≤ 9223372036854775807 := by
  have h1 : (decide (IntKind.i64.min ≤ x) && decide (x ≤ IntKind.i64.max)) = true := h
  obtain ⟨a, b⟩ := Bool.and_eq_true_iff.mp h1
  exact ⟨of_decide_eq_true a, of_decide_eq_true b⟩

def VP (b : S48) : Prop := Val b.f0.f0 b.f0.f1 b.f0.f2
instance (b : S48) : Decidable (VP b) := by unfold VP; exact inferInstance
def NP (b : S48) : Prop := Shf b.f1 b.f2
instance (b : S48) : Decidable (NP b) := by unfold NP; exact inferInstance
def CP (b : S48) : Prop := (∀ z ∈ b.f0.f2, 0 ≤ z) ∧ (b.f0.f2.length : Int) ≤ 9223372036854775807
/-- A placed shape's pixel. -/
def plc (b : S48) (u t : Int) : Int := pix b.f0.f0 b.f0.f1 b.f0.f2 (u - b.f1) (t - b.f2)
/-- What is black in one of them. -/
def orL (l : List S48) (u t : Int) : Int := if (l.any fun b => decide (plc b u t = 1)) = true then 1 else 0
theorem orL_01 (l : List S48) (u t : Int) : 0 ≤ orL l u t ∧ orL l u t ≤ 1 := by
  unfold orL
  split <;> omega
theorem orL_snoc {l : List S48} {b : S48} (v : VP b) (u t : Int) : orL (l ++ [b]) u t = drawG (orL l) b.f0.f0 b.f0.f1 b.f0.f2 b.f1 b.f2 1 u t := by
  have h01 := v.pix01 (u - b.f1) (t - b.f2)
  have e : orL (l ++ [b]) u t = if plc b u t = 1 then 1 else orL l u t := by
    unfold orL
    rw [List.any_append]
    by_cases q : plc b u t = 1
    · rw [if_pos q]
      simp [q]
    · rw [if_neg q]
      simp [q]
  rw [e]
  have ho := orL_01 l u t
  by_cases c : 0 ≤ u - b.f1 ∧ u - b.f1 < b.f0.f0 ∧ 0 ≤ t - b.f2 ∧ t - b.f2 < b.f0.f1
  · rw [show drawG (orL l) b.f0.f0 b.f0.f1 b.f0.f2 b.f1 b.f2 1 u t = mixv 1 (orL l u t) (plc b u t) from if_pos c]
    have h01 : 0 ≤ plc b u t ∧ plc b u t ≤ 1 := h01
    generalize plc b u t = x at *
    generalize orL l u t = y at *
    have hx : x = 0 ∨ x = 1 := by omega
    have hy : y = 0 ∨ y = 1 := by omega
    rcases hx with rfl | rfl <;> rcases hy with rfl | rfl <;> decide +kernel
  · rw [show drawG (orL l) b.f0.f0 b.f0.f1 b.f0.f2 b.f1 b.f2 1 u t = orL l u t from if_neg c]
    have : plc b u t = 0 := pix_out c
    rw [if_neg (by omega)]
theorem rd48_mem {l : List S48} {i : Int} (h0 : 0 ≤ i) (h1 : i < (l.length : Int)) : rd_T48 l i ∈ l := by
  have : i.toNat < l.length := by omega
  simp only [rd_T48, List.getD, List.getElem?_eq_getElem this]
  exact List.getElem_mem _
theorem take48 {l : List S48} {i : Int} (h0 : 0 ≤ i) (h1 : i < (l.length : Int)) : l.take (i + 1).toNat = l.take i.toNat ++ [rd_T48 l i] := by
  have h : i.toNat < l.length := by omega
  rw [show (i + 1).toNat = i.toNat + 1 by omega, List.take_add_one]
  simp [rd_T48, List.getD, h]
/-- What Draw returns. -/
def drQ (w h : Int) (l : List S48) : Int × Int × List Int × Int := if ¬ Sid w h ∨ ∃ b ∈ l, ¬ VP b then (0, 0, [], 30) else if ∃ b ∈ l, ¬ NP b then (0, 0, [], 2) else (w, h, tab w h (orL l), 0)
theorem drQ_byt (w h : Int) (l : List S48) : Byt (drQ w h l).2.2.1 := by
  unfold drQ
  split
  · intro x hx; cases hx
  · rename_i q
    split
    · intro x hx; cases hx
    · exact val_byt (val_tab (Classical.not_not.mp (fun z => q (.inl z))) (fun u t _ _ _ _ => orL_01 l u t))
theorem draw_step {w h : Int} {l : List S48} {b : S48} (s : Sid w h) (v : VP b) : tab w h (drawG (pix w h (tab w h (orL l))) b.f0.f0 b.f0.f1 b.f0.f2 b.f1 b.f2 1) = tab w h (orL (l ++ [b])) := by
  refine tab_congr s.1 s.2.1 (fun u t a c d e => ?_)
  rw [orL_snoc v]
  have e2 : pix w h (tab w h (orL l)) u t = orL l u t := by rw [pix_tab, if_pos ⟨a, c, d, e⟩]
  unfold drawG
  rw [e2]

section
open Classical
def blk8 (w h : Int) (p : List Int) : Int → Prop := colS w h p 1
/-- Black, and come to by steps in eight directions. -/
def R8 (w h : Int) (p : List Int) : Int → Int → Prop := Rch (adjD w h (DD true)) (blk8 w h p)
theorem R8_symm {w h : Int} {p : List Int} {i j : Int} (a : R8 w h p i j) : R8 w h p j i := Rch.symm adj_symm a
/-- The first place of a component. -/
def rt (w h : Int) (p : List Int) (i : Int) : Prop := blk8 w h p i ∧ ∀ k : Int, 0 ≤ k → k < i → ¬ R8 w h p k i
noncomputable def rts (w h : Int) (p : List Int) : Nat → List Int
  | 0 => []
  | n + 1 => if rt w h p n then rts w h p n ++ [(n : Int)] else rts w h p n
theorem rts_s (w h : Int) (p : List Int) (n : Nat) : rts w h p (n + 1) = if rt w h p n then rts w h p n ++ [(n : Int)] else rts w h p n := rfl
theorem rts_mem {w h : Int} {p : List Int} (j : Int) : ∀ n : Nat, j ∈ rts w h p n ↔ 0 ≤ j ∧ j < n ∧ rt w h p j
  | 0 => by
    simp [rts]
    omega
  | n + 1 => by
    rw [rts_s]
    have ih := rts_mem (w := w) (h := h) (p := p) j n
    by_cases c : rt w h p n
    · rw [if_pos c, List.mem_append, ih, List.mem_singleton]
      constructor
      · rintro (⟨a, b, d⟩ | rfl)
        · exact ⟨a, by omega, d⟩
        · exact ⟨by omega, by omega, c⟩
      · rintro ⟨a, b, d⟩
        by_cases e : j = n
        · exact .inr e
        · exact .inl ⟨a, by omega, d⟩
    · rw [if_neg c, ih]
      constructor
      · rintro ⟨a, b, d⟩
        exact ⟨a, by omega, d⟩
      · rintro ⟨a, b, d⟩
        refine ⟨a, ?_, d⟩
        rcases (show j = n ∨ j < n by omega) with e | e
        · subst e; exact absurd d c
        · exact e
theorem rts_len (w h : Int) (p : List Int) : ∀ n : Nat, (rts w h p n).length ≤ n
  | 0 => Nat.le_refl _
  | n + 1 => by
    have := rts_len w h p n
    rw [rts_s]
    split
    · rw [List.length_append]; simp; omega
    · omega
theorem rt_of {w h : Int} {p : List Int} : ∀ (n : Nat) (k j : Int), k.toNat < n → R8 w h p k j → ∃ r, 0 ≤ r ∧ r ≤ k ∧ rt w h p r ∧ R8 w h p r j
  | 0, k, j, h0, r => by omega
  | n + 1, k, j, h0, r => by
    have k0 := r.left.1
    by_cases c : rt w h p k
    · exact ⟨k, k0, Int.le_refl _, c, r⟩
    · have : ∃ k' : Int, 0 ≤ k' ∧ k' < k ∧ R8 w h p k' k := by
        refine byContradiction fun q => c ⟨r.left, fun k' a b z => q ⟨k', a, b, z⟩⟩
      obtain ⟨k', a, b, z⟩ := this
      obtain ⟨r', e1, e2, e3, e4⟩ := rt_of n k' j (by omega) (z.trans r)
      exact ⟨r', e1, by omega, e3, e4⟩
theorem rt_eq {w h : Int} {p : List Int} {r s : Int} (a : rt w h p r) (b : rt w h p s) (c : R8 w h p r s) : r = s := by
  rcases Int.lt_trichotomy r s with q | q | q
  · exact absurd c (b.2 r a.1.1 q)
  · exact q
  · exact absurd (R8_symm c) (a.2 s b.1.1 q)
theorem rts_mono {w h : Int} {p : List Int} {a : Nat} : ∀ b : Nat, (rts w h p a).length ≤ (rts w h p (a + b)).length
  | 0 => Nat.le_refl _
  | b + 1 => by
    have := rts_mono (w := w) (h := h) (p := p) (a := a) b
    rw [show a + (b + 1) = (a + b) + 1 from rfl, rts_s]
    split
    · rw [List.length_append]; omega
    · exact this
theorem rts_lt {w h : Int} {p : List Int} {r s : Int} (a : rt w h p r) (l : r < s) : (rts w h p r.toNat).length < (rts w h p s.toNat).length := by
  have r0 := a.1.1
  have e := rts_mono (w := w) (h := h) (p := p) (a := r.toNat + 1) (s.toNat - (r.toNat + 1))
  rw [show r.toNat + 1 + (s.toNat - (r.toNat + 1)) = s.toNat by omega, rts_s, if_pos (by rw [show ((r.toNat : Nat) : Int) = r by omega]; exact a), List.length_append] at e
  simp at e
  omega
theorem rts_inj {w h : Int} {p : List Int} {r s : Int} (a : rt w h p r) (b : rt w h p s) (e : (rts w h p r.toNat).length = (rts w h p s.toNat).length) : r = s := by
  rcases Int.lt_trichotomy r s with q | q | q
  · have := rts_lt a q; omega
  · exact q
  · have := rts_lt b q; omega
/-- The first roots of a longer list. -/
theorem rts_take {w h : Int} {p : List Int} {a : Nat} : ∀ b : Nat, ∃ l, rts w h p (a + b) = rts w h p a ++ l
  | 0 => ⟨[], by simp⟩
  | b + 1 => by
    obtain ⟨l, e⟩ := rts_take (w := w) (h := h) (p := p) (a := a) b
    rw [show a + (b + 1) = (a + b) + 1 from rfl, rts_s, e]
    split
    · exact ⟨l ++ [((a + b : Nat) : Int)], by rw [List.append_assoc]⟩
    · exact ⟨l, rfl⟩
/-- A box that is tight about some places. -/
structure TB (S : Int → Int → Prop) (l t r b : Int) : Prop where
  all : ∀ x y, S x y → l ≤ x ∧ x ≤ r ∧ t ≤ y ∧ y ≤ b
  le : ∃ y, S l y
  tp : ∃ x, S x t
  ri : ∃ y, S r y
  bo : ∃ x, S x b
theorem TB.uniq {S : Int → Int → Prop} {l t r b l' t' r' b' : Int} (f : TB S l t r b) (g : TB S l' t' r' b') : l = l' ∧ t = t' ∧ r = r' ∧ b = b' := by
  obtain ⟨y1, a1⟩ := f.le
  obtain ⟨x1, a2⟩ := f.tp
  obtain ⟨y2, a3⟩ := f.ri
  obtain ⟨x2, a4⟩ := f.bo
  obtain ⟨y3, b1⟩ := g.le
  obtain ⟨x3, b2⟩ := g.tp
  obtain ⟨y4, b3⟩ := g.ri
  obtain ⟨x4, b4⟩ := g.bo
  have c1 := g.all _ _ a1
  have c2 := g.all _ _ a2
  have c3 := g.all _ _ a3
  have c4 := g.all _ _ a4
  have d1 := f.all _ _ b1
  have d2 := f.all _ _ b2
  have d3 := f.all _ _ b3
  have d4 := f.all _ _ b4
  omega
noncomputable def ind (S : Int → Int → Prop) : Int → Int → Int := fun x y => if S x y then 1 else 0
theorem ind_01 (S : Int → Int → Prop) (x y : Int) : 0 ≤ ind S x y ∧ ind S x y ≤ 1 := by
  unfold ind
  split <;> omega
theorem ind_1 {S : Int → Int → Prop} {x y : Int} : ind S x y = 1 ↔ S x y := by
  unfold ind
  by_cases q : S x y
  · rw [if_pos q]; exact ⟨fun _ => q, fun _ => rfl⟩
  · rw [if_neg q]; exact ⟨fun z => by omega, fun z => absurd z q⟩
noncomputable def boxP (S : Int → Int → Prop) (l t r b : Int) : S48 := ⟨⟨r - l + 1, b - t + 1, tab (r - l + 1) (b - t + 1) (fun u v => ind S (l + u) (t + v))⟩, l, t⟩
/-- The least bitmap of some places. -/
def CmpOf (S : Int → Int → Prop) (c : S48) : Prop := ∃ l t r b, TB S l t r b ∧ c = boxP S l t r b
theorem CmpOf.uniq {S : Int → Int → Prop} {c d : S48} (f : CmpOf S c) (g : CmpOf S d) : c = d := by
  obtain ⟨l, t, r, b, f, rfl⟩ := f
  obtain ⟨l', t', r', b', g, rfl⟩ := g
  obtain ⟨rfl, rfl, rfl, rfl⟩ := f.uniq g
  rfl
/-- The places of a component. -/
def SP (w h : Int) (p : List Int) (i x y : Int) : Prop := (0 ≤ x ∧ x < w ∧ 0 ≤ y ∧ y < h) ∧ R8 w h p i (y * w + x)
noncomputable def mskL (w h : Int) (p : List Int) (i : Int) : List Int := tab w h (ind (SP w h p i))
noncomputable def cmpP (w h : Int) (p : List Int) (i : Int) : S48 := ⟨⟨(trimR w h (mskL w h p i)).1, (trimR w h (mskL w h p i)).2.1, (trimR w h (mskL w h p i)).2.2.1⟩, (trimR w h (mskL w h p i)).2.2.2.1, (trimR w h (mskL w h p i)).2.2.2.2.1⟩
theorem trf_tight {w h : Int} {q : List Int} : ∀ n : Nat, (∀ i : Int, 0 ≤ i → i < n → rd q i ≠ 1) ∨
    ((∃ i : Int, 0 ≤ i ∧ i < n ∧ rd q i = 1 ∧ i % w = (trf w h q n).1) ∧ (∃ i : Int, 0 ≤ i ∧ i < n ∧ rd q i = 1 ∧ i / w = (trf w h q n).2.1) ∧ (∃ i : Int, 0 ≤ i ∧ i < n ∧ rd q i = 1 ∧ i % w = (trf w h q n).2.2.1) ∧ (∃ i : Int, 0 ≤ i ∧ i < n ∧ rd q i = 1 ∧ i / w = (trf w h q n).2.2.2)) ∨ w * h < n ∨ w < 0
  | 0 => .inl (fun i a b => by omega)
  | n + 1 => by
    by_cases big : w * h < ((n + 1 : Nat) : Int)
    · exact .inr (.inr (.inl big))
    by_cases neg : w < 0
    · exact .inr (.inr (.inr neg))
    have ih := trf_tight (w := w) (h := h) (q := q) n
    have es : trf w h q (n + 1) = stp w q (n : Int) (trf w h q n) := rfl
    obtain ⟨hw', a, b, c, d, _⟩ := flat_of (w := w) (h := h) (i := (n : Int)) (by omega) (by omega) (by omega)
    by_cases e : rd q n = 1
    · right; left
      rw [es]
      unfold stp
      rw [if_pos e]
      have me : ∀ f : Int → Int, ∃ i : Int, 0 ≤ i ∧ i < ((n + 1 : Nat) : Int) ∧ rd q i = 1 ∧ f i = f n := fun f => ⟨n, by omega, by omega, e, rfl⟩
      rcases ih with ih | ⟨i1, i2, i3, i4⟩ | ih | ih
      · have e0 : trf w h q n = (w, h, -1, -1) := by
          rcases trf_box (w := w) (h := h) (p := q) (by omega) n (by omega) with z | ⟨z1, z2, z3, z4, z5, z6, z7⟩
          · exact z.1
          · have : ∀ m : Nat, m ≤ n → trf w h q m = (w, h, -1, -1) := by
              intro m
              induction m with
              | zero => intro _; rfl
              | succ m ihm =>
                intro hm
                show stp w q (m : Int) (trf w h q m) = _
                unfold stp
                rw [if_neg (ih m (by omega) (by omega)), ihm (by omega)]
            exact this n (Nat.le_refl _)
        rw [e0]
        unfold mnv mxv
        dsimp only
        refine ⟨?_, ?_, ?_, ?_⟩
        · rw [if_pos (by omega)]; exact me (· % w)
        · rw [if_pos (by omega)]; exact me (· / w)
        · rw [if_pos (by omega)]; exact me (· % w)
        · rw [if_pos (by omega)]; exact me (· / w)
      · have up : ∀ (f : Int → Int) (v : Int), (∃ i : Int, 0 ≤ i ∧ i < n ∧ rd q i = 1 ∧ f i = v) → ∃ i : Int, 0 ≤ i ∧ i < ((n + 1 : Nat) : Int) ∧ rd q i = 1 ∧ f i = v := fun f v ⟨i, x1, x2, x3, x4⟩ => ⟨i, x1, by omega, x3, x4⟩
        unfold mnv mxv
        dsimp only
        refine ⟨?_, ?_, ?_, ?_⟩
        · split
          · exact me (· % w)
          · exact up (· % w) _ i1
        · split
          · exact me (· / w)
          · exact up (· / w) _ i2
        · split
          · exact me (· % w)
          · exact up (· % w) _ i3
        · split
          · exact me (· / w)
          · exact up (· / w) _ i4
      · omega
      · omega
    · rw [es]
      unfold stp
      rw [if_neg e]
      rcases ih with ih | ⟨i1, i2, i3, i4⟩ | ih | ih
      · left
        intro i a b
        by_cases z : i = n
        · subst z; exact e
        · exact ih i a (by omega)
      · right; left
        have up : ∀ (f : Int → Int) (v : Int), (∃ i : Int, 0 ≤ i ∧ i < n ∧ rd q i = 1 ∧ f i = v) → ∃ i : Int, 0 ≤ i ∧ i < ((n + 1 : Nat) : Int) ∧ rd q i = 1 ∧ f i = v := fun f v ⟨i, x1, x2, x3, x4⟩ => ⟨i, x1, by omega, x3, x4⟩
        exact ⟨up (· % w) _ i1, up (· / w) _ i2, up (· % w) _ i3, up (· / w) _ i4⟩
      · omega
      · omega
theorem cmp_of {w h : Int} {p : List Int} (v : Val w h p) {i : Int} (hi : blk8 w h p i) : CmpOf (SP w h p i) (cmpP w h p i) := by
  obtain ⟨hw, hh, hw2, hh2, hm, _⟩ := id v
  have vm : Val w h (mskL w h p i) := val_tab v.sid (fun x y _ _ _ _ => ind_01 _ x y)
  have hS : ∀ x y, 0 ≤ x → x < w → 0 ≤ y → y < h → (rd (mskL w h p i) (y * w + x) = 1 ↔ SP w h p i x y) := fun x y a b c d => by
    unfold mskL
    rw [rd_tab_at _ _ _ _ _ a b c d]
    exact ind_1
  have hS2 : ∀ j : Int, 0 ≤ j → j < w * h → rd (mskL w h p i) j = 1 → SP w h p i (j % w) (j / w) := fun j a b c => by
    obtain ⟨_, e1, e2, e3, e4, e5⟩ := flat_of hw a b
    exact (hS _ _ e1 e2 e3 e4).mp (by rw [e5]; exact c)
  obtain ⟨_, m1, m2, m3, m4, m5⟩ := flat_of hw hi.1 hi.2.1
  have hme : rd (mskL w h p i) i = 1 := by
    have := (hS (i % w) (i / w) m1 m2 m3 m4).mpr ⟨⟨m1, m2, m3, m4⟩, by rw [m5]; exact .refl hi⟩
    rw [m5] at this
    exact this
  have h0 : 0 ≤ w * h := Int.mul_nonneg hw hh
  have hn : (((w * h).toNat : Nat) : Int) = w * h := by omega
  have hb := trb_box (p := mskL w h p i) hw hh
  have ht := trf_tight (w := w) (h := h) (q := mskL w h p i) (w * h).toNat
  rw [hn] at ht
  have tb : TB (SP w h p i) (trb w h (mskL w h p i)).1 (trb w h (mskL w h p i)).2.1 (trb w h (mskL w h p i)).2.2.1 (trb w h (mskL w h p i)).2.2.2 := by
    rcases ht with ht | ⟨⟨a, a0, a1, a2, a3⟩, ⟨b, b0, b1, b2, b3⟩, ⟨c, c0, c1, c2, c3⟩, ⟨d, d0, d1, d2, d3⟩⟩ | ht | ht
    · exact absurd hme (ht i hi.1 hi.2.1)
    · refine ⟨fun x y s => ?_, ⟨a / w, ?_⟩, ⟨b % w, ?_⟩, ⟨c / w, ?_⟩, ⟨d % w, ?_⟩⟩
      · obtain ⟨⟨x0, x1, y0, y1⟩, _⟩ := id s
        have hf := flat_lt x0 x1 y0 y1
        rcases hb with hb | hb
        · exact absurd ((hS x y x0 x1 y0 y1).mpr s) (hb.2 _ hf.2.1 (by omega))
        · have := hb.2.2.2.2.2.2 (y * w + x) hf.2.1 (by omega) ((hS x y x0 x1 y0 y1).mpr s)
          rw [flat_mod x0 x1, flat_div x0 x1] at this
          exact this
      · show SP w h p i (trf w h (mskL w h p i) (w * h).toNat).1 _
        rw [← a3]; exact hS2 a a0 a1 a2
      · show SP w h p i _ (trf w h (mskL w h p i) (w * h).toNat).2.1
        rw [← b3]; exact hS2 b b0 b1 b2
      · show SP w h p i (trf w h (mskL w h p i) (w * h).toNat).2.2.1 _
        rw [← c3]; exact hS2 c c0 c1 c2
      · show SP w h p i _ (trf w h (mskL w h p i) (w * h).toNat).2.2.2
        rw [← d3]; exact hS2 d d0 d1 d2
    · omega
    · omega
  refine ⟨_, _, _, _, tb, ?_⟩
  obtain ⟨y1, s1⟩ := tb.ri
  obtain ⟨y2, s2⟩ := tb.le
  have q0 : ¬ (trb w h (mskL w h p i)).2.2.1 < 0 := by have := s1.1.1; omega
  unfold cmpP boxP trimR
  rw [if_pos vm]
  unfold trimT
  rw [if_neg q0]
  have : tab ((trb w h (mskL w h p i)).2.2.1 - (trb w h (mskL w h p i)).1 + 1) ((trb w h (mskL w h p i)).2.2.2 - (trb w h (mskL w h p i)).2.1 + 1) (partG w h (mskL w h p i) (trb w h (mskL w h p i)).1 (trb w h (mskL w h p i)).2.1) = tab ((trb w h (mskL w h p i)).2.2.1 - (trb w h (mskL w h p i)).1 + 1) ((trb w h (mskL w h p i)).2.2.2 - (trb w h (mskL w h p i)).2.1 + 1) (fun u v => ind (SP w h p i) ((trb w h (mskL w h p i)).1 + u) ((trb w h (mskL w h p i)).2.1 + v)) := by
    obtain ⟨x3, s3⟩ := tb.tp
    obtain ⟨x4, s4⟩ := tb.bo
    have z1 := tb.all _ _ s1
    have z3 := tb.all _ _ s3
    refine tab_congr (by omega) (by omega) (fun u t u0 u1 t0 t1 => ?_)
    have g1 := s1.1
    have g2 := s2.1
    have g3 := s3.1
    have g4 := s4.1
    unfold partG mskL
    rw [pix_tab, if_pos (by unfold mskL at *; omega)]
  rw [this]
end

theorem FI.all {w h : Int} {p : List Int} {c : Int} {M0 : Int → Prop} {s : Int} {U : Nat} {mk : List Bool} {out : List S66} {cor : Bool} (f : FI w h p (DD cor) c M0 s U mk out out.length) (hM : ∀ a b, M0 a → colS w h p c a → adjD w h (DD cor) a b → colS w h p c b → M0 b) (j : Int) : (∃ e ∈ out, ix w e = j) ↔ Rch (adjD w h (DD cor)) (colS w h p c) s j := by
  refine flood_all (M := M0) (Q := fun j => ∃ e ∈ out, ix w e = j) adj_symm hM f.beg ?_ ?_ j
  · rintro j ⟨e, he, rfl⟩
    exact (f.own e he).2
  · rintro a b ⟨e, he, rfl⟩ ab cb
    obtain ⟨n, n0, n1, en⟩ := mem_rd66 he
    have := f.dn n n0 n1 b (by rw [en]; exact ab) cb
    exact (f.mks b cb.1 cb.2.1).mp this

theorem fits_is (w h : Int) : bitmap_fits.f w h = some (decide (Sid w h)) := by
  unfold bitmap_fits.f
  by_cases h1 : 0 ≤ w ∧ 0 ≤ h ∧ w ≤ 200 ∧ h ≤ 200
  · obtain ⟨a, b, c, d⟩ := h1
    have := sid_mul a b c d
    rw [if_pos (by omega), if_pos (by omega), if_pos c, if_pos d, w64 (by omega) (by omega)]
    simp [Sid, a, b, c, d]
  · have h2 : ¬ Sid w h := fun s => h1 ⟨s.1, s.2.1, s.2.2.1, s.2.2.2.1⟩
    simp only [h2, decide_false]
    split
    · split
      · split
        · split
          · omega
          · rfl
        · rfl
      · rfl
    · rfl

theorem blank_is (w h : Int) : bitmap_blank.f w h = some (if Sid w h then (w, h, tab w h (fun _ _ => 0), 0) else (0, 0, [], 4)) := by
  unfold bitmap_blank.f
  rw [fits_is, Option.bind_some]
  by_cases s : Sid w h
  · have hm := sid_mul s.1 s.2.1 s.2.2.1 s.2.2.2.1
    rw [if_pos (decide_eq_true s), if_pos s, w64 (by omega) (by omega), if_pos (by omega), if_pos (by omega), replicate_tab s.1 s.2.1]
  · rw [if_neg (by simpa using s), if_neg s]

/-- What New returns. -/
def newR (w h c : Int) : Int × Int × List Int × Int := if w < 0 ∨ h < 0 ∨ (c ≠ 0 ∧ c ≠ 1) then (0, 0, [], 2) else if Sid w h then (w, h, tab w h (fun _ _ => c), 0) else (0, 0, [], 4)
theorem New_j0 (w h c : Int) (b : Bool) (hb : b = true ↔ (w < 0 ∨ h < 0 ∨ (c ≠ 0 ∧ c ≠ 1))) : EvP (fun k => bitmap_New.j0 k w h c b) (· = newR w h c) := by
  refine EvP.step (fun k => by rw [bitmap_New.j0]) ?_
  refine EvP.ite (fun h1 => EvP.ret ?_) (fun h1 => ?_)
  · unfold newR
    rw [if_pos (hb.mp h1)]
  · have hn : ¬ (w < 0 ∨ h < 0 ∨ (c ≠ 0 ∧ c ≠ 1)) := fun q => h1 (hb.mpr q)
    unfold newR
    rw [if_neg hn]
    refine EvP.bindv (blank_is w h) ?_
    by_cases s : Sid w h
    · simp only [if_pos s]
      have hm := sid_mul s.1 s.2.1 s.2.2.1 s.2.2.2.1
      have hlen : ((tab w h fun _ _ => (0 : Int)).length : Int) = w * h := by rw [tab_length]; omega
      refine EvP.fill (L := fun k i l => bitmap_New.l0 k c 0 ((tab w h fun _ _ => 0).length : Int) i w h l) (tab w h fun _ _ => 0) (fun _ => c) ?_ ?_
      · intro i l h0 h2 hl hr hk
        refine EvP.step (fun k => by rw [bitmap_New.l0]) ?_
        refine EvP.pos h2 (EvP.pos h0 (EvP.pos (by omega) ?_))
        rw [w64 (by omega) (by omega), show c % 256 = c by omega]
        exact hk
      · refine EvP.step (fun k => by rw [bitmap_New.l0]) ?_
        refine EvP.neg (by omega) (EvP.ret ?_)
        rw [lmap_tab (w := w) (h := h) (g := fun _ _ => c) s.1 s.2.1 (by omega) (fun _ _ _ _ _ _ => rfl)]
    · simp only [if_neg s]
      refine EvP.step (fun k => by rw [bitmap_New.l0]) ?_
      exact EvP.neg (by simp) (EvP.ret rfl)
theorem New_is (w h c : Int) : EvP (fun k => bitmap_New.f k w h c) (· = newR w h c) := by
  unfold bitmap_New.f
  refine EvP.ite (fun h1 => New_j0 w h c true (by simp [h1])) (fun h1 => ?_)
  refine EvP.ite (fun h2 => New_j0 w h c true (by simp [h2])) (fun h2 => ?_)
  refine EvP.ite (fun h3 => New_j0 w h c _ (by simp; omega)) (fun h3 => New_j0 w h c _ (by simp; omega))

theorem new0 {w h : Int} (hw : 0 ≤ w) (hh : 0 ≤ h) : newR w h 0 = if Sid w h then (w, h, tab w h (fun _ _ => 0), 0) else (0, 0, [], 4) := by
  unfold newR
  rw [if_neg (by omega)]

theorem take66 {l : List S66} {i : Int} (h0 : 0 ≤ i) (h1 : i < (l.length : Int)) : l.take (i + 1).toNat = l.take i.toNat ++ [rd_T66 l i] := by
  have h : i.toNat < l.length := by omega
  rw [show (i + 1).toNat = i.toNat + 1 by omega, List.take_add_one]
  simp [rd_T66, List.getD, h]
section
open Classical
theorem placed_is {w h : Int} {out : List S66} {S : Int → Int → Prop} (sd : Sid w h) (hS : ∀ x y, S x y ↔ ∃ e ∈ out, e.f0 = x ∧ e.f1 = y) (hin : ∀ e ∈ out, inn w h e) (hne : 0 < (out.length : Int)) (hl : (out.length : Int) ≤ 1000000) :
    EvP (fun k => shape_placed.f k out) (fun r => CmpOf S (⟨⟨r.1, r.2.1, r.2.2.1⟩, r.2.2.2.1, r.2.2.2.2⟩ : S48)) := by
  obtain ⟨hw, hh, hw2, hh2, hm⟩ := id sd
  have h0 := rd66_mem (l := out) (n := 0) (by omega) hne
  have i0' := hin _ h0
  unfold shape_placed.f
  refine EvP.pos hne ?_
  refine EvP.up (L := fun k i (s : Int × Int × Int × Int) => shape_placed.l0 k out s.1 s.2.1 s.2.2.1 s.2.2.2 out (out.length : Int) i)
    (fun i s => 0 ≤ i ∧ (∀ e ∈ out.take i.toNat, s.1 ≤ e.f0 ∧ e.f0 ≤ s.2.2.1 ∧ s.2.1 ≤ e.f1 ∧ e.f1 ≤ s.2.2.2) ∧ (∃ e ∈ out, e.f0 = s.1) ∧ (∃ e ∈ out, e.f1 = s.2.1) ∧ (∃ e ∈ out, e.f0 = s.2.2.1) ∧ (∃ e ∈ out, e.f1 = s.2.2.2)) out.length ?_ 0
    ((rd_T66 out 0).f0, (rd_T66 out 0).f1, (rd_T66 out 0).f0, (rd_T66 out 0).f1) (by omega) ⟨by omega, fun e he => by simp at he, ⟨_, h0, rfl⟩, ⟨_, h0, rfl⟩, ⟨_, h0, rfl⟩, ⟨_, h0, rfl⟩⟩
  rintro i ⟨l, t, r, b⟩ ⟨i0, ha, h1, h2, h3, h4⟩ hi ih
  dsimp only at ha h1 h2 h3 h4
  refine EvP.step (fun k => by rw [shape_placed.l0]) ?_
  refine EvP.ite (fun i1 => ?_) (fun i1 => ?_)
  · refine EvP.pos i0 (EvP.pos i1 ?_)
    have hm' := rd66_mem i0 i1
    rw [w64 (x := i + 1) (by omega) (by omega)]
    refine ih (mn l (rd_T66 out i).f0, mn t (rd_T66 out i).f1, mx r (rd_T66 out i).f0, mx b (rd_T66 out i).f1) i1 ⟨by omega, fun e he => ?_, ?_, ?_, ?_, ?_⟩
    · dsimp only
      rw [take66 i0 i1] at he
      unfold mn mx
      rcases List.mem_append.mp he with he | he
      · have := ha e he
        refine ⟨?_, ?_, ?_, ?_⟩ <;> split <;> omega
      · rw [List.mem_singleton.mp he]
        refine ⟨?_, ?_, ?_, ?_⟩ <;> split <;> omega
    all_goals
      dsimp only
      first | unfold mn | unfold mx
      split
    · exact ⟨_, hm', rfl⟩
    · exact h1
    · exact ⟨_, hm', rfl⟩
    · exact h2
    · exact ⟨_, hm', rfl⟩
    · exact h3
    · exact ⟨_, hm', rfl⟩
    · exact h4
  · rw [show i.toNat = out.length by omega, List.take_length] at ha
    have tb : TB S l t r b := by
      refine ⟨fun x y s => ?_, ?_, ?_, ?_, ?_⟩
      · obtain ⟨e, he, rfl, rfl⟩ := (hS x y).mp s
        exact ha e he
      · obtain ⟨e, he, q⟩ := h1
        exact ⟨e.f1, (hS _ _).mpr ⟨e, he, q, rfl⟩⟩
      · obtain ⟨e, he, q⟩ := h2
        exact ⟨e.f0, (hS _ _).mpr ⟨e, he, rfl, q⟩⟩
      · obtain ⟨e, he, q⟩ := h3
        exact ⟨e.f1, (hS _ _).mpr ⟨e, he, q, rfl⟩⟩
      · obtain ⟨e, he, q⟩ := h4
        exact ⟨e.f0, (hS _ _).mpr ⟨e, he, rfl, q⟩⟩
    have g0 := ha _ h0
    obtain ⟨e1, he1, q1⟩ := h1
    obtain ⟨e2, he2, q2⟩ := h2
    obtain ⟨e3, he3, q3⟩ := h3
    obtain ⟨e4, he4, q4⟩ := h4
    have n1 := hin _ he1
    have n2 := hin _ he2
    have n3 := hin _ he3
    have n4 := hin _ he4
    unfold inn at n1 n2 n3 n4
    obtain ⟨W, eW⟩ : ∃ W, W = r - l + 1 := ⟨_, rfl⟩
    obtain ⟨H, eH⟩ : ∃ H, H = b - t + 1 := ⟨_, rfl⟩
    have hm1 : W * H ≤ w * h := by
      have a1 := Int.mul_le_mul_of_nonneg_right (show W ≤ w by omega) (show 0 ≤ H by omega)
      have a2 := Int.mul_le_mul_of_nonneg_left (show H ≤ h by omega) hw
      omega
    have s2 : Sid W H := ⟨by omega, by omega, by omega, by omega, by omega⟩
    rw [w64 (x := r - l) (by omega) (by omega), w64 (x := r - l + 1) (by omega) (by omega), w64 (x := b - t) (by omega) (by omega), w64 (x := b - t + 1) (by omega) (by omega), ← eW, ← eH]
    refine EvP.bind (New_is W H 0) ?_
    rintro _ rfl
    rw [new0 s2.1 s2.2.1, if_pos s2]
    refine EvP.up (L := fun k i (q : List Int) => shape_placed.l1 k l t out (out.length : Int) i W H q) (fun i q => 0 ≤ i ∧ q = tab W H (fun u v => if ∃ e ∈ out.take i.toNat, e.f0 = l + u ∧ e.f1 = t + v then 1 else 0)) out.length ?_ 0 (tab W H (fun _ _ => 0)) (by omega) ⟨by omega, tab_congr s2.1 s2.2.1 (fun u v _ _ _ _ => by rw [if_neg]; simp)⟩
    rintro j q ⟨j0, rfl⟩ hj ih2
    refine EvP.step (fun k => by rw [shape_placed.l1]) ?_
    refine EvP.ite (fun j1 => ?_) (fun j1 => EvP.ret ?_)
    · have hm2 := rd66_mem j0 j1
      have g := ha _ hm2
      have nn := hin _ hm2
      unfold inn at nn
      have htk := take66 j0 j1
      generalize rd_T66 out j = e at *
      have hf := flat_lt (w := W) (h := H) (x := e.f0 - l) (y := e.f1 - t) (by omega) (by omega) (by omega) (by omega)
      have hWm := s2.2.2.2.2
      have ei : wrap64 ((wrap64 ((wrap64 ((wrap64 (e.f1 - t)) * W)) + e.f0)) - l) = (e.f1 - t) * W + (e.f0 - l) := by
        rw [w64 (x := e.f1 - t) (by omega) (by omega), w64 (x := (e.f1 - t) * W) (by omega) (by omega), w64 (x := (e.f1 - t) * W + e.f0) (by omega) (by omega), w64 (by omega) (by omega)]
        omega
      have h00 := Int.mul_nonneg s2.1 s2.2.1
      refine EvP.pos j0 (EvP.pos j1 ?_)
      rw [ei, w64 (x := j + 1) (by omega) (by omega), set_tab s2.1 s2.2.1 (by omega) (by omega) (by omega) (by omega)]
      refine EvP.pos hf.2.1 (EvP.pos (by rw [tab_length]; omega) (ih2 _ j1 ⟨by omega, tab_congr s2.1 s2.2.1 (fun u v _ _ _ _ => ?_)⟩))
      rw [htk]
      unfold upd
      by_cases z : u = e.f0 - l ∧ v = e.f1 - t
      · rw [if_pos z, if_pos ⟨e, by simp, by omega, by omega⟩]
      · rw [if_neg z]
        dsimp only
        by_cases y : ∃ e' ∈ out.take j.toNat, e'.f0 = l + u ∧ e'.f1 = t + v
        · obtain ⟨e', q1, q2⟩ := y
          rw [if_pos ⟨e', q1, q2⟩, if_pos ⟨e', List.mem_append.mpr (.inl q1), q2⟩]
        · rw [if_neg y, if_neg]
          rintro ⟨e', q1, q2, q3⟩
          rcases List.mem_append.mp q1 with q1 | q1
          · exact y ⟨e', q1, q2, q3⟩
          · rw [List.mem_singleton.mp q1] at q2 q3
            exact z ⟨by omega, by omega⟩
    · rw [show j.toNat = out.length by omega, List.take_length]
      refine ⟨l, t, r, b, tb, ?_⟩
      unfold boxP
      rw [← eW, ← eH]
      dsimp only
      congr 2
      refine tab_congr s2.1 s2.2.1 (fun u v _ _ _ _ => ?_)
      unfold ind
      by_cases q : S (l + u) (t + v)
      · rw [if_pos q, if_pos ((hS _ _).mp q)]
      · rw [if_neg q, if_neg (fun z => q ((hS _ _).mpr z))]
end

def eightL : List S66 := [⟨-1, 0⟩, ⟨1, 0⟩, ⟨0, -1⟩, ⟨0, 1⟩, ⟨-1, -1⟩, ⟨1, -1⟩, ⟨-1, 1⟩, ⟨1, 1⟩]
theorem eight_stps : Stps eightL (DD true) := by
  refine ⟨by decide, fun b b0 b1 => ?_, fun dx dy d => ?_⟩
  · have b1 : b < 8 := b1
    rcases (show b = 0 ∨ b = 1 ∨ b = 2 ∨ b = 3 ∨ b = 4 ∨ b = 5 ∨ b = 6 ∨ b = 7 by omega) with rfl | rfl | rfl | rfl | rfl | rfl | rfl | rfl
    · exact ⟨by decide, by decide, by decide, by decide, by show DD true (-1) 0; unfold DD; simp⟩
    · exact ⟨by decide, by decide, by decide, by decide, by show DD true 1 0; unfold DD; simp⟩
    · exact ⟨by decide, by decide, by decide, by decide, by show DD true 0 (-1); unfold DD; simp⟩
    · exact ⟨by decide, by decide, by decide, by decide, by show DD true 0 1; unfold DD; simp⟩
    · exact ⟨by decide, by decide, by decide, by decide, by show DD true (-1) (-1); unfold DD; simp⟩
    · exact ⟨by decide, by decide, by decide, by decide, by show DD true 1 (-1); unfold DD; simp⟩
    · exact ⟨by decide, by decide, by decide, by decide, by show DD true (-1) 1; unfold DD; simp⟩
    · exact ⟨by decide, by decide, by decide, by decide, by show DD true 1 1; unfold DD; simp⟩
  · obtain ⟨a, b, c, d, e, f⟩ := d
    rcases (show (dx = -1 ∧ dy = 0) ∨ (dx = 1 ∧ dy = 0) ∨ (dx = 0 ∧ dy = -1) ∨ (dx = 0 ∧ dy = 1) ∨ (dx = -1 ∧ dy = -1) ∨ (dx = 1 ∧ dy = -1) ∨ (dx = -1 ∧ dy = 1) ∨ (dx = 1 ∧ dy = 1) by omega) with ⟨rfl, rfl⟩ | ⟨rfl, rfl⟩ | ⟨rfl, rfl⟩ | ⟨rfl, rfl⟩ | ⟨rfl, rfl⟩ | ⟨rfl, rfl⟩ | ⟨rfl, rfl⟩ | ⟨rfl, rfl⟩
    · exact ⟨0, by omega, by decide, rfl⟩
    · exact ⟨1, by omega, by decide, rfl⟩
    · exact ⟨2, by omega, by decide, rfl⟩
    · exact ⟨3, by omega, by decide, rfl⟩
    · exact ⟨4, by omega, by decide, rfl⟩
    · exact ⟨5, by omega, by decide, rfl⟩
    · exact ⟨6, by omega, by decide, rfl⟩
    · exact ⟨7, by omega, by decide, rfl⟩

theorem Valid_l0 (p : List Int) (hl : (p.length : Int) ≤ 9223372036854775807) : EvP (fun k => bitmap_Valid.l0 k p (p.length : Int) 0) (· = decide (∀ x ∈ p, x ≤ 1)) := by
  refine EvP.up (L := fun k i (_ : Unit) => bitmap_Valid.l0 k p (p.length : Int) i) (fun i _ => 0 ≤ i ∧ ∀ j, 0 ≤ j → j < i → rd p j ≤ 1) p.length ?_ 0 () (by omega) ⟨by omega, fun j _ _ => by omega⟩
  intro i _ ⟨h0, hb⟩ hi ih
  refine EvP.step (fun k => by rw [bitmap_Valid.l0]) ?_
  refine EvP.ite (fun h1 => ?_) (fun h1 => ?_)
  · refine EvP.pos h0 (EvP.pos h1 (EvP.ite (fun h2 => EvP.ret ?_) (fun h2 => ?_)))
    · symm
      rw [decide_eq_false_iff_not]
      intro hall
      have := hall _ (rd_mem h0 h1)
      omega
    · rw [w64 (by omega) (by omega)]
      refine ih () h1 ⟨by omega, fun j hj hj' => ?_⟩
      rcases Int.lt_or_le j i with hji | hji
      · exact hb j hj hji
      · have : j = i := by omega
        subst this
        omega
  · refine EvP.ret ?_
    symm
    rw [decide_eq_true_iff]
    intro x hx
    obtain ⟨n, hn, rfl⟩ := List.getElem_of_mem hx
    have := hb (n : Int) (by omega) (by omega)
    rwa [rd_get p n hn] at this
theorem Valid_is (w h : Int) (p : List Int) (hp : ∀ x ∈ p, 0 ≤ x) (hl : (p.length : Int) ≤ 9223372036854775807) : EvP (fun k => bitmap_Valid.f k w h p) (· = decide (Val w h p)) := by
  unfold bitmap_Valid.f
  refine EvP.bindv (fits_is w h) ?_
  refine EvP.ite (fun h1 => ?_) (fun h1 => ?_)
  · rw [decide_eq_true_iff] at h1
    have hm := sid_mul h1.1 h1.2.1 h1.2.2.1 h1.2.2.2.1
    rw [w64 (by omega) (by omega)]
    refine EvP.step (fun k => by rw [bitmap_Valid.j0]) ?_
    refine EvP.ite (fun h2 => EvP.ret ?_) (fun h2 => ?_)
    · symm
      rw [decide_eq_false_iff_not]
      intro v
      simp [v.2.2.2.2.2.1] at h2
    · refine (Valid_l0 p hl).mono ?_
      rintro r rfl
      have e : (p.length : Int) = w * h := by simpa using h2
      apply decide_eq_decide.mpr
      constructor
      · intro hall
        exact ⟨h1.1, h1.2.1, h1.2.2.1, h1.2.2.2.1, h1.2.2.2.2, e, fun x hx => ⟨hp x hx, hall x hx⟩⟩
      · intro v x hx
        exact (v.2.2.2.2.2.2 x hx).2
  · refine EvP.step (fun k => by rw [bitmap_Valid.j0]) ?_
    refine EvP.pos rfl (EvP.ret ?_)
    symm
    rw [decide_eq_false_iff_not]
    intro v
    exact h1 (decide_eq_true v.sid)

noncomputable def cmpS (w h : Int) (p : List Int) : List S48 := (rts w h p (w * h).toNat).map (cmpP w h p)
theorem components_is {w h : Int} {p : List Int} (v : Val w h p) : EvP (fun k => shape_components.f k w h p) (· = cmpS w h p) := by
  obtain ⟨hw, hh, hw2, hh2, hm, hp, _⟩ := id v
  have e0 : ((p.length : Int) : Int).toNat = p.length := by omega
  unfold shape_components.f
  refine EvP.pos (by omega) (EvP.pos (by omega) ?_)
  rw [e0]
  refine EvP.up (L := fun k i (s : List S48 × List Bool) => shape_components.l0 k s.1 s.2 p (p.length : Int) i w h p) (fun i s => 0 ≤ i ∧ s.2.length = p.length ∧ (∀ j, 0 ≤ j → j < w * h → (mkd s.2 j ↔ ∃ k, 0 ≤ k ∧ k < i ∧ R8 w h p k j)) ∧ s.1 = (rts w h p i.toNat).map (cmpP w h p)) p.length ?_ 0 ([], List.replicate p.length false) (by omega) ⟨by omega, List.length_replicate, fun j j0 j1 => ?_, rfl⟩
  · rintro i ⟨cs, mk⟩ ⟨i0, hlm, hmk, hc⟩ hi ih
    dsimp only at hlm hmk hc
    have ei : ((i.toNat : Nat) : Int) = i := by omega
    have en : (i + 1).toNat = i.toNat + 1 := by omega
    have cb := rts_len w h p i.toNat
    refine EvP.step (fun k => by rw [shape_components.l0]) ?_
    refine EvP.ite (fun i1 => ?_) (fun i1 => EvP.ret ?_)
    · have iw : i < w * h := by omega
      have old : (blk8 w h p i → ∃ k : Int, 0 ≤ k ∧ k < i ∧ R8 w h p k i) → EvP (fun k => shape_components.j1 k cs mk i p (p.length : Int) i false w h p) (· = cmpS w h p) := fun z => by
        refine EvP.step (fun k => by rw [shape_components.j1]) (EvP.neg (by simp) ?_)
        rw [w64 (x := i + 1) (by omega) (by omega)]
        refine ih (cs, mk) i1 ⟨by omega, hlm, fun j j0 j1 => ?_, ?_⟩
        · dsimp only
          rw [hmk j j0 j1]
          constructor
          · rintro ⟨k, a, b, r⟩
            exact ⟨k, a, by omega, r⟩
          · rintro ⟨k, a, b, r⟩
            by_cases q : k = i
            · subst q
              obtain ⟨k', a', b', r'⟩ := z r.left
              exact ⟨k', a', b', r'.trans r⟩
            · exact ⟨k, a, by omega, r⟩
        · dsimp only
          rw [hc, en, rts_s, if_neg]
          rw [ei]
          intro q
          obtain ⟨k, a, b, r⟩ := z q.1
          exact q.2 k a b r
      refine EvP.pos i0 (EvP.pos i1 ?_)
      refine EvP.ite (fun c => EvP.pos (by show i < (mk.length : Int); omega) ?_) (fun c => old (fun q => absurd q.2.2 c))
      have wi : blk8 w h p i := ⟨i0, iw, c⟩
      by_cases mi : mkd mk i
      · have e : rdOf false mk i = true := mi
        rw [e]
        exact old (fun _ => (hmk i i0 iw).mp mi)
      have e : rdOf false mk i = false := by
        unfold mkd at mi
        simpa using mi
      rw [e]
      obtain ⟨w0, m0, m1, q0, q1, qe⟩ := flat_of hw i0 iw
      refine EvP.step (fun k => by rw [shape_components.j1]) ?_
      refine EvP.pos (by simp) (EvP.neg (by omega) ?_)
      refine EvP.bindv (show shape_eight.f = some eightL from rfl) ?_
      rw [tmod_pos i0, tdiv_pos i0, w64 (x := i / w) (by omega) (by omega)]
      refine EvP.bind (flood_is hw hh (by omega) (by omega) hp (by omega) eight_stps mk hlm (i % w) (i / w) ⟨m0, m1, q0, q1⟩ (by rw [qe]; exact mi)) ?_
      rintro ⟨out, mk'⟩ f
      have f : FI w h p (DD true) (rd p (i / w * w + i % w)) (mkd mk) (i / w * w + i % w) (unm mk) mk' out out.length := f
      rw [qe, c] at f
      have cl : ∀ a b, mkd mk a → colS w h p 1 a → adjD w h (DD true) a b → colS w h p 1 b → mkd mk b := fun a b ma ca ab cb' => by
        obtain ⟨k, k0, k1, r⟩ := (hmk a ca.1 ca.2.1).mp ma
        exact (hmk b cb'.1 cb'.2.1).mpr ⟨k, k0, k1, .step r ab cb'⟩
      have al := f.all cl
      have lo : (out.length : Int) ≤ 1000000 := by
        have := f.cnt
        have : unm mk ≤ mk.length := List.count_le_length
        omega
      have hne : 0 < (out.length : Int) := by
        obtain ⟨e, he, _⟩ := f.beg
        have := List.length_pos_of_mem he
        omega
      refine EvP.bind (placed_is (S := SP w h p i) v.sid (fun x y => ?_) (fun e he => (f.own e he).1) hne lo) ?_
      · constructor
        · rintro ⟨⟨x0, x1, y0, y1⟩, r⟩
          obtain ⟨e, he, q⟩ := (al _).mpr r
          have ein := (f.own e he).1
          obtain ⟨z1, z2⟩ := flat_inj ein.1 ein.2.1 x0 x1 q
          exact ⟨e, he, z2, z1⟩
        · rintro ⟨e, he, rfl, rfl⟩
          exact ⟨(f.own e he).1, (al _).mp ⟨e, he, rfl⟩⟩
      intro r hr
      have hr := hr.uniq (cmp_of v wi)
      have lc : cs.length ≤ i.toNat := by rw [hc, List.length_map]; exact cb
      refine EvP.pos (by show cs.length < _; omega) ?_
      rw [w64 (x := i + 1) (by omega) (by omega), hr]
      have isrt : rt w h p i := ⟨wi, fun k k0 k1 z => mi ((hmk i i0 iw).mpr ⟨k, k0, k1, z⟩)⟩
      refine ih (cs ++ [cmpP w h p i], mk') i1 ⟨by omega, f.len, fun j j0 j1 => ?_, ?_⟩
      · dsimp only
        rw [f.mks j j0 j1, hmk j j0 j1, al j]
        constructor
        · rintro (⟨k, a, b, z⟩ | z)
          · exact ⟨k, a, by omega, z⟩
          · exact ⟨i, i0, by omega, z⟩
        · rintro ⟨k, a, b, z⟩
          by_cases q : k = i
          · subst q; exact .inr z
          · exact .inl ⟨k, a, by omega, z⟩
      · dsimp only
        rw [en, rts_s, ei, if_pos isrt, List.map_append, hc]
        rfl
    · unfold cmpS
      rw [hc, show i.toNat = (w * h).toNat by omega]
  · dsimp only
    constructor
    · intro z
      unfold mkd rdOf at z
      have : j.toNat < p.length := by omega
      simp [List.getD, this] at z
    · rintro ⟨k, a, b, _⟩
      omega
/-- What Components returns. -/
noncomputable def cmpR (w h : Int) (p : List Int) : List S48 × Int := if Val w h p then (cmpS w h p, 0) else ([], 30)
theorem Components_is (w h : Int) (p : List Int) (hp : ∀ x ∈ p, 0 ≤ x) (hl : (p.length : Int) ≤ 9223372036854775807) : EvP (fun k => shape_Components.f k w h p) (· = cmpR w h p) := by
  unfold shape_Components.f cmpR
  refine EvP.bind (Valid_is w h p hp hl) ?_
  rintro _ rfl
  refine EvP.ite (fun q => ?_) (fun q => EvP.ret (by rw [if_neg (by simpa using q)]))
  have v : Val w h p := by simpa using q
  rw [if_pos v]
  refine EvP.bind (components_is v) ?_
  rintro _ rfl
  exact EvP.ret rfl

/-- The sum of the first numbers. -/
def sm : Nat → (Int → Int) → Int
  | 0, _ => 0
  | n + 1, f => sm n f + f (n : Int)
theorem sm_s (n : Nat) (f : Int → Int) : sm (n + 1) f = sm n f + f (n : Int) := rfl
theorem sm_0 (f : Int → Int) : sm 0 f = 0 := rfl
theorem sm_congr {f g : Int → Int} : ∀ {n : Nat}, (∀ i : Int, 0 ≤ i → i < n → f i = g i) → sm n f = sm n g
  | 0, _ => rfl
  | n + 1, h => by
    unfold sm
    rw [sm_congr (fun i h0 h1 => h i h0 (by omega)), h n (by omega) (by omega)]
theorem sm_bound {f : Int → Int} {c : Int} (hc : 0 ≤ c) : ∀ {n : Nat}, (∀ i : Int, 0 ≤ i → i < n → 0 ≤ f i ∧ f i ≤ c) → 0 ≤ sm n f ∧ sm n f ≤ n * c
  | 0, _ => by simp [sm]
  | n + 1, h => by
    have h1 := sm_bound hc (fun i h0 h1 => h i h0 (by omega)) (n := n)
    have h2 := h n (by omega) (by omega)
    unfold sm
    have e : ((n + 1 : Nat) : Int) * c = n * c + c := by rw [Int.natCast_add, Int.add_mul]; simp
    omega
theorem sm_zero {f : Int → Int} (h0 : ∀ i : Int, 0 ≤ i → 0 ≤ f i) : ∀ {n : Nat}, sm n f = 0 → ∀ i : Int, 0 ≤ i → i < n → f i = 0
  | 0, _, i, a, b => by omega
  | n + 1, h, i, a, b => by
    unfold sm at h
    have h1 : 0 ≤ sm n f := by
      have : ∀ m : Nat, 0 ≤ sm m f := by
        intro m
        induction m with
        | zero => simp [sm]
        | succ m ih => unfold sm; have := h0 m (by omega); omega
      exact this n
    have h2 := h0 n (by omega)
    rcases Int.lt_or_le i n with c | c
    · exact sm_zero h0 (show sm n f = 0 by omega) i a c
    · have : i = n := by omega
      subst this
      omega
theorem sm_const (c : Int) : ∀ n : Nat, sm n (fun _ => c) = n * c
  | 0 => by simp [sm]
  | n + 1 => by
    unfold sm
    rw [sm_const c n, Int.natCast_add, Int.add_mul]
    simp
theorem sm_add (f : Int → Int) (a : Nat) : ∀ b : Nat, sm (a + b) f = sm a f + sm b (fun i => f (a + i))
  | 0 => by simp [sm]
  | b + 1 => by
    rw [show a + (b + 1) = (a + b) + 1 from rfl, sm_s, sm_s, sm_add f a b]
    have e : ((a + b : Nat) : Int) = (a : Int) + (b : Int) := by omega
    rw [e]
    show sm a f + sm b (fun i => f (a + i)) + f (a + b) = sm a f + (sm b (fun i => f (a + i)) + f (a + b))
    omega
theorem sm_plus (f g : Int → Int) : ∀ n : Nat, sm n (fun i => f i + g i) = sm n f + sm n g
  | 0 => by simp [sm]
  | n + 1 => by
    rw [sm_s, sm_s, sm_s, sm_plus f g n]
    show sm n f + sm n g + (f n + g n) = sm n f + f n + (sm n g + g n)
    omega
theorem sm_swap (g : Int → Int → Int) (W : Nat) : ∀ H : Nat, sm H (fun y => sm W (fun x => g x y)) = sm W (fun x => sm H (fun y => g x y))
  | 0 => by
    have : sm W (fun x => sm 0 (fun y => g x y)) = sm W (fun _ => 0) := sm_congr (fun i _ _ => rfl)
    rw [this, sm_const 0 W, sm_0]
    simp
  | H + 1 => by
    rw [sm_s, sm_swap g W H]
    have : sm W (fun x => sm (H + 1) (fun y => g x y)) = sm W (fun x => sm H (fun y => g x y) + g x H) := sm_congr (fun i _ _ => rfl)
    rw [this, sm_plus]
theorem sm_front (f : Int → Int) : ∀ n : Nat, sm (n + 1) f = f 0 + sm n (fun i => f (i + 1))
  | 0 => by simp [sm]
  | n + 1 => by
    rw [show sm (n + 1 + 1) f = sm (n + 1) f + f ((n + 1 : Nat) : Int) from rfl, sm_front f n]
    rw [show sm (n + 1) (fun i => f (i + 1)) = sm n (fun i => f (i + 1)) + f ((n : Int) + 1) from rfl]
    have e : ((n + 1 : Nat) : Int) = (n : Int) + 1 := by omega
    rw [e]
    omega
theorem sm_mirror (f : Int → Int) : ∀ n : Nat, sm n (fun i => f ((n : Int) - 1 - i)) = sm n f
  | 0 => rfl
  | n + 1 => by
    rw [sm_front]
    have e : (((n + 1 : Nat) : Int) - 1 - 0) = (n : Int) := by omega
    rw [e]
    have e2 : sm n (fun i => f (((n + 1 : Nat) : Int) - 1 - (i + 1))) = sm n (fun i => f ((n : Int) - 1 - i)) := sm_congr (fun i _ _ => by
      have : ((n + 1 : Nat) : Int) - 1 - (i + 1) = (n : Int) - 1 - i := by omega
      rw [this])
    rw [e2, sm_mirror f n, sm_s]
    omega
/-- All pixels' sum. -/
def tot (w h : Int) (g : Int → Int → Int) : Int := sm h.toNat (fun y => sm w.toNat (fun x => g x y))
theorem sm_flat (g : Int → Int → Int) (W : Nat) : ∀ H : Nat, sm (W * H) (fun i => g (i % (W : Int)) (i / (W : Int))) = sm H (fun y => sm W (fun x => g x y))
  | 0 => rfl
  | H + 1 => by
    rw [Nat.mul_succ, sm_add, sm_flat g W H]
    rw [show sm (H + 1) (fun y => sm W (fun x => g x y)) = sm H (fun y => sm W (fun x => g x y)) + sm W (fun x => g x (H : Int)) from rfl]
    congr 1
    refine sm_congr (fun i h0 h1 => ?_)
    have e : ((W * H : Nat) : Int) + i = (H : Int) * (W : Int) + i := by rw [Int.natCast_mul, Int.mul_comm]
    rw [e, flat_mod h0 h1, flat_div h0 h1]
theorem sm_tab {w h : Int} (hw : 0 ≤ w) (hh : 0 ≤ h) (g : Int → Int → Int) : sm (tab w h g).length (fun i => rd (tab w h g) i) = tot w h g := by
  have h0 : 0 ≤ w * h := Int.mul_nonneg hw hh
  rw [tab_length]
  have e : (w * h).toNat = w.toNat * h.toNat := by
    have e1 : ((w.toNat * h.toNat : Nat) : Int) = w * h := by rw [Int.natCast_mul, Int.toNat_of_nonneg hw, Int.toNat_of_nonneg hh]
    omega
  have ew : ((w.toNat : Nat) : Int) = w := Int.toNat_of_nonneg hw
  unfold tot
  rw [← sm_flat g w.toNat h.toNat, e, ew]
  refine sm_congr (fun i a b => ?_)
  rw [rd_tab w h g i a (by omega)]
theorem tot_congr {w h : Int} {g g' : Int → Int → Int} (hg : ∀ x y, 0 ≤ x → x < w → 0 ≤ y → y < h → g x y = g' x y) : tot w h g = tot w h g' :=
  sm_congr (fun y a b => sm_congr (fun x c d => hg x y c (by omega) a (by omega)))
theorem tot_turn {w h : Int} (hw : 0 ≤ w) (hh : 0 ≤ h) (g : Int → Int → Int) : tot h w (fun x y => g y (h - 1 - x)) = tot w h g := by
  unfold tot
  have eh : ((h.toNat : Nat) : Int) = h := Int.toNat_of_nonneg hh
  rw [sm_swap (fun x y => g x y) w.toNat h.toNat]
  refine sm_congr (fun y a b => ?_)
  have := sm_mirror (fun i => g y i) h.toNat
  rw [eh] at this
  exact this
theorem tot_flip {w h : Int} (hw : 0 ≤ w) (hh : 0 ≤ h) (g : Int → Int → Int) : tot w h (fun x y => g (w - 1 - x) y) = tot w h g := by
  unfold tot
  have ew : ((w.toNat : Nat) : Int) = w := Int.toNat_of_nonneg hw
  refine sm_congr (fun y a b => ?_)
  have := sm_mirror (fun i => g i y) w.toNat
  rw [ew] at this
  exact this
/-- How many pixels are black. -/
def blk (p : List Int) : Int := sm p.length (fun i => rd p i)
theorem blk_val {w h : Int} {p : List Int} (v : Val w h p) : blk p = tot w h (pix w h p) := by
  unfold blk
  have e := sm_tab v.1 v.2.1 (pix w h p)
  rw [← v.tab] at e
  exact e

theorem sm_out {f : Int → Int} : ∀ {n : Nat}, (∀ i : Int, 0 ≤ i → i < n → f i = 0) → sm n f = 0
  | 0, _ => rfl
  | n + 1, h => by
    rw [sm_s, sm_out (fun i a b => h i a (by omega)), h n (by omega) (by omega)]
    rfl

theorem sm_mid {f : Int → Int} (l W r : Nat) (hf : ∀ i : Int, i < l ∨ (l : Int) + W ≤ i → f i = 0) : sm (l + (W + r)) f = sm W (fun u => f ((l : Int) + u)) := by
  rw [sm_add, sm_out (n := l) (fun i a b => hf i (.inl b)), sm_add, sm_out (n := r) (fun i a b => hf _ (.inr (by omega)))]
  omega
theorem tot_mid {w h l t W H : Int} {g : Int → Int → Int} (l0 : 0 ≤ l) (t0 : 0 ≤ t) (W0 : 0 ≤ W) (H0 : 0 ≤ H) (hw : l + W ≤ w) (hh : t + H ≤ h) (hg : ∀ x y, ¬ (l ≤ x ∧ x < l + W ∧ t ≤ y ∧ y < t + H) → g x y = 0) : tot w h g = tot W H (fun u v => g (l + u) (t + v)) := by
  unfold tot
  rw [show h.toNat = t.toNat + (H.toNat + (h - t - H).toNat) by omega, sm_mid _ _ _ (fun i hi => sm_out (fun j _ _ => hg j i (by omega)))]
  refine sm_congr (fun v _ _ => ?_)
  rw [show ((t.toNat : Nat) : Int) = t by omega, show w.toNat = l.toNat + (W.toNat + (w - l - W).toNat) by omega, sm_mid _ _ _ (fun i hi => hg i _ (by omega)), show ((l.toNat : Nat) : Int) = l by omega]
theorem tot_plus {w h : Int} (f g : Int → Int → Int) : tot w h (fun x y => f x y + g x y) = tot w h f + tot w h g := by
  unfold tot
  rw [← sm_plus]
  exact sm_congr (fun y _ _ => sm_plus _ _ _)
theorem tot_in {w h : Int} {g : Int → Int → Int} (hw : 0 ≤ w) (hh : 0 ≤ h) (hw2 : w ≤ 200) (hh2 : h ≤ 200) (hg : ∀ x y, 0 ≤ g x y ∧ g x y ≤ 1) : 0 ≤ tot w h g ∧ tot w h g ≤ 40000 := by
  have a : ∀ y : Int, 0 ≤ sm w.toNat (fun x => g x y) ∧ sm w.toNat (fun x => g x y) ≤ 200 := fun y => by
    have := sm_bound (n := w.toNat) (f := fun x => g x y) (c := 1) (by omega) (fun i _ _ => hg i y)
    omega
  have := sm_bound (n := h.toNat) (f := fun y => sm w.toNat (fun x => g x y)) (c := 200) (by omega) (fun i _ _ => a i)
  unfold tot
  omega

section
open Classical
theorem SP_in {w h : Int} {p : List Int} {i x y : Int} (s : SP w h p i x y) : 0 ≤ x ∧ x < w ∧ 0 ≤ y ∧ y < h := s.1
/-- What is known of a component. -/
theorem cmp_facts {w h : Int} {p : List Int} (v : Val w h p) {i : Int} (hi : blk8 w h p i) :
    ∃ l t W H, cmpP w h p i = ⟨⟨W, H, tab W H (fun u v => ind (SP w h p i) (l + u) (t + v))⟩, l, t⟩ ∧ 0 ≤ l ∧ 0 ≤ t ∧ 1 ≤ W ∧ 1 ≤ H ∧ l + W ≤ w ∧ t + H ≤ h ∧ Sid W H ∧ TB (SP w h p i) l t (l + W - 1) (t + H - 1) := by
  obtain ⟨hw, hh, hw2, hh2, hm, _⟩ := id v
  obtain ⟨l, t, r, b, tb, e⟩ := cmp_of v hi
  obtain ⟨_, s1⟩ := tb.le
  obtain ⟨_, s2⟩ := tb.tp
  obtain ⟨_, s3⟩ := tb.ri
  obtain ⟨_, s4⟩ := tb.bo
  have a1 := SP_in s1
  have a2 := SP_in s2
  have a3 := SP_in s3
  have a4 := SP_in s4
  have b1 := tb.all _ _ s1
  have b2 := tb.all _ _ s2
  obtain ⟨W, eW⟩ : ∃ W, W = r - l + 1 := ⟨_, rfl⟩
  obtain ⟨H, eH⟩ : ∃ H, H = b - t + 1 := ⟨_, rfl⟩
  have hm1 : W * H ≤ w * h := by
    have c1 := Int.mul_le_mul_of_nonneg_right (show W ≤ w by omega) (show 0 ≤ H by omega)
    have c2 := Int.mul_le_mul_of_nonneg_left (show H ≤ h by omega) hw
    omega
  refine ⟨l, t, W, H, ?_, by omega, by omega, by omega, by omega, by omega, by omega, ⟨by omega, by omega, by omega, by omega, by omega⟩, ?_⟩
  · rw [e, eW, eH]
    rfl
  · rw [show l + W - 1 = r by omega, show t + H - 1 = b by omega]
    exact tb
theorem plc_cmp {w h : Int} {p : List Int} (v : Val w h p) {i : Int} (hi : blk8 w h p i) (x y : Int) : plc (cmpP w h p i) x y = ind (SP w h p i) x y := by
  obtain ⟨l, t, W, H, e, _, _, _, _, _, _, _, tb⟩ := cmp_facts v hi
  rw [e]
  unfold plc
  dsimp only
  rw [pix_tab]
  by_cases q : 0 ≤ x - l ∧ x - l < W ∧ 0 ≤ y - t ∧ y - t < H
  · rw [if_pos q, show l + (x - l) = x by omega, show t + (y - t) = y by omega]
  · rw [if_neg q]
    have a := ind_01 (SP w h p i) x y
    have b : ¬ ind (SP w h p i) x y = 1 := fun z => by
      have := tb.all _ _ (ind_1.mp z)
      omega
    omega
theorem cmp_ok {w h : Int} {p : List Int} (v : Val w h p) {i : Int} (hi : blk8 w h p i) : VP (cmpP w h p i) ∧ NP (cmpP w h p i) := by
  obtain ⟨hw, hh, hw2, hh2, hm, _⟩ := id v
  obtain ⟨l, t, W, H, e, l0, t0, _, _, l1, t1, sd, tb⟩ := cmp_facts v hi
  rw [e]
  exact ⟨show Val W H (tab W H (fun u v => ind (SP w h p i) (l + u) (t + v))) from val_tab sd (fun x y _ _ _ _ => ind_01 _ _ _), by unfold NP Shf; dsimp only; omega⟩
theorem cmp_blk {w h : Int} {p : List Int} (v : Val w h p) {i : Int} (hi : blk8 w h p i) : blk (cmpP w h p i).f0.f2 = tot w h (ind (SP w h p i)) := by
  obtain ⟨l, t, W, H, e, l0, t0, _, _, l1, t1, sd, tb⟩ := cmp_facts v hi
  rw [e]
  refine (sm_tab sd.1 sd.2.1 _).trans (tot_mid l0 t0 sd.1 sd.2.1 l1 t1 (fun x y q => ?_)).symm
  have a := ind_01 (SP w h p i) x y
  have b : ¬ ind (SP w h p i) x y = 1 := fun z => by
    have := tb.all _ _ (ind_1.mp z)
    omega
  omega
theorem rts_nil {w h : Int} {p : List Int} : ∀ n : Nat, (∀ j : Int, 0 ≤ j → j < n → ¬ rt w h p j) → rts w h p n = []
  | 0, _ => rfl
  | n + 1, hn => by
    rw [rts_s, if_neg (hn n (by omega) (by omega))]
    exact rts_nil n (fun j a b => hn j a (by omega))
theorem rts_one {w h : Int} {p : List Int} {r : Int} (hr : rt w h p r) (h1 : ∀ j, rt w h p j → j = r) : ∀ n : Nat, r < n → rts w h p n = [r]
  | 0, hn => by have := hr.1.1; omega
  | n + 1, hn => by
    rw [rts_s]
    by_cases c : rt w h p n
    · rw [if_pos c, rts_nil n (fun j a b z => by have := h1 _ c; have := h1 _ z; omega), h1 _ c]
      rfl
    · rw [if_neg c]
      refine rts_one hr h1 n ?_
      by_cases e : r = n
      · subst e; exact absurd hr c
      · omega
theorem own_cmp {w h : Int} {p : List Int} (v : Val w h p) {i : Int} (hi : blk8 w h p i) : cmpR (cmpP w h p i).f0.f0 (cmpP w h p i).f0.f1 (cmpP w h p i).f0.f2 = ([⟨(cmpP w h p i).f0, 0, 0⟩], 0) := by
  obtain ⟨hw, hh, hw2, hh2, hm, _⟩ := id v
  obtain ⟨l, t, W, H, e, l0, t0, W1, H1, l1, t1, sd, tb⟩ := cmp_facts v hi
  rw [e]
  dsimp only
  have vq : Val W H (tab W H (fun u v => ind (SP w h p i) (l + u) (t + v))) := val_tab sd (fun x y _ _ _ _ => ind_01 _ _ _)
  have hq : ∀ x y, SP w h p i x y → blk8 W H (tab W H (fun u v => ind (SP w h p i) (l + u) (t + v))) ((y - t) * W + (x - l)) := fun x y s => by
    have := tb.all _ _ s
    have hf := flat_lt (w := W) (h := H) (x := x - l) (y := y - t) (by omega) (by omega) (by omega) (by omega)
    refine ⟨hf.2.1, hf.2.2, ?_⟩
    rw [rd_tab_at _ _ _ _ _ (by omega) (by omega) (by omega) (by omega)]
    exact ind_1.mpr (by rw [show l + (x - l) = x by omega, show t + (y - t) = y by omega]; exact s)
  have hb : ∀ j, blk8 W H (tab W H (fun u v => ind (SP w h p i) (l + u) (t + v))) j → SP w h p i (l + j % W) (t + j / W) := fun j hj => by
    have := hj.2.2
    rw [rd_tab _ _ _ _ hj.1 hj.2.1] at this
    exact ind_1.mp this
  generalize eq : tab W H (fun u v => ind (SP w h p i) (l + u) (t + v)) = q at vq hq hb ⊢
  have path : ∀ a b, R8 w h p a b → R8 w h p i a → R8 W H q ((a / w - t) * W + (a % w - l)) ((b / w - t) * W + (b % w - l)) := fun a b r => by
    intro ra
    induction r with
    | refl c =>
      obtain ⟨_, e1, e2, e3, e4, e5⟩ := flat_of hw c.1 c.2.1
      exact .refl (hq _ _ ⟨⟨e1, e2, e3, e4⟩, by rw [e5]; exact ra⟩)
    | @step j k r1 adj c ih =>
      obtain ⟨x, y, u, v', hx, hu, ej, ek, d⟩ := adj
      have rj : R8 w h p i j := ra.trans r1
      have rk : R8 w h p i k := .step rj ⟨x, y, u, v', hx, hu, ej, ek, d⟩ c
      have sj : SP w h p i x y := ⟨hx, by rw [← ej]; exact rj⟩
      have sk : SP w h p i u v' := ⟨hu, by rw [← ek]; exact rk⟩
      have bj := tb.all _ _ sj
      have bk := tb.all _ _ sk
      refine .step ih ?_ ?_
      · refine ⟨x - l, y - t, u - l, v' - t, by omega, by omega, ?_, ?_, ?_⟩
        · rw [ej, flat_div hx.1 hx.2.1, flat_mod hx.1 hx.2.1]
        · rw [ek, flat_div hu.1 hu.2.1, flat_mod hu.1 hu.2.1]
        · rw [show u - l - (x - l) = u - x by omega, show v' - t - (y - t) = v' - y by omega]
          exact d
      · rw [ek, flat_div hu.1 hu.2.1, flat_mod hu.1 hu.2.1]
        exact hq _ _ sk
  have conn : ∀ a b, blk8 W H q a → blk8 W H q b → R8 W H q a b := fun a b ha hb' => by
    obtain ⟨_, e1, e2, e3, e4, e5⟩ := flat_of sd.1 ha.1 ha.2.1
    obtain ⟨_, f1, f2, f3, f4, f5⟩ := flat_of sd.1 hb'.1 hb'.2.1
    have sa := hb a ha
    have sb := hb b hb'
    obtain ⟨ia, ra⟩ := sa
    obtain ⟨ib, rb⟩ := sb
    have := path _ _ ((R8_symm ra).trans rb) ra
    rw [flat_div ia.1 ia.2.1, flat_mod ia.1 ia.2.1, flat_div ib.1 ib.2.1, flat_mod ib.1 ib.2.1, show t + a / W - t = a / W by omega, show l + a % W - l = a % W by omega, show t + b / W - t = b / W by omega, show l + b % W - l = b % W by omega, e5, f5] at this
    exact this
  obtain ⟨y1, s1⟩ := tb.le
  have bl := hq _ _ s1
  obtain ⟨r, r0, r1, r2, r3⟩ := rt_of _ _ _ (Nat.lt_succ_self _) (show R8 W H q _ _ from .refl bl)
  have one : rts W H q (W * H).toNat = [r] := rts_one r2 (fun j hj => rt_eq hj r2 (conn _ _ hj.1 r2.1)) _ (by have := r2.1.2.1; omega)
  have hS : ∀ u v', SP W H q r u v' ↔ (0 ≤ u ∧ u < W ∧ 0 ≤ v' ∧ v' < H) ∧ SP w h p i (l + u) (t + v') := fun u v' => by
    constructor
    · rintro ⟨a, b⟩
      have := hb _ b.right
      rw [flat_div a.1 a.2.1, flat_mod a.1 a.2.1] at this
      exact ⟨a, this⟩
    · rintro ⟨a, b⟩
      have := hq _ _ b
      rw [show t + v' - t = v' by omega, show l + u - l = u by omega] at this
      exact ⟨a, conn _ _ r2.1 this⟩
  have cq : CmpOf (SP W H q r) ⟨⟨W, H, q⟩, 0, 0⟩ := by
    refine ⟨0, 0, W - 1, H - 1, ⟨fun x y s => ?_, ?_, ?_, ?_, ?_⟩, ?_⟩
    · have := SP_in s
      omega
    · obtain ⟨y, s⟩ := tb.le
      have := tb.all _ _ s
      exact ⟨y - t, (hS _ _).mpr ⟨by omega, by rw [show l + 0 = l by omega, show t + (y - t) = y by omega]; exact s⟩⟩
    · obtain ⟨x, s⟩ := tb.tp
      have := tb.all _ _ s
      exact ⟨x - l, (hS _ _).mpr ⟨by omega, by rw [show t + 0 = t by omega, show l + (x - l) = x by omega]; exact s⟩⟩
    · obtain ⟨y, s⟩ := tb.ri
      have := tb.all _ _ s
      exact ⟨y - t, (hS _ _).mpr ⟨by omega, by rw [show l + (W - 1) = l + W - 1 by omega, show t + (y - t) = y by omega]; exact s⟩⟩
    · obtain ⟨x, s⟩ := tb.bo
      have := tb.all _ _ s
      exact ⟨x - l, (hS _ _).mpr ⟨by omega, by rw [show t + (H - 1) = t + H - 1 by omega, show l + (x - l) = x by omega]; exact s⟩⟩
    · unfold boxP
      rw [show W - 1 - 0 + 1 = W by omega, show H - 1 - 0 + 1 = H by omega]
      congr 2
      rw [← eq]
      refine tab_congr sd.1 sd.2.1 (fun u v' u0 u1 v0 v1 => ?_)
      rw [eq]
      rw [Int.zero_add, Int.zero_add]
      by_cases z : SP w h p i (l + u) (t + v')
      · rw [ind_1.mpr z, ind_1.mpr ((hS u v').mpr ⟨⟨u0, u1, v0, v1⟩, z⟩)]
      · have a := ind_01 (SP w h p i) (l + u) (t + v')
        have b := ind_01 (SP W H q r) u v'
        have c : ¬ ind (SP w h p i) (l + u) (t + v') = 1 := fun y => z (ind_1.mp y)
        have d : ¬ ind (SP W H q r) u v' = 1 := fun y => z ((hS u v').mp (ind_1.mp y)).2
        omega
  unfold cmpR
  rw [if_pos vq]
  unfold cmpS
  rw [one]
  show ([cmpP W H q r], (0 : Int)) = _
  rw [(cmp_of vq r2.1).uniq cq]
end

theorem FR.all {w h : Int} {p : List Int} {c : Int} {m0 : List Int} {a s : Int} {U : Nat} {m out : List Int} {cor : Bool} (f : FR w h p (DD cor) c m0 a s U m out out.length) (hM : ∀ x y, rd m0 x ≠ 0 → colS w h p c x → adjD w h (DD cor) x y → colS w h p c y → rd m0 y ≠ 0) (j : Int) : j ∈ out ↔ Rch (adjD w h (DD cor)) (colS w h p c) s j := by
  refine flood_all (M := fun j => rd m0 j ≠ 0) (Q := fun j => j ∈ out) adj_symm hM f.beg ?_ ?_ j
  · intro j hj
    exact ⟨(f.own j hj).2.1, fun z => z (f.own j hj).2.2⟩
  · intro x y hx xy cy
    obtain ⟨n, hn, he⟩ := List.getElem_of_mem hx
    have e : rd out (n : Int) = x := by rw [rd_get out n hn]; exact he
    have := f.dn (n : Int) (by omega) (by omega) y (by rw [e]; exact xy) cy
    by_cases z : y ∈ out
    · exact .inr z
    · rw [(f.mks y cy.1 cy.2.1).2 z] at this
      exact .inl this

theorem inside_is (w h : Int) (p : List Int) (x y : Int) : incunableref05_inside.f w h p x y = some (decide (0 ≤ x ∧ x < w ∧ 0 ≤ y ∧ y < h)) := by
  unfold incunableref05_inside.f
  by_cases a : x ≥ 0
  · rw [if_pos a]
    by_cases b : y ≥ 0
    · rw [if_pos b]
      by_cases c : x < w
      · rw [if_pos c]
        exact congrArg some (decide_eq_decide.mpr ⟨fun q => by omega, fun q => by omega⟩)
      · rw [if_neg c]
        exact congrArg some (decide_eq_false (by omega)).symm
    · rw [if_neg b]
      exact congrArg some (decide_eq_false (by omega)).symm
  · rw [if_neg a]
    exact congrArg some (decide_eq_false (by omega)).symm

theorem At_is {w h : Int} {p : List Int} (v : Val w h p) (x y : Int) : incunableref05_At.f w h p x y = some (pix w h p x y) := by
  unfold incunableref05_At.f
  rw [inside_is, Option.bind_some]
  by_cases hc : 0 ≤ x ∧ x < w ∧ 0 ≤ y ∧ y < h
  · have hf := flat_lt hc.1 hc.2.1 hc.2.2.1 hc.2.2.2
    have hm := v.2.2.2.2.1
    have hl := v.2.2.2.2.2.1
    have e : wrap64 (y * w) = y * w := w64 (by omega) (by omega)
    have hr := v.2.2.2.2.2.2 _ (rd_mem (l := p) hf.2.1 (by omega))
    rw [if_pos (decide_eq_true hc), e, w64 (by omega) (by omega), if_pos hf.2.1, if_pos (by omega), w64 (by omega) (by omega), pix_in hc.1 hc.2.1 hc.2.2.1 hc.2.2.2]
  · rw [if_neg (by simpa using hc), pix_out hc]

theorem Put_is {w h : Int} {g : Int → Int → Int} {x y v : Int} (hw : 0 ≤ w) (hh : 0 ≤ h) (hm : w * h ≤ 40000) (hx0 : 0 ≤ x) (hx : x < w) (hy0 : 0 ≤ y) (hy : y < h) :
    incunableref05_Put.f w h (tab w h g) x y v = some (tab w h (upd g x y (v % 256))) := by
  have h0 : 0 ≤ w * h := Int.mul_nonneg hw hh
  have hf := flat_lt hx0 hx hy0 hy
  unfold incunableref05_Put.f
  have e : wrap64 (y * w) = y * w := w64 (by omega) (by omega)
  rw [e, w64 (by omega) (by omega), if_pos hf.2.1, if_pos (by rw [tab_length]; omega), set_tab hw hh hx0 hx hy0 hy]

theorem make2_l0 (w h c : Int) (a b : Int) (hw : 0 ≤ w) (hh : 0 ≤ h) (hw' : w ≤ 200) (hh' : h ≤ 200) : EvP (fun k => incunableref05_make2.l0 k w h c 0 a b []) (· = (a, b, List.replicate (w * h).toNat (c % 256))) := by
  have hm := sid_mul hw hh hw' hh'
  refine EvP.up (L := fun k i (s : List Int) => incunableref05_make2.l0 k w h c i a b s) (fun i s => 0 ≤ i ∧ s = List.replicate i.toNat (c % 256)) (w * h) ?_ 0 [] (by omega) ⟨by omega, rfl⟩
  intro i s ⟨h0, hs⟩ hi ih
  subst hs
  refine EvP.step (fun k => by rw [incunableref05_make2.l0]) ?_
  rw [w64 (x := w * h) (by omega) (by omega)]
  refine EvP.ite (fun h1 => ?_) (fun h1 => ?_)
  · refine EvP.pos (by rw [List.length_replicate]; omega) ?_
    rw [w64 (by omega) (by omega)]
    refine ih _ h1 ⟨by omega, ?_⟩
    rw [show (i + 1).toNat = i.toNat + 1 by omega, List.replicate_succ']
  · have : i = w * h := by omega
    subst this
    exact EvP.ret rfl
theorem make2_is (w h c : Int) (hw : 0 ≤ w) (hh : 0 ≤ h) (hw' : w ≤ 200) (hh' : h ≤ 200) : EvP (fun k => incunableref05_make2.f k w h c) (· = (w, h, tab w h (fun _ _ => c % 256))) := by
  unfold incunableref05_make2.f
  refine (make2_l0 w h c w h hw hh hw' hh').mono ?_
  rintro r rfl
  rw [replicate_tab hw hh]

theorem Part_is {w h : Int} {p : List Int} {x y w' h' : Int} (v : Val w h p) (s : 0 ≤ w' ∧ 0 ≤ h' ∧ w' ≤ 200 ∧ h' ≤ 200) (hx : -1000000 ≤ x ∧ x ≤ 1000000) (hy : -1000000 ≤ y ∧ y ≤ 1000000) :
    EvP (fun k => incunableref05_Part.f k w h p x y w' h') (· = (w', h', tab w' h' (partG w h p x y))) := by
  obtain ⟨hw', hh', w200', h200'⟩ := s
  have hm := sid_mul hw' hh' w200' h200'
  unfold incunableref05_Part.f
  refine EvP.bind (make2_is w' h' 0 hw' hh' w200' h200') ?_
  rintro _ rfl
  have e0 : tab w' h' (fun u t => if 0 ≤ u ∧ u < w' ∧ 0 ≤ t ∧ t < h' then partG w h p x y u t else 0 % 256) = tab w' h' (partG w h p x y) := tab_congr hw' hh' (fun u t a b c d => if_pos ⟨a, b, c, d⟩)
  refine EvP.rasterP (L0 := fun k j (l : List Int) => incunableref05_Part.l0 k x y w' h' j w h p w' h' l) (L1 := fun k j i (l : List Int) => incunableref05_Part.l1 k x y w' h' j i w h p w' h' l) (W := w') (H := h')
    (fun i j => i) (fun i j => j) (fun u t => u) (fun u t => t) (fun _ _ => 0 % 256) (partG w h p x y) hw' hh' hw' hh' ?_ ?_ ?_ ?_ ?_ ?_ ?_
  · intro i j a b c d
    exact ⟨rfl, rfl⟩
  · intro u t a b c d e f g' h'
    exact ⟨rfl, rfl⟩
  · intro j l a b hk
    refine EvP.step (fun k => by rw [incunableref05_Part.l0]) ?_
    exact EvP.pos b hk
  · refine EvP.step (fun k => by rw [incunableref05_Part.l0]) ?_
    refine EvP.neg (by omega) (EvP.ret ?_)
    rw [e0]
  · intro i j g' a b c d p0 p1 q0 q1 e hk
    refine EvP.step (fun k => by rw [incunableref05_Part.l1]) ?_
    refine EvP.pos b ?_
    rw [w64 (x := x + i) (by omega) (by omega), w64 (x := y + j) (by omega) (by omega)]
    refine EvP.bindv (At_is v _ _) ?_
    refine EvP.bindv (Put_is hw' hh' (by omega) a b c d) ?_
    have e3 := v.pix01 (x + i) (y + j)
    rw [w64 (x := i + 1) (by omega) (by omega), show pix w h p (x + i) (y + j) % 256 = pix w h p (x + i) (y + j) by omega]
    exact hk
  · intro i j g' a b c d q hk
    exact absurd ⟨a, b, c, d⟩ q
  · intro j l a b hk
    refine EvP.step (fun k => by rw [incunableref05_Part.l1]) ?_
    refine EvP.neg (by omega) ?_
    rw [w64 (x := j + 1) (by omega) (by omega)]
    exact hk

theorem Sides_is (w h : Int) : incunableref05_Sides.f w h = some (decide (Sid w h)) := by
  unfold incunableref05_Sides.f
  by_cases h1 : 0 ≤ w ∧ 0 ≤ h ∧ w ≤ 200 ∧ h ≤ 200
  · obtain ⟨a, b, c, d⟩ := h1
    have := sid_mul a b c d
    rw [if_pos (by omega), if_pos (by omega), if_pos c, if_pos d, w64 (by omega) (by omega)]
    simp [Sid, a, b, c, d]
  · have h2 : ¬ Sid w h := fun s => h1 ⟨s.1, s.2.1, s.2.2.1, s.2.2.2.1⟩
    simp only [h2, decide_false]
    split
    · split
      · split
        · split
          · omega
          · rfl
        · rfl
      · rfl
    · rfl

theorem refValid_l0 (w h : Int) (p : List Int) (hl : (p.length : Int) ≤ 9223372036854775807) : EvP (fun k => incunableref05_Valid.l0 k 0 w h p) (· = decide (∀ x ∈ p, x ≤ 1)) := by
  refine EvP.up (L := fun k i (_ : Unit) => incunableref05_Valid.l0 k i w h p) (fun i _ => 0 ≤ i ∧ ∀ j, 0 ≤ j → j < i → rd p j ≤ 1) p.length ?_ 0 () (by omega) ⟨by omega, fun j _ _ => by omega⟩
  intro i _ ⟨h0, hb⟩ hi ih
  refine EvP.step (fun k => by rw [incunableref05_Valid.l0]) ?_
  refine EvP.ite (fun h1 => ?_) (fun h1 => ?_)
  · refine EvP.pos h0 (EvP.ite (fun h2 => EvP.ret ?_) (fun h2 => ?_))
    · symm
      rw [decide_eq_false_iff_not]
      intro hall
      have := hall _ (rd_mem h0 h1)
      omega
    · rw [w64 (by omega) (by omega)]
      refine ih () h1 ⟨by omega, fun j hj hj' => ?_⟩
      rcases Int.lt_or_le j i with hji | hji
      · exact hb j hj hji
      · have : j = i := by omega
        subst this
        omega
  · refine EvP.ret ?_
    symm
    rw [decide_eq_true_iff]
    intro x hx
    obtain ⟨n, hn, rfl⟩ := List.getElem_of_mem hx
    have := hb (n : Int) (by omega) (by omega)
    rwa [rd_get p n hn] at this
theorem refValid_is (w h : Int) (p : List Int) (hp : ∀ x ∈ p, 0 ≤ x) (hl : (p.length : Int) ≤ 9223372036854775807) : EvP (fun k => incunableref05_Valid.f k w h p) (· = decide (Val w h p)) := by
  unfold incunableref05_Valid.f
  refine EvP.bindv (Sides_is w h) ?_
  refine EvP.ite (fun h1 => ?_) (fun h1 => ?_)
  · rw [decide_eq_true_iff] at h1
    have hm := sid_mul h1.1 h1.2.1 h1.2.2.1 h1.2.2.2.1
    rw [w64 (by omega) (by omega)]
    refine EvP.step (fun k => by rw [incunableref05_Valid.j0]) ?_
    refine EvP.ite (fun h2 => EvP.ret ?_) (fun h2 => ?_)
    · symm
      rw [decide_eq_false_iff_not]
      intro v
      simp [v.2.2.2.2.2.1] at h2
    · refine (refValid_l0 w h p hl).mono ?_
      rintro r rfl
      have e : (p.length : Int) = w * h := by simpa using h2
      apply decide_eq_decide.mpr
      constructor
      · intro hall
        exact ⟨h1.1, h1.2.1, h1.2.2.1, h1.2.2.2.1, h1.2.2.2.2, e, fun x hx => ⟨hp x hx, hall x hx⟩⟩
      · intro v x hx
        exact (v.2.2.2.2.2.2 x hx).2
  · refine EvP.step (fun k => by rw [incunableref05_Valid.j0]) ?_
    refine EvP.pos rfl (EvP.ret ?_)
    symm
    rw [decide_eq_false_iff_not]
    intro v
    exact h1 (decide_eq_true v.sid)

theorem refTrim_is (w h : Int) (p : List Int) (hp : ∀ x ∈ p, 0 ≤ x) (hl : (p.length : Int) ≤ 9223372036854775807) : EvP (fun k => incunableref05_Trim.f k w h p) (· = trimR w h p) := by
  unfold incunableref05_Trim.f trimR
  refine EvP.bind (refValid_is w h p hp hl) ?_
  rintro _ rfl
  refine EvP.ite (fun h1 => ?_) (fun h1 => EvP.ret (by rw [if_neg (by simpa using h1)]))
  have v : Val w h p := by simpa using h1
  rw [if_pos v]
  obtain ⟨hw, hh, w200, h200, hm⟩ := v.sid
  have hlen := v.2.2.2.2.2.1
  have h0 : 0 ≤ w * h := Int.mul_nonneg hw hh
  refine EvP.raster (L0 := fun k y (s : Int × Int × Int × Int) => incunableref05_Trim.l0 k s.1 s.2.1 s.2.2.1 s.2.2.2 y w h p) (L1 := fun k y x (s : Int × Int × Int × Int) => incunableref05_Trim.l1 k s.1 s.2.1 s.2.2.1 s.2.2.2 y x w h p)
    (fun y x s => s = trf w h p (y * w + x).toNat) w h hw hh ?_ ?_ ?_ ?_ (w, h, -1, -1) (by rw [Int.zero_mul]; rfl)
  · intro y s a b _ hk
    refine EvP.step (fun k => by rw [incunableref05_Trim.l0]) ?_
    exact EvP.pos b hk
  · intro s hs
    have e : s = trb w h p := by
      rw [hs]
      unfold trb
      congr 1
      rw [Int.mul_comm w h]
      omega
    subst e
    have hb := trb_box (p := p) hw hh
    refine EvP.step (fun k => by rw [incunableref05_Trim.l0]) ?_
    refine EvP.neg (by omega) ?_
    unfold trimT
    refine EvP.ite (fun r => EvP.ret (by rw [if_pos r])) (fun r => ?_)
    rw [if_neg r]
    obtain ⟨sd, b1, b2, b3, b4, b5, b6, b7, b8⟩ := box_sid v.sid hb r
    rw [w64 (x := (trb w h p).2.2.1 - (trb w h p).1) (by omega) (by omega), w64 (x := (trb w h p).2.2.2 - (trb w h p).2.1) (by omega) (by omega), w64 (x := (trb w h p).2.2.1 - (trb w h p).1 + 1) (by omega) (by omega), w64 (x := (trb w h p).2.2.2 - (trb w h p).2.1 + 1) (by omega) (by omega)]
    refine EvP.bind (Part_is v ⟨sd.1, sd.2.1, sd.2.2.1, sd.2.2.2.1⟩ (by omega) (by omega)) ?_
    rintro _ rfl
    exact EvP.ret rfl
  · intro y x s a b c d hs
    have hf := flat_lt c d a b
    have es : trf w h p (y * w + (x + 1)).toNat = stp w p (y * w + x) s := by
      rw [show (y * w + (x + 1)).toNat = (y * w + x).toNat + 1 by omega, hs]
      show stp w p ((y * w + x).toNat : Int) _ = _
      rw [show (((y * w + x).toNat : Nat) : Int) = y * w + x by omega]
    have ep : pix w h p x y = rd p (y * w + x) := pix_in c d a b
    refine ⟨stp w p (y * w + x) s, es.symm, fun hk => ?_⟩
    refine EvP.step (fun k => by rw [incunableref05_Trim.l1]) ?_
    refine EvP.pos d ?_
    refine EvP.bindv (At_is v x y) ?_
    rw [ep, w64 (x := x + 1) (by omega) (by omega)]
    unfold stp at hk
    refine EvP.ite (fun r => ?_) (fun r => ?_)
    · rw [if_pos r, flat_mod c d, flat_div c d] at hk
      exact hk
    · rw [if_neg r] at hk
      exact hk
  · intro y s a b hs
    refine ⟨?_, fun hk => ?_⟩
    · rw [hs]
      congr 1
      rw [Int.add_mul]
      omega
    · refine EvP.step (fun k => by rw [incunableref05_Trim.l1]) ?_
      refine EvP.neg (by omega) ?_
      rw [w64 (x := y + 1) (by omega) (by omega)]
      exact hk

theorem Copy_is (w h : Int) (p : List Int) (hl : p.length < 140737488355328) : incunableref05_Copy.f w h p = some (w, h, p) := by
  unfold incunableref05_Copy.f
  simp only [Option.bind_some, List.length_nil, Nat.zero_add, List.nil_append]
  rw [if_pos hl]

theorem Marks_is {w h : Int} {p : List Int} (v : Val w h p) : EvP (fun k => incunableref15_Marks.f k w h p) (fun r => r.2 = ((rts w h p (w * h).toNat).length : Int) ∧ r.1.length = p.length ∧ (∀ j, 0 ≤ j → j < w * h → (rd r.1 j ≠ 0 ↔ ∃ k, 0 ≤ k ∧ k < w * h ∧ R8 w h p k j)) ∧ ∀ s j, rt w h p s → s < w * h → R8 w h p s j → rd r.1 j = ((rts w h p s.toNat).length : Int) + 1) := by
  obtain ⟨hw, hh, hw2, hh2, hm, hp, _⟩ := id v
  have hb : ∀ z ∈ p, 0 ≤ z ∧ z ≤ 255 := val_byt v
  have e0 : ((p.length : Int) : Int).toNat = p.length := by omega
  unfold incunableref15_Marks.f
  refine EvP.pos (by omega) (EvP.pos (by omega) ?_)
  rw [e0]
  refine EvP.up (L := fun k i (s : List Int × Int) => incunableref15_Marks.l0 k s.1 s.2 i w h p) (fun i s => 0 ≤ i ∧ s.2 = ((rts w h p i.toNat).length : Int) ∧ s.1.length = p.length ∧ (∀ j, 0 ≤ j → j < w * h → (rd s.1 j ≠ 0 ↔ ∃ k, 0 ≤ k ∧ k < i ∧ R8 w h p k j)) ∧ ∀ s' j, rt w h p s' → s' < i → R8 w h p s' j → rd s.1 j = ((rts w h p s'.toNat).length : Int) + 1) p.length ?_ 0 (List.replicate p.length 0, 0) (by omega) ⟨by omega, rfl, List.length_replicate, fun j j0 j1 => ?_, fun s j a b c => by have := a.1.1; omega⟩
  · rintro i ⟨m, n⟩ ⟨i0, hn, hlm, hmk, hv⟩ hi ih
    dsimp only at hn hlm hmk hv
    have ei : ((i.toNat : Nat) : Int) = i := by omega
    have en : (i + 1).toNat = i.toNat + 1 := by omega
    have cb := rts_len w h p i.toNat
    refine EvP.step (fun k => by rw [incunableref15_Marks.l0]) ?_
    refine EvP.ite (fun i1 => ?_) (fun i1 => EvP.ret ?_)
    · have iw : i < w * h := by omega
      rw [w64 (x := i + 1) (by omega) (by omega)]
      have old : (blk8 w h p i → ∃ k : Int, 0 ≤ k ∧ k < i ∧ R8 w h p k i) → EvP (fun k => incunableref15_Marks.l0 k m n (i + 1) w h p) _ := fun z => by
        refine ih (m, n) i1 ⟨by omega, ?_, hlm, fun j j0 j1 => ?_, fun s j a b c => ?_⟩
        · dsimp only
          rw [hn, en, rts_s, if_neg]
          rw [ei]
          intro q
          obtain ⟨k, a, b, r⟩ := z q.1
          exact q.2 k a b r
        · dsimp only
          rw [hmk j j0 j1]
          constructor
          · rintro ⟨k, a, b, r⟩
            exact ⟨k, a, by omega, r⟩
          · rintro ⟨k, a, b, r⟩
            by_cases q : k = i
            · subst q
              obtain ⟨k', a', b', r'⟩ := z r.left
              exact ⟨k', a', b', r'.trans r⟩
            · exact ⟨k, a, by omega, r⟩
        · dsimp only
          by_cases q : s = i
          · subst q
            obtain ⟨k, a', b', r'⟩ := z a.1
            exact absurd r' (a.2 k a' b')
          · exact hv s j a (by omega) c
      refine EvP.pos i0 ?_
      refine EvP.ite (fun c => EvP.pos (by show i < (m.length : Int); omega) ?_) (fun c => old (fun q => absurd q.2.2 c))
      have wi : blk8 w h p i := ⟨i0, iw, c⟩
      refine EvP.ite (fun mi => ?_) (fun mi => old (fun _ => (hmk i i0 iw).mp mi))
      have isrt : rt w h p i := ⟨wi, fun k k0 k1 z => (hmk i i0 iw).mpr ⟨k, k0, k1, z⟩ mi⟩
      rw [w64 (x := n + 1) (by omega) (by omega)]
      refine EvP.bind (spread_is (cor := true) hw hh (by omega) (by omega) hp (by omega) hb m hlm i (n + 1) 1 (by omega) i0 iw c mi) ?_
      rintro ⟨r1, m'⟩ ⟨out, _, f⟩
      have f : FR w h p (DD true) 1 m (n + 1) i (unz m) m' out out.length := f
      have al : ∀ j, j ∈ out ↔ R8 w h p i j := f.all (fun x y mx cx ab cy => by
        obtain ⟨k, k0, k1, r⟩ := (hmk x cx.1 cx.2.1).mp mx
        exact (hmk y cy.1 cy.2.1).mpr ⟨k, k0, k1, .step r ab cy⟩)
      refine ih (m', n + 1) i1 ⟨by omega, ?_, f.len, fun j j0 j1 => ?_, fun s j a b c' => ?_⟩
      · dsimp only
        rw [hn, en, rts_s, ei, if_pos isrt, List.length_append]
        rfl
      · dsimp only
        have hj := f.mks j j0 j1
        by_cases o : j ∈ out
        · rw [hj.1 o]
          exact ⟨fun _ => ⟨i, i0, by omega, (al j).mp o⟩, fun _ => by omega⟩
        · rw [hj.2 o, hmk j j0 j1]
          constructor
          · rintro ⟨k, a, b, r⟩
            exact ⟨k, a, by omega, r⟩
          · rintro ⟨k, a, b, r⟩
            by_cases q : k = i
            · subst q
              exact absurd ((al j).mpr r) o
            · exact ⟨k, a, by omega, r⟩
      · dsimp only
        have jr := c'.right
        have hj := f.mks j jr.1 jr.2.1
        by_cases q : s = i
        · subst q
          rw [hj.1 ((al j).mpr c'), hn]
        · have no : j ∉ out := fun o => isrt.2 s a.1.1 (by omega) (c'.trans (R8_symm ((al j).mp o)))
          rw [hj.2 no]
          exact hv s j a (by omega) c'
    · have e1 : i = w * h := by omega
      subst e1
      exact ⟨hn, hlm, hmk, hv⟩
  · dsimp only
    constructor
    · intro z
      exact absurd (rd_replicate _ _ _ j0 (by omega)) z
    · rintro ⟨k, a, b, _⟩
      omega
theorem rts_at {w h : Int} {p : List Int} : ∀ (n : Nat) (t : Int), 0 ≤ t → t < ((rts w h p n).length : Int) → ((rts w h p (rd (rts w h p n) t).toNat).length : Int) = t
  | 0, t, a, b => by simp [rts] at b; omega
  | n + 1, t, a, b => by
    rw [rts_s] at b ⊢
    by_cases c : rt w h p n
    · rw [if_pos c] at b ⊢
      rw [rd_append _ _ _ a]
      by_cases e : t = ((rts w h p n).length : Int)
      · rw [if_pos e]
        simp [e]
      · rw [if_neg e]
        rw [List.length_append] at b
        exact rts_at n t a (by simp at b; omega)
    · rw [if_neg c] at b ⊢
      exact rts_at n t a b
theorem take_rd {l : List Int} {i : Int} (h0 : 0 ≤ i) (h1 : i < (l.length : Int)) : l.take (i + 1).toNat = l.take i.toNat ++ [rd l i] := by
  have h : i.toNat < l.length := by omega
  rw [show (i + 1).toNat = i.toNat + 1 by omega, List.take_add_one]
  simp [rd, List.getD, h]
theorem refComps_is {w h : Int} {p : List Int} (v : Val w h p) {m : List Int} (hlm : m.length = p.length) (hz : ∀ j, 0 ≤ j → j < w * h → (rd m j ≠ 0 ↔ ∃ k, 0 ≤ k ∧ k < w * h ∧ R8 w h p k j)) (hv : ∀ s j, rt w h p s → s < w * h → R8 w h p s j → rd m j = ((rts w h p s.toNat).length : Int) + 1) :
    EvP (fun k => incunableref15_Components.l0 k m ((rts w h p (w * h).toNat).length : Int) [] 1 w h p) (· = (cmpS w h p, 0)) := by
  obtain ⟨hw, hh, hw2, hh2, hm, hp, _⟩ := id v
  have h0 : 0 ≤ w * h := Int.mul_nonneg hw hh
  have cb := rts_len w h p (w * h).toNat
  refine EvP.up (L := fun k i (s : List S48) => incunableref15_Components.l0 k m ((rts w h p (w * h).toNat).length : Int) s i w h p) (fun i s => 1 ≤ i ∧ s = ((rts w h p (w * h).toNat).take (i - 1).toNat).map (cmpP w h p)) (((rts w h p (w * h).toNat).length : Int) + 1) ?_ 1 [] (by omega) ⟨by omega, rfl⟩
  intro i s ⟨i0, hs⟩ hi ih
  refine EvP.step (fun k => by rw [incunableref15_Components.l0]) ?_
  refine EvP.ite (fun i1 => ?_) (fun i1 => EvP.ret ?_)
  · obtain ⟨r, er⟩ : ∃ r, r = rd (rts w h p (w * h).toNat) (i - 1) := ⟨_, rfl⟩
    have rm : r ∈ rts w h p (w * h).toNat := by rw [er]; exact rd_mem (by omega) (by omega)
    obtain ⟨r0, r1, r2⟩ := (rts_mem r _).mp rm
    have ri : ((rts w h p r.toNat).length : Int) = i - 1 := by rw [er]; exact rts_at _ _ (by omega) (by omega)
    refine EvP.bindv (Copy_is w h p (by omega)) ?_
    have key : ∀ j, 0 ≤ j → j < w * h → (if rd m j = i then rd p j else 0) = rd (mskL w h p r) j := fun j j0 j1 => by
      obtain ⟨_, e1, e2, e3, e4, e5⟩ := flat_of hw j0 j1
      have em : rd (mskL w h p r) j = ind (SP w h p r) (j % w) (j / w) := rd_tab _ _ _ _ j0 j1
      rw [em]
      by_cases q : R8 w h p r j
      · rw [if_pos (by rw [hv r j r2 (by omega) q, ri]; omega), q.right.2.2]
        exact (ind_1.mpr ⟨⟨e1, e2, e3, e4⟩, by rw [e5]; exact q⟩).symm
      · have e0 : ind (SP w h p r) (j % w) (j / w) = 0 := by
          have a := ind_01 (SP w h p r) (j % w) (j / w)
          have b : ¬ ind (SP w h p r) (j % w) (j / w) = 1 := fun z => q (by have := (ind_1.mp z).2; rw [e5] at this; exact this)
          omega
        rw [e0, if_neg]
        intro z
        obtain ⟨k, k0, k1, rk⟩ := (hz j j0 j1).mp (by rw [z]; omega)
        obtain ⟨s', a, b, c, d⟩ := rt_of (k.toNat + 1) k j (by omega) rk
        have := hv s' j c (by omega) d
        have e6 : s' = r := rts_inj c r2 (by omega)
        rw [e6] at d
        exact q d
    refine EvP.up (L := fun k j (q : List Int) => incunableref15_Components.l1 k m ((rts w h p (w * h).toNat).length : Int) s i j w h p w h q) (fun j q => 0 ≤ j ∧ q.length = p.length ∧ (∀ x, 0 ≤ x → x < j → rd q x = rd (mskL w h p r) x) ∧ ∀ x, j ≤ x → rd q x = rd p x) m.length ?_ 0 p (by omega) ⟨by omega, rfl, fun x a b => by omega, fun _ _ => rfl⟩
    intro j q ⟨j0, hq, h1, h2⟩ hj ih2
    refine EvP.step (fun k => by rw [incunableref15_Components.l1]) ?_
    refine EvP.ite (fun j1 => ?_) (fun j1 => ?_)
    · refine EvP.pos j0 ?_
      rw [w64 (x := j + 1) (by omega) (by omega)]
      have kj := key j j0 (by omega)
      refine EvP.ite (fun c => ?_) (fun c => ?_)
      · rw [if_pos c] at kj
        refine ih2 q j1 ⟨by omega, hq, fun x x0 x1 => ?_, fun x hx => h2 x (by omega)⟩
        by_cases z : x = j
        · rw [z, h2 j (by omega), kj]
        · exact h1 x x0 (by omega)
      · rw [if_neg c] at kj
        refine EvP.pos (by omega) (ih2 (q.set j.toNat 0) j1 ⟨by omega, by rw [List.length_set, hq], fun x x0 x1 => ?_, fun x hx => ?_⟩)
        · rw [rd_set _ _ _ _ j0 (by omega) x0]
          by_cases z : x = j
          · rw [if_pos z, z, kj]
          · rw [if_neg z]
            exact h1 x x0 (by omega)
        · rw [rd_set _ _ _ _ j0 (by omega) (by omega), if_neg (by omega)]
          exact h2 x (by omega)
    · have ml : ((mskL w h p r).length : Int) = w * h := by unfold mskL; rw [tab_length]; omega
      have eq : q = mskL w h p r := rd_ext (by omega) (fun x x0 x1 => h1 x x0 (by omega))
      have vm : Val w h (mskL w h p r) := val_tab v.sid (fun x y _ _ _ _ => ind_01 _ x y)
      rw [eq]
      refine EvP.bind (refTrim_is w h (mskL w h p r) (fun z hz => (val_byt vm z hz).1) (by omega)) ?_
      rintro _ rfl
      have ls : s.length ≤ (rts w h p (w * h).toNat).length := by rw [hs, List.length_map, List.length_take]; omega
      refine EvP.pos (by omega) ?_
      rw [w64 (x := i + 1) (by omega) (by omega)]
      refine ih (s ++ [cmpP w h p r]) (by omega) ⟨by omega, ?_⟩
      rw [show (i + 1 - 1).toNat = ((i - 1) + 1).toNat by omega, take_rd (by omega) (by omega), List.map_append, hs, ← er]
      rfl
  · rw [hs, show (i - 1).toNat = (rts w h p (w * h).toNat).length by omega, List.take_length]
    rfl
theorem refComponents_is (w h : Int) (p : List Int) (hp : ∀ x ∈ p, 0 ≤ x) (hl : (p.length : Int) ≤ 9223372036854775807) : EvP (fun k => incunableref15_Components.f k w h p) (· = cmpR w h p) := by
  unfold incunableref15_Components.f cmpR
  refine EvP.bind (refValid_is w h p hp hl) ?_
  rintro _ rfl
  refine EvP.ite (fun q => ?_) (fun q => EvP.ret (by rw [if_neg (by simpa using q)]))
  have v : Val w h p := by simpa using q
  rw [if_pos v]
  refine EvP.bind (Marks_is v) ?_
  rintro ⟨m, n⟩ ⟨e1, e2, e3, e4⟩
  dsimp only at e1 e2 e3 e4
  subst e1
  exact refComps_is v e2 e3 e4

theorem combine_is {op a b : Int} (h0 : 0 ≤ op) (h1 : op ≤ 4) (a0 : 0 ≤ a) (a1 : a ≤ 1) (b0 : 0 ≤ b) (b1 : b ≤ 1) : bitmap_combine.f a b op = some (mixv op a b) := by
  rcases five h0 h1 with rfl | rfl | rfl | rfl | rfl <;> rcases bit a0 a1 with rfl | rfl <;> rcases bit b0 b1 with rfl | rfl <;> decide +kernel

theorem at_is {w h : Int} {p : List Int} (v : Val w h p) (x y : Int) : bitmap_at.f w h p x y = some (pix w h p x y) := by
  unfold bitmap_at.f
  by_cases hc : 0 ≤ x ∧ x < w ∧ 0 ≤ y ∧ y < h
  · have hf := flat_lt hc.1 hc.2.1 hc.2.2.1 hc.2.2.2
    have hm := v.2.2.2.2.1
    have hl := v.2.2.2.2.2.1
    rw [if_neg (by omega), if_neg (by omega), if_neg (by omega), if_neg (by omega)]
    have e : wrap64 (y * w) = y * w := w64 (by omega) (by omega)
    rw [e, w64 (by omega) (by omega), if_pos hf.2.1, if_pos (by omega), pix_in hc.1 hc.2.1 hc.2.2.1 hc.2.2.2]
  · rw [pix_out hc]
    by_cases a : x < 0
    · rw [if_pos a]
    rw [if_neg a]
    by_cases b : y < 0
    · rw [if_pos b]
    rw [if_neg b]
    by_cases c : x ≥ w
    · rw [if_pos c]
    rw [if_neg c, if_pos (by omega)]

theorem clone_is (w h : Int) (p : List Int) (hl : p.length < 140737488355328) : bitmap_clone.f w h p = some (w, h, p) := by
  unfold bitmap_clone.f bytes_Clone.f
  simp only [Option.bind_some, List.length_nil, Nat.zero_add, List.nil_append]
  rw [if_pos hl]
  rfl

theorem isShift_is (x y : Int) : bitmap_isShift.f x y = some (decide (Shf x y)) := by
  unfold bitmap_isShift.f mn mx
  by_cases a : Shf x y
  · obtain ⟨b, c, d, e⟩ := a
    rw [if_pos (by split <;> omega)]
    refine congrArg some ?_
    rw [decide_eq_true (show Shf x y from ⟨b, c, d, e⟩), decide_eq_true (by split <;> omega)]
  · rw [decide_eq_false a]
    by_cases q : (if y < x then y else x) ≥ -100000
    · rw [if_pos q]
      refine congrArg some (decide_eq_false (fun r => a ?_))
      refine ⟨?_, ?_, ?_, ?_⟩ <;> (split at q <;> split at r <;> omega)
    · rw [if_neg q]

theorem Draw_l0 {w h : Int} {p : List Int} {w' h' : Int} {s : List Int} {x y op : Int} (v : Val w h p) (v' : Val w' h' s) (h0 : 0 ≤ op) (h1 : op ≤ 4) (hs : Shf x y) :
    EvP (fun k => bitmap_Draw.l0 k x y op h' 0 w h p w' h' s w h p) (· = (w, h, tab w h (drawG (pix w h p) w' h' s x y op), 0)) := by
  obtain ⟨hw, hh, w200, h200, hm⟩ := v.sid
  obtain ⟨hw', hh', w200', h200', _⟩ := v'.sid
  obtain ⟨sx0, sx1, sy0, sy1⟩ := hs
  have h00 : 0 ≤ w * h := Int.mul_nonneg hw hh
  have ep : EvP (fun k => bitmap_Draw.l0 k x y op h' 0 w h p w' h' s w h (tab w h (pix w h p))) (· = (w, h, tab w h (drawG (pix w h p) w' h' s x y op), 0)) := by
    refine EvP.rasterP (L0 := fun k j (l : List Int) => bitmap_Draw.l0 k x y op h' j w h p w' h' s w h l) (L1 := fun k j i (l : List Int) => bitmap_Draw.l1 k x y op j h' j w' i w h p w' h' s w h l) (W := w') (H := h')
      (fun i j => x + i) (fun i j => y + j) (fun u t => u - x) (fun u t => t - y) (pix w h p) (fun u t => mixv op (pix w h p u t) (pix w' h' s (u - x) (t - y))) hw' hh' hw hh ?_ ?_ ?_ ?_ ?_ ?_ ?_
    · intro i j a b c d
      exact ⟨by show x + i - x = i; omega, by show y + j - y = j; omega⟩
    · intro u t a b c d e f g' h'
      exact ⟨by show x + (u - x) = u; omega, by show y + (t - y) = t; omega⟩
    · intro j l a b hk
      refine EvP.step (fun k => by rw [bitmap_Draw.l0]) ?_
      exact EvP.pos b hk
    · refine EvP.step (fun k => by rw [bitmap_Draw.l0]) ?_
      exact EvP.neg (by omega) (EvP.ret rfl)
    · intro i j g' a b c d p0 p1 q0 q1 e hk
      have p0 : 0 ≤ x + i := p0
      have p1 : x + i < w := p1
      have q0 : 0 ≤ y + j := q0
      have q1 : y + j < h := q1
      have e1 := v.pix01 (x + i) (y + j)
      have hf := flat_lt p0 p1 q0 q1
      refine EvP.step (fun k => by rw [bitmap_Draw.l1]) ?_
      refine EvP.pos b ?_
      rw [w64 (x := x + i) (by omega) (by omega), w64 (x := y + j) (by omega) (by omega)]
      refine EvP.pos p0 (EvP.pos q0 (EvP.pos p1 ?_))
      refine EvP.step (fun k => by rw [bitmap_Draw.j3]) ?_
      refine EvP.pos (decide_eq_true q1) ?_
      rw [w64 (x := (y + j) * w) (by omega) (by omega), w64 (x := (y + j) * w + (x + i)) (by omega) (by omega)]
      refine EvP.pos hf.2.1 (EvP.pos (by rw [tab_length]; omega) ?_)
      refine EvP.bindv (at_is v' i j) ?_
      have e2 : g' (x + i) (y + j) = pix w h p (x + i) (y + j) := e
      rw [rd_tab_at _ _ _ _ _ p0 p1 q0 q1, e2]
      have e3 := v'.pix01 i j
      refine EvP.bindv (combine_is h0 h1 e1.1 e1.2 e3.1 e3.2) ?_
      rw [set_tab hw hh p0 p1 q0 q1, w64 (x := i + 1) (by omega) (by omega)]
      have e5 : x + i - x = i := by omega
      have e6 : y + j - y = j := by omega
      simp only [e5, e6] at hk
      exact hk
    · intro i j g' a b c d q hk
      have q : ¬ (0 ≤ x + i ∧ x + i < w ∧ 0 ≤ y + j ∧ y + j < h) := q
      have skip : EvP (fun k => bitmap_Draw.j3 k x y op j i (x + i) (y + j) h' j w' i false w h p w' h' s w h (tab w h g')) (· = (w, h, tab w h (drawG (pix w h p) w' h' s x y op), 0)) := by
        refine EvP.step (fun k => by rw [bitmap_Draw.j3]) ?_
        refine EvP.neg (by simp) ?_
        rw [w64 (x := i + 1) (by omega) (by omega)]
        exact hk
      refine EvP.step (fun k => by rw [bitmap_Draw.l1]) ?_
      refine EvP.pos b ?_
      rw [w64 (x := x + i) (by omega) (by omega), w64 (x := y + j) (by omega) (by omega)]
      refine EvP.ite (fun q1 => EvP.ite (fun q2 => EvP.ite (fun q3 => ?_) (fun q3 => skip)) (fun q2 => skip)) (fun q1 => skip)
      rw [decide_eq_false (show ¬ y + j < h by omega)]
      exact skip
    · intro j l a b hk
      refine EvP.step (fun k => by rw [bitmap_Draw.l1]) ?_
      refine EvP.neg (by omega) ?_
      rw [w64 (x := j + 1) (by omega) (by omega)]
      exact hk
  rw [← v.tab] at ep
  exact ep
theorem Draw_is (w h : Int) (p : List Int) (w' h' : Int) (s : List Int) (x y op : Int) (hp : ∀ x ∈ p, 0 ≤ x) (hl : (p.length : Int) ≤ 9223372036854775807) (hp' : ∀ x ∈ s, 0 ≤ x) (hl' : (s.length : Int) ≤ 9223372036854775807) :
    EvP (fun k => bitmap_Draw.f k w h p w' h' s x y op) (· = drawR w h p w' h' s x y op) := by
  unfold bitmap_Draw.f
  refine EvP.bind (Valid_is w h p hp hl) ?_
  rintro _ rfl
  refine EvP.ite (fun h1 => ?_) (fun h1 => ?_)
  · refine EvP.bind (Valid_is w' h' s hp' hl') ?_
    rintro _ rfl
    have v : Val w h p := by simpa using h1
    refine EvP.step (fun k => by rw [bitmap_Draw.j0]) ?_
    refine EvP.ite (fun h2 => EvP.ret ?_) (fun h2 => ?_)
    · unfold drawR
      rw [if_pos (fun q => by simp [q.2] at h2)]
    · have v' : Val w' h' s := by simpa using h2
      have hlen : (p.length : Int) ≤ 8192 := by rw [v.2.2.2.2.2.1]; exact v.2.2.2.2.1
      unfold drawR
      rw [if_neg (c := ¬ (Val w h p ∧ Val w' h' s)) (fun q => q ⟨v, v'⟩)]
      refine EvP.ite (fun a => EvP.ret (by rw [if_pos (.inl a)])) (fun a => ?_)
      refine EvP.ite (fun b => EvP.ret (by rw [if_pos (.inr (.inl b))])) (fun b => ?_)
      refine EvP.bindv (isShift_is x y) ?_
      refine EvP.ite (fun c => ?_) (fun c => EvP.ret (by rw [if_pos (.inr (.inr (by simpa using c)))]))
      have hs : Shf x y := by simpa using c
      rw [if_neg (fun q => q.elim a (fun q => q.elim b (fun q => q hs)))]
      refine EvP.bindv (clone_is w h p (by omega)) ?_
      exact Draw_l0 v v' (by omega) (by omega) hs
  · have v : ¬ Val w h p := by simpa using h1
    refine EvP.step (fun k => by rw [bitmap_Draw.j0]) ?_
    refine EvP.pos rfl (EvP.ret ?_)
    unfold drawR
    rw [if_pos (fun q => v q.1)]

theorem near_is (x : Int) : shape_near.f x = some (decide (-100000 ≤ x ∧ x ≤ 100000)) := by
  unfold shape_near.f
  by_cases a : x ≥ -100000
  · rw [if_pos a]
    exact congrArg some (decide_eq_decide.mpr ⟨fun q => ⟨a, q⟩, fun q => q.2⟩)
  · rw [if_neg a]
    exact congrArg some (decide_eq_false (fun q => a q.1)).symm
theorem PIndex_is (l : List S48) (hl : (l.length : Int) ≤ 9223372036854775807) (hc : ∀ b ∈ l, CP b) : EvP (fun k => slices_IndexFunc_85.f k l) (fun r => 0 ≤ r ↔ ∃ b ∈ l, ¬ VP b) := by
  unfold slices_IndexFunc_85.f
  refine EvP.up (L := fun k i (_ : Unit) => slices_IndexFunc_85.l0 k l (l.length : Int) i) (fun i _ => 0 ≤ i ∧ ∀ b ∈ l.take i.toNat, VP b) l.length ?_ 0 () (by omega) ⟨by omega, fun b hb => by simp at hb⟩
  intro i s ⟨i0, hs⟩ hi ih
  refine EvP.step (fun k => by rw [slices_IndexFunc_85.l0]) ?_
  refine EvP.ite (fun i1 => ?_) (fun i1 => ?_)
  · have ci := hc _ (rd48_mem i0 i1)
    have e : EvP (fun k => shape_rightPlaced_1.f k (rd_T48 l i).f0.f0 (rd_T48 l i).f0.f1 (rd_T48 l i).f0.f2 (rd_T48 l i).f1 (rd_T48 l i).f2) (· = !decide (VP (rd_T48 l i))) := by
      unfold shape_rightPlaced_1.f
      refine EvP.bind (Valid_is _ _ _ ci.1 ci.2) ?_
      rintro _ rfl
      exact EvP.ret rfl
    refine EvP.pos i0 (EvP.pos i1 (EvP.bind e ?_))
    rintro _ rfl
    refine EvP.ite (fun c => EvP.ret ?_) (fun c => ?_)
    · have c : ¬ VP (rd_T48 l i) := by simpa using c
      exact ⟨fun _ => ⟨_, rd48_mem i0 i1, c⟩, fun _ => i0⟩
    · have c : VP (rd_T48 l i) := by simpa using c
      rw [w64 (by omega) (by omega)]
      refine ih () i1 ⟨by omega, fun b hb => ?_⟩
      rw [take48 i0 i1] at hb
      rcases List.mem_append.mp hb with hb | hb
      · exact hs b hb
      · rw [List.mem_singleton.mp hb]; exact c
  · refine EvP.ret ⟨fun h => by omega, fun ⟨b, a, c⟩ => absurd (hs b ?_) c⟩
    rw [show i.toNat = l.length by omega, List.take_length]
    exact a
theorem right_is (l : List S48) (hl : (l.length : Int) ≤ 9223372036854775807) (hc : ∀ b ∈ l, CP b) : EvP (fun k => shape_rightPlaced.f k l) (· = !decide (∃ b ∈ l, ¬ VP b)) := by
  unfold shape_rightPlaced.f
  have : EvP (fun k => slices_ContainsFunc_85.f k l) (· = decide (∃ b ∈ l, ¬ VP b)) := by
    unfold slices_ContainsFunc_85.f
    refine EvP.bind (PIndex_is l hl hc) (fun r hr => EvP.ret ?_)
    exact decide_eq_decide.mpr hr
  refine EvP.bind this ?_
  rintro _ rfl
  exact EvP.ret rfl
theorem Draw15_l0 {w h : Int} {l : List S48} (s : Sid w h) (hv : ∀ b ∈ l, VP b) (hl : (l.length : Int) ≤ 9223372036854775806) : EvP (fun k => shape_Draw.l0 k l (l.length : Int) 0 w h (tab w h (fun _ _ => 0))) (· = drQ w h l) := by
  have nb : ¬ (¬ Sid w h ∨ ∃ b ∈ l, ¬ VP b) := fun q => q.elim (fun q => q s) (fun ⟨b, hb, q⟩ => q (hv b hb))
  refine EvP.up (L := fun k i (p : List Int) => shape_Draw.l0 k l (l.length : Int) i w h p) (fun i p => 0 ≤ i ∧ p = tab w h (orL (l.take i.toNat)) ∧ ∀ b ∈ l.take i.toNat, NP b) l.length ?_ 0 _ (by omega) ⟨by omega, rfl, fun b hb => by simp at hb⟩
  intro i p ⟨i0, hp, hn⟩ hi ih
  refine EvP.step (fun k => by rw [shape_Draw.l0]) ?_
  refine EvP.ite (fun i1 => ?_) (fun i1 => EvP.ret ?_)
  · have hm := rd48_mem i0 i1
    have hb := hv _ hm
    have far : ¬ NP (rd_T48 l i) → (0, 0, [], 2) = drQ w h l := fun q => by
      unfold drQ
      rw [if_neg nb, if_pos ⟨_, hm, q⟩]
    refine EvP.pos i0 (EvP.pos i1 (EvP.bindv (near_is _) ?_))
    refine EvP.ite (fun c => ?_) (fun c => EvP.ret (far (fun q => c (decide_eq_true ⟨q.1, q.2.1⟩))))
    have c := of_decide_eq_true c
    refine EvP.bindv (near_is _) ?_
    refine EvP.ite (fun d => ?_) (fun d => EvP.ret (far (fun q => d (decide_eq_true ⟨q.2.2.1, q.2.2.2⟩))))
    have d := of_decide_eq_true d
    have hs : NP (rd_T48 l i) := ⟨c.1, c.2, d.1, d.2⟩
    have vp : Val w h p := by rw [hp]; exact val_tab s (fun u t _ _ _ _ => orL_01 _ u t)
    have lp : (p.length : Int) ≤ 8192 := by rw [vp.2.2.2.2.2.1]; exact vp.2.2.2.2.1
    have lb : ((rd_T48 l i).f0.f2.length : Int) ≤ 8192 := by rw [hb.2.2.2.2.2.1]; exact hb.2.2.2.2.1
    refine EvP.bind (Draw_is w h p _ _ _ _ _ 1 (fun z hz => (val_byt vp z hz).1) (by omega) (fun z hz => (val_byt hb z hz).1) (by omega)) ?_
    rintro _ rfl
    have e : drawR w h p (rd_T48 l i).f0.f0 (rd_T48 l i).f0.f1 (rd_T48 l i).f0.f2 (rd_T48 l i).f1 (rd_T48 l i).f2 1 = (w, h, tab w h (orL (l.take (i + 1).toNat)), 0) := by
      unfold drawR
      rw [if_neg (fun q => q ⟨vp, hb⟩), if_neg (fun q => q.elim (by omega) (fun q => q.elim (by omega) (fun q => q hs))), take48 i0 i1, ← draw_step s hb, hp]
    rw [e, w64 (x := i + 1) (by omega) (by omega)]
    refine ih _ i1 ⟨by omega, rfl, fun b hb => ?_⟩
    rw [take48 i0 i1] at hb
    rcases List.mem_append.mp hb with hb | hb
    · exact hn b hb
    · rw [List.mem_singleton.mp hb]; exact hs
  · have e : l.take i.toNat = l := by rw [show i.toNat = l.length by omega, List.take_length]
    rw [e] at hp hn
    unfold drQ
    rw [if_neg nb, if_neg (fun ⟨b, hb, q⟩ => q (hn b hb)), hp]
theorem Draw15_is (w h : Int) (l : List S48) (hc : ∀ b ∈ l, CP b) (hl : (l.length : Int) ≤ 9223372036854775806) : EvP (fun k => shape_Draw.f k w h l) (· = drQ w h l) := by
  have bad : ¬ Sid w h ∨ (∃ b ∈ l, ¬ VP b) → ∀ x y p, EvP (fun k => shape_Draw.j0 k l true x y p) (· = drQ w h l) := fun q x y p => by
    refine EvP.step (fun k => by rw [shape_Draw.j0]) (EvP.pos rfl (EvP.ret ?_))
    unfold drQ
    rw [if_pos q]
  unfold shape_Draw.f
  refine EvP.bind (New_is w h 0) ?_
  rintro _ rfl
  refine EvP.ite (fun e => ?_) (fun e => bad (.inl (fun s => e ?_)) _ _ _)
  · have s : Sid w h := by
      refine Classical.not_not.mp (fun q => ?_)
      unfold newR at e
      rw [if_neg q] at e
      split at e <;> exact absurd e (by decide)
    have en := new0 s.1 s.2.1
    rw [if_pos s] at en
    rw [en]
    refine EvP.bind (right_is l (by omega) hc) ?_
    rintro _ rfl
    by_cases q : ∃ b ∈ l, ¬ VP b
    · rw [decide_eq_true q]
      exact bad (.inr q) _ _ _
    · rw [decide_eq_false q]
      refine EvP.step (fun k => by rw [shape_Draw.j0]) ?_
      refine EvP.neg (by simp) ?_
      exact Draw15_l0 s (fun b hb => Classical.not_not.mp (fun z => q ⟨b, hb, z⟩)) hl
  · rw [new0 s.1 s.2.1, if_pos s]

theorem Cut_is (w h : Int) (p : List Int) (x y w' h' : Int) (hp : ∀ x ∈ p, 0 ≤ x) (hl : (p.length : Int) ≤ 9223372036854775807) : EvP (fun k => bitmap_Cut.f k w h p x y w' h') (· = cutR w h p x y w' h') := by
  unfold bitmap_Cut.f
  refine EvP.bind (Valid_is w h p hp hl) ?_
  rintro _ rfl
  unfold cutR
  refine EvP.ite (fun h1 => ?_) (fun h1 => EvP.ret (by rw [if_pos (by simpa using h1)]))
  have v : Val w h p := by simpa using h1
  rw [if_neg (c := ¬ Val w h p) (fun q => q v)]
  refine EvP.ite (fun a => EvP.ret (by rw [if_pos (.inl a)])) (fun a => ?_)
  refine EvP.ite (fun b => EvP.ret (by rw [if_pos (.inr (.inl b))])) (fun b => ?_)
  refine EvP.bindv (isShift_is x y) ?_
  refine EvP.ite (fun c => ?_) (fun c => EvP.ret (by rw [if_pos (.inr (.inr (by simpa using c)))]))
  have hs : Shf x y := by simpa using c
  rw [if_neg (fun q => q.elim a (fun q => q.elim b (fun q => q hs)))]
  refine EvP.bindv (blank_is w' h') ?_
  by_cases s : Sid w' h'
  · simp only [if_pos s]
    obtain ⟨sx0, sx1, sy0, sy1⟩ := hs
    have hm := sid_mul s.1 s.2.1 s.2.2.1 s.2.2.2.1
    have hlen : ((tab w' h' fun _ _ => (0 : Int)).length : Int) = w' * h' := by rw [tab_length]; omega
    obtain ⟨_, _, w200, h200, _⟩ := s
    refine EvP.fillT (L := fun k i l => bitmap_Cut.l0 k x y w' 0 ((tab w' h' fun _ _ => 0).length : Int) i w h p w' h' l) (by omega) (by omega) (tab w' h' fun _ _ => 0) hlen (partG w h p x y) ?_ ?_
    · intro i l h0 h2 hl hw0 p0 p1 q0 q1 e1 e2 _ _ hk
      refine EvP.step (fun k => by rw [bitmap_Cut.l0]) ?_
      refine EvP.pos h2 (EvP.neg (by omega) ?_)
      rw [e1, e2, w64 (x := i / w') (by omega) (by omega), w64 (x := x + i % w') (by omega) (by omega), w64 (x := y + i / w') (by omega) (by omega)]
      refine EvP.bindv (at_is v _ _) ?_
      refine EvP.pos h0 (EvP.pos (by omega) ?_)
      rw [w64 (by omega) (by omega)]
      exact hk
    · refine EvP.step (fun k => by rw [bitmap_Cut.l0]) ?_
      exact EvP.neg (by omega) (EvP.ret rfl)
  · simp only [if_neg s]
    refine EvP.step (fun k => by rw [bitmap_Cut.l0]) ?_
    exact EvP.neg (by simp) (EvP.ret rfl)

theorem mn_v (a b : Int) : mn a b = mnv a b := rfl
theorem mx_v (a b : Int) : mx a b = mxv a b := rfl
theorem Trim_is (w h : Int) (p : List Int) (hp : ∀ x ∈ p, 0 ≤ x) (hl : (p.length : Int) ≤ 9223372036854775807) : EvP (fun k => bitmap_Trim.f k w h p) (· = trimR w h p) := by
  unfold bitmap_Trim.f trimR
  refine EvP.bind (Valid_is w h p hp hl) ?_
  rintro _ rfl
  refine EvP.ite (fun h1 => ?_) (fun h1 => EvP.ret (by rw [if_neg (by simpa using h1)]))
  have v : Val w h p := by simpa using h1
  rw [if_pos v]
  obtain ⟨hw, hh, w200, h200, hm⟩ := v.sid
  have hlen := v.2.2.2.2.2.1
  have h0 : 0 ≤ w * h := Int.mul_nonneg hw hh
  refine EvP.up (L := fun k i (s : Int × Int × Int × Int) => bitmap_Trim.l0 k s.1 s.2.1 s.2.2.1 s.2.2.2 p (p.length : Int) i w h p) (fun i s => 0 ≤ i ∧ s = trf w h p i.toNat) p.length ?_ 0 (w, h, -1, -1) (by omega) ⟨by omega, rfl⟩
  intro i s ⟨i0, hs⟩ hi ih
  refine EvP.step (fun k => by rw [bitmap_Trim.l0]) ?_
  refine EvP.ite (fun h2 => ?_) (fun h2 => ?_)
  · refine EvP.pos i0 (EvP.pos h2 ?_)
    obtain ⟨hw', a, b, c, d, _⟩ := flat_of (h := h) hw i0 (show i < w * h by omega)
    have es : trf w h p (i + 1).toNat = stp w p i s := by
      rw [show (i + 1).toNat = i.toNat + 1 by omega, hs]
      show stp w p (i.toNat : Int) _ = _
      rw [show ((i.toNat : Nat) : Int) = i by omega]
    refine EvP.ite (fun h3 => ?_) (fun h3 => ?_)
    · refine EvP.neg (by omega) ?_
      rw [tmod_pos i0, tdiv_pos i0, w64 (x := i / w) (by omega) (by omega), w64 (x := i + 1) (by omega) (by omega)]
      refine ih (mnv s.1 (i % w), mnv s.2.1 (i / w), mxv s.2.2.1 (i % w), mxv s.2.2.2 (i / w)) h2 ⟨by omega, ?_⟩
      rw [es]
      unfold stp
      rw [if_pos h3]
    · rw [w64 (x := i + 1) (by omega) (by omega)]
      refine ih s h2 ⟨by omega, ?_⟩
      rw [es]
      unfold stp
      rw [if_neg h3]
  · have e : s = trb w h p := by
      rw [hs]
      unfold trb
      congr 1
      omega
    subst e
    have hb := trb_box (p := p) hw hh
    unfold trimT
    refine EvP.ite (fun r => EvP.ret (by rw [if_pos r])) (fun r => ?_)
    rw [if_neg r]
    obtain ⟨sd, b1, b2, b3, b4, b5, b6, b7, b8⟩ := box_sid v.sid hb r
    rw [w64 (x := (trb w h p).2.2.1 - (trb w h p).1) (by omega) (by omega), w64 (x := (trb w h p).2.2.2 - (trb w h p).2.1) (by omega) (by omega), w64 (x := (trb w h p).2.2.1 - (trb w h p).1 + 1) (by omega) (by omega), w64 (x := (trb w h p).2.2.2 - (trb w h p).2.1 + 1) (by omega) (by omega)]
    refine EvP.bind (Cut_is w h p _ _ _ _ hp hl) ?_
    rintro _ rfl
    refine EvP.ret ?_
    have hs : Shf (trb w h p).1 (trb w h p).2.1 := ⟨by omega, by omega, by omega, by omega⟩
    unfold cutR
    rw [if_neg (c := ¬ Val w h p) (fun q => q v), if_neg (by intro q; rcases q with q | q | q; omega; omega; exact q hs), if_pos sd]

section
open Classical
/-- What trimming tells of a valid bitmap. -/
theorem trim_facts {w h : Int} {q : List Int} (v : Val w h q) : ((∀ x y, pix w h q x y ≠ 1) ∧ trimR w h q = (0, 0, [], 0, 0, 0)) ∨
    ∃ l t W H, 1 ≤ W ∧ 1 ≤ H ∧ 0 ≤ l ∧ 0 ≤ t ∧ l + W ≤ w ∧ t + H ≤ h ∧ Sid W H ∧ trimR w h q = (W, H, tab W H (partG w h q l t), l, t, 0) ∧ TB (fun x y => pix w h q x y = 1) l t (l + W - 1) (t + H - 1) := by
  obtain ⟨hw, hh, hw2, hh2, hm, _⟩ := id v
  have hS : ∀ x y, 0 ≤ x → x < w → 0 ≤ y → y < h → (rd q (y * w + x) = 1 ↔ pix w h q x y = 1) := fun x y a b c d => by rw [pix_in a b c d]
  have hS2 : ∀ j : Int, 0 ≤ j → j < w * h → rd q j = 1 → pix w h q (j % w) (j / w) = 1 := fun j a b c => by
    obtain ⟨_, e1, e2, e3, e4, e5⟩ := flat_of hw a b
    exact (hS _ _ e1 e2 e3 e4).mp (by rw [e5]; exact c)
  have hin : ∀ x y, pix w h q x y = 1 → 0 ≤ x ∧ x < w ∧ 0 ≤ y ∧ y < h := fun x y z => by
    by_cases g : 0 ≤ x ∧ x < w ∧ 0 ≤ y ∧ y < h
    · exact g
    · rw [pix_out g] at z
      omega
  have h0 : 0 ≤ w * h := Int.mul_nonneg hw hh
  have hn : (((w * h).toNat : Nat) : Int) = w * h := by omega
  have hb := trb_box (p := q) hw hh
  have ht := trf_tight (w := w) (h := h) (q := q) (w * h).toNat
  rw [hn] at ht
  have blackless : (∀ i : Int, 0 ≤ i → i < w * h → rd q i ≠ 1) → (∀ x y, pix w h q x y ≠ 1) ∧ trimR w h q = (0, 0, [], 0, 0, 0) := fun z => by
    refine ⟨fun x y g => ?_, ?_⟩
    · obtain ⟨a, b, c, d⟩ := hin x y g
      have hf := flat_lt a b c d
      exact z _ hf.2.1 (by omega) ((hS x y a b c d).mpr g)
    · unfold trimR
      rw [if_pos v]
      have e0 : ∀ m : Nat, (m : Int) ≤ w * h → trf w h q m = (w, h, -1, -1) := by
        intro m
        induction m with
        | zero => intro _; rfl
        | succ m ihm =>
          intro hm'
          show stp w q (m : Int) (trf w h q m) = _
          unfold stp
          rw [if_neg (z m (by omega) (by omega)), ihm (by omega)]
      unfold trimT trb
      rw [e0 _ (by omega), if_pos (show (-1 : Int) < 0 by decide)]
  rcases ht with ht | ⟨⟨a, a0, a1, a2, a3⟩, ⟨b, b0, b1, b2, b3⟩, ⟨c, c0, c1, c2, c3⟩, ⟨d, d0, d1, d2, d3⟩⟩ | ht | ht
  · exact .inl (blackless ht)
  · right
    have tb : TB (fun x y => pix w h q x y = 1) (trb w h q).1 (trb w h q).2.1 (trb w h q).2.2.1 (trb w h q).2.2.2 := by
      refine ⟨fun x y s => ?_, ⟨a / w, ?_⟩, ⟨b % w, ?_⟩, ⟨c / w, ?_⟩, ⟨d % w, ?_⟩⟩
      · obtain ⟨x0, x1, y0, y1⟩ := hin x y s
        have hf := flat_lt x0 x1 y0 y1
        rcases hb with hb | hb
        · exact absurd ((hS x y x0 x1 y0 y1).mpr s) (hb.2 _ hf.2.1 (by omega))
        · have := hb.2.2.2.2.2.2 (y * w + x) hf.2.1 (by omega) ((hS x y x0 x1 y0 y1).mpr s)
          rw [flat_mod x0 x1, flat_div x0 x1] at this
          exact this
      · show pix w h q (trf w h q (w * h).toNat).1 _ = 1
        rw [← a3]; exact hS2 a a0 a1 a2
      · show pix w h q _ (trf w h q (w * h).toNat).2.1 = 1
        rw [← b3]; exact hS2 b b0 b1 b2
      · show pix w h q (trf w h q (w * h).toNat).2.2.1 _ = 1
        rw [← c3]; exact hS2 c c0 c1 c2
      · show pix w h q _ (trf w h q (w * h).toNat).2.2.2 = 1
        rw [← d3]; exact hS2 d d0 d1 d2
    obtain ⟨y1, s1⟩ := tb.ri
    have i1 := hin _ _ s1
    have q0 : ¬ (trb w h q).2.2.1 < 0 := by omega
    obtain ⟨sd, k1, k2, _, _, k3, k4, k5, k6⟩ := box_sid v.sid hb q0
    refine ⟨(trb w h q).1, (trb w h q).2.1, (trb w h q).2.2.1 - (trb w h q).1 + 1, (trb w h q).2.2.2 - (trb w h q).2.1 + 1, by omega, by omega, k1, k2, by omega, by omega, sd, ?_, ?_⟩
    · unfold trimR
      rw [if_pos v]
      unfold trimT
      rw [if_neg q0]
    · rw [show (trb w h q).1 + ((trb w h q).2.2.1 - (trb w h q).1 + 1) - 1 = (trb w h q).2.2.1 by omega, show (trb w h q).2.1 + ((trb w h q).2.2.2 - (trb w h q).2.1 + 1) - 1 = (trb w h q).2.2.2 by omega]
      exact tb
  · omega
  · omega
/-- What is tight stays as it is. -/
theorem tight_trim {w h : Int} {q : List Int} (v : Val w h q) (tb : TB (fun x y => pix w h q x y = 1) 0 0 (w - 1) (h - 1)) : trimR w h q = (w, h, q, 0, 0, 0) := by
  rcases trim_facts v with ⟨z, _⟩ | ⟨l, t, W, H, W1, H1, l0, t0, l1, t1, sd, e, tb'⟩
  · obtain ⟨y, s⟩ := tb.le
    exact absurd s (z _ _)
  · obtain ⟨e1, e2, e3, e4⟩ := tb.uniq tb'
    have eW : W = w := by omega
    have eH : H = h := by omega
    subst e1 e2 eW eH
    rw [e, show tab W H (partG W H q 0 0) = q from ?_]
    refine Eq.trans (tab_congr v.1 v.2.1 (fun u t a b c d => ?_)) v.tab.symm
    unfold partG
    rw [Int.zero_add, Int.zero_add]
theorem part_pix {w h l t W H : Int} {q : List Int} (l0 : 0 ≤ l) (t0 : 0 ≤ t) (x y : Int) : pix W H (tab W H (partG w h q l t)) x y = if 0 ≤ x ∧ x < W ∧ 0 ≤ y ∧ y < H then pix w h q (l + x) (t + y) else 0 := pix_tab
/-- The tile of a shape at a place, trimmed. -/
def tileT (c : S48) (x y : Int) : Int × Int × List Int × Int × Int × Int := trimR (mn 40 (c.f0.f0 - x)) (mn 40 (c.f0.f1 - y)) (tab (mn 40 (c.f0.f0 - x)) (mn 40 (c.f0.f1 - y)) (partG c.f0.f0 c.f0.f1 c.f0.f2 x y))
def tileP (c : S48) (x y : Int) : S48 := ⟨⟨(tileT c x y).1, (tileT c x y).2.1, (tileT c x y).2.2.1⟩, c.f1 + x + (tileT c x y).2.2.2.1, c.f2 + y + (tileT c x y).2.2.2.2.1⟩
def tileL (c : S48) (x y : Int) : List S48 := if (tileT c x y).1 > 0 then [tileP c x y] else []
def tx (c : S48) (y : Int) : Nat → Int → List S48
  | 0, _ => []
  | n + 1, x => if x < c.f0.f0 then tileL c x y ++ tx c y n (x + 40) else []
def ty (c : S48) : Nat → Int → List S48
  | 0, _ => []
  | n + 1, y => if y < c.f0.f1 then tx c y 6 0 ++ ty c n (y + 40) else []
theorem mn40 (a : Int) : mn 40 a = min 40 a := by
  unfold mn
  omega
theorem tile_sid {c : S48} (v : VP c) {x y : Int} (x0 : 0 ≤ x) (x1 : x < c.f0.f0) (y0 : 0 ≤ y) (y1 : y < c.f0.f1) : Sid (mn 40 (c.f0.f0 - x)) (mn 40 (c.f0.f1 - y)) ∧ 1 ≤ mn 40 (c.f0.f0 - x) ∧ 1 ≤ mn 40 (c.f0.f1 - y) ∧ mn 40 (c.f0.f0 - x) ≤ 40 ∧ mn 40 (c.f0.f1 - y) ≤ 40 := by
  obtain ⟨a, b, w2, h2, hm, _⟩ := id v
  rw [mn40, mn40]
  have h1 : min 40 (c.f0.f0 - x) * min 40 (c.f0.f1 - y) ≤ 40 * min 40 (c.f0.f1 - y) := Int.mul_le_mul_of_nonneg_right (by omega) (by omega)
  exact ⟨⟨by omega, by omega, by omega, by omega, by omega⟩, by omega, by omega, by omega, by omega⟩
theorem tile_facts {c : S48} (v : VP c) {x y : Int} (x0 : 0 ≤ x) (x1 : x < c.f0.f0) (y0 : 0 ≤ y) (y1 : y < c.f0.f1) :
    (¬ (tileT c x y).1 > 0 ∧ ∀ u z, x ≤ u → u < x + mn 40 (c.f0.f0 - x) → y ≤ z → z < y + mn 40 (c.f0.f1 - y) → pix c.f0.f0 c.f0.f1 c.f0.f2 u z ≠ 1) ∨
    ((tileT c x y).1 > 0 ∧ VP (tileP c x y) ∧ 1 ≤ (tileP c x y).f0.f0 ∧ 1 ≤ (tileP c x y).f0.f1 ∧ (tileP c x y).f0.f0 ≤ 40 ∧ (tileP c x y).f0.f1 ≤ 40 ∧ c.f1 ≤ (tileP c x y).f1 ∧ (tileP c x y).f1 ≤ c.f1 + 400 ∧ c.f2 ≤ (tileP c x y).f2 ∧ (tileP c x y).f2 ≤ c.f2 + 400 ∧
      trimR (tileP c x y).f0.f0 (tileP c x y).f0.f1 (tileP c x y).f0.f2 = ((tileP c x y).f0.f0, (tileP c x y).f0.f1, (tileP c x y).f0.f2, 0, 0, 0) ∧
      ∀ u z, plc (tileP c x y) u z = 1 ↔ x ≤ u - c.f1 ∧ u - c.f1 < x + mn 40 (c.f0.f0 - x) ∧ y ≤ z - c.f2 ∧ z - c.f2 < y + mn 40 (c.f0.f1 - y) ∧ plc c u z = 1) := by
  obtain ⟨sd, w1, h1, w40, h40⟩ := tile_sid v x0 x1 y0 y1
  obtain ⟨_, _, cw, ch, _⟩ := id v
  generalize ew : mn 40 (c.f0.f0 - x) = w' at *
  generalize eh : mn 40 (c.f0.f1 - y) = h' at *
  have vq : Val w' h' (tab w' h' (partG c.f0.f0 c.f0.f1 c.f0.f2 x y)) := part_val v sd
  have eT : tileT c x y = trimR w' h' (tab w' h' (partG c.f0.f0 c.f0.f1 c.f0.f2 x y)) := by unfold tileT; rw [ew, eh]
  have pq : ∀ u z, pix w' h' (tab w' h' (partG c.f0.f0 c.f0.f1 c.f0.f2 x y)) u z = if 0 ≤ u ∧ u < w' ∧ 0 ≤ z ∧ z < h' then pix c.f0.f0 c.f0.f1 c.f0.f2 (x + u) (y + z) else 0 := fun u z => part_pix x0 y0 u z
  rcases trim_facts vq with ⟨z, e⟩ | ⟨l, t, W, H, W1, H1, l0, t0, l1, t1, sd', e, tb⟩
  · left
    refine ⟨by rw [eT, e]; decide, fun u s a b c' d => ?_⟩
    have := z (u - x) (s - y)
    rw [pq, if_pos (by omega), show x + (u - x) = u by omega, show y + (s - y) = s by omega] at this
    exact this
  · right
    have eP : tileP c x y = ⟨⟨W, H, tab W H (partG w' h' (tab w' h' (partG c.f0.f0 c.f0.f1 c.f0.f2 x y)) l t)⟩, c.f1 + x + l, c.f2 + y + t⟩ := by unfold tileP; rw [eT, e]
    have vP : Val W H (tab W H (partG w' h' (tab w' h' (partG c.f0.f0 c.f0.f1 c.f0.f2 x y)) l t)) := part_val vq sd'
    have pp : ∀ u z, pix W H (tab W H (partG w' h' (tab w' h' (partG c.f0.f0 c.f0.f1 c.f0.f2 x y)) l t)) u z = if 0 ≤ u ∧ u < W ∧ 0 ≤ z ∧ z < H then pix w' h' (tab w' h' (partG c.f0.f0 c.f0.f1 c.f0.f2 x y)) (l + u) (t + z) else 0 := fun u z => part_pix l0 t0 u z
    rw [eP]
    refine ⟨by rw [eT, e]; show W > 0; omega, vP, W1, H1, by show W ≤ 40; omega, by show H ≤ 40; omega, by show c.f1 ≤ c.f1 + x + l; omega, by show c.f1 + x + l ≤ c.f1 + 400; omega, by show c.f2 ≤ c.f2 + y + t; omega, by show c.f2 + y + t ≤ c.f2 + 400; omega, ?_, ?_⟩
    · refine tight_trim vP ⟨fun u z s => ?_, ?_, ?_, ?_, ?_⟩
      · have s : pix W H (tab W H (partG w' h' (tab w' h' (partG c.f0.f0 c.f0.f1 c.f0.f2 x y)) l t)) u z = 1 := s
        show 0 ≤ u ∧ u ≤ W - 1 ∧ 0 ≤ z ∧ z ≤ H - 1
        rw [pp] at s
        by_cases g : 0 ≤ u ∧ u < W ∧ 0 ≤ z ∧ z < H
        · omega
        · rw [if_neg g] at s
          omega
      · obtain ⟨b, s⟩ := tb.le
        have := tb.all _ _ s
        refine ⟨b - t, ?_⟩
        show pix W H (tab W H (partG w' h' (tab w' h' (partG c.f0.f0 c.f0.f1 c.f0.f2 x y)) l t)) 0 (b - t) = 1
        (rw [pp, if_pos (by omega), show l + 0 = l by omega, show t + (b - t) = b by omega])
        exact s
      · obtain ⟨b, s⟩ := tb.tp
        have := tb.all _ _ s
        refine ⟨b - l, ?_⟩
        show pix W H (tab W H (partG w' h' (tab w' h' (partG c.f0.f0 c.f0.f1 c.f0.f2 x y)) l t)) (b - l) 0 = 1
        (rw [pp, if_pos (by omega), show t + 0 = t by omega, show l + (b - l) = b by omega])
        exact s
      · obtain ⟨b, s⟩ := tb.ri
        have := tb.all _ _ s
        refine ⟨b - t, ?_⟩
        show pix W H (tab W H (partG w' h' (tab w' h' (partG c.f0.f0 c.f0.f1 c.f0.f2 x y)) l t)) (W - 1) (b - t) = 1
        (rw [pp, if_pos (by omega), show l + (W - 1) = l + W - 1 by omega, show t + (b - t) = b by omega])
        exact s
      · obtain ⟨b, s⟩ := tb.bo
        have := tb.all _ _ s
        refine ⟨b - l, ?_⟩
        show pix W H (tab W H (partG w' h' (tab w' h' (partG c.f0.f0 c.f0.f1 c.f0.f2 x y)) l t)) (b - l) (H - 1) = 1
        (rw [pp, if_pos (by omega), show t + (H - 1) = t + H - 1 by omega, show l + (b - l) = b by omega])
        exact s
    · intro u z
      unfold plc
      dsimp only
      rw [pp]
      by_cases g : 0 ≤ u - (c.f1 + x + l) ∧ u - (c.f1 + x + l) < W ∧ 0 ≤ z - (c.f2 + y + t) ∧ z - (c.f2 + y + t) < H
      · rw [if_pos g, pq, if_pos (by omega), show x + (l + (u - (c.f1 + x + l))) = u - c.f1 by omega, show y + (t + (z - (c.f2 + y + t))) = z - c.f2 by omega]
        constructor
        · intro s
          exact ⟨by omega, by omega, by omega, by omega, s⟩
        · exact fun s => s.2.2.2.2
      · rw [if_neg g]
        constructor
        · intro s
          omega
        · rintro ⟨a, b, c', d, s⟩
          exfalso
          have := tb.all (u - c.f1 - x) (z - c.f2 - y) (by rw [pq, if_pos (by omega), show x + (u - c.f1 - x) = u - c.f1 by omega, show y + (z - c.f2 - y) = z - c.f2 by omega]; exact s)
          omega
theorem tx_mem {c b : S48} {y : Int} : ∀ (n : Nat) (x : Int), b ∈ tx c y n x ↔ ∃ k : Nat, k < n ∧ x + 40 * k < c.f0.f0 ∧ b ∈ tileL c (x + 40 * k) y := by
  intro n
  induction n with
  | zero => exact fun x => ⟨fun h => (by cases h), fun ⟨k, h, _⟩ => (by cases h)⟩
  | succ n ih =>
    intro x
    show b ∈ (if x < c.f0.f0 then _ else _) ↔ _
    by_cases g : x < c.f0.f0
    · rw [if_pos g, List.mem_append, ih]
      constructor
      · rintro (h | ⟨k, k1, k2, k3⟩)
        · exact ⟨0, Nat.succ_pos _, by omega, by rw [show x + 40 * ((0 : Nat) : Int) = x by omega]; exact h⟩
        · exact ⟨k + 1, Nat.succ_lt_succ k1, by omega, by rw [show x + 40 * ((k + 1 : Nat) : Int) = x + 40 + 40 * k by omega]; exact k3⟩
      · rintro ⟨k, k1, k2, k3⟩
        cases k with
        | zero => left; rwa [show x + 40 * ((0 : Nat) : Int) = x by omega] at k3
        | succ k => right; exact ⟨k, by omega, by omega, by rwa [show x + 40 * ((k + 1 : Nat) : Int) = x + 40 + 40 * k by omega] at k3⟩
    · rw [if_neg g]
      exact ⟨fun h => (by cases h), fun ⟨k, _, h, _⟩ => by omega⟩
theorem ty_mem {c b : S48} : ∀ (n : Nat) (y : Int), b ∈ ty c n y ↔ ∃ k : Nat, k < n ∧ y + 40 * k < c.f0.f1 ∧ b ∈ tx c (y + 40 * k) 6 0 := by
  intro n
  induction n with
  | zero => exact fun x => ⟨fun h => (by cases h), fun ⟨k, h, _⟩ => (by cases h)⟩
  | succ n ih =>
    intro y
    show b ∈ (if y < c.f0.f1 then _ else _) ↔ _
    by_cases g : y < c.f0.f1
    · rw [if_pos g, List.mem_append, ih]
      constructor
      · rintro (h | ⟨k, k1, k2, k3⟩)
        · exact ⟨0, Nat.succ_pos _, by omega, by rw [show y + 40 * ((0 : Nat) : Int) = y by omega]; exact h⟩
        · exact ⟨k + 1, Nat.succ_lt_succ k1, by omega, by rw [show y + 40 * ((k + 1 : Nat) : Int) = y + 40 + 40 * k by omega]; exact k3⟩
      · rintro ⟨k, k1, k2, k3⟩
        cases k with
        | zero => left; rwa [show y + 40 * ((0 : Nat) : Int) = y by omega] at k3
        | succ k => right; exact ⟨k, by omega, by omega, by rwa [show y + 40 * ((k + 1 : Nat) : Int) = y + 40 + 40 * k by omega] at k3⟩
    · rw [if_neg g]
      exact ⟨fun h => (by cases h), fun ⟨k, _, h, _⟩ => by omega⟩
theorem tileL_mem {c b : S48} {x y : Int} : b ∈ tileL c x y ↔ (tileT c x y).1 > 0 ∧ b = tileP c x y := by
  unfold tileL
  split
  · next h => exact ⟨fun g => ⟨h, List.mem_singleton.mp g⟩, fun g => List.mem_singleton.mpr g.2⟩
  · next h => exact ⟨fun g => (by cases g), fun g => absurd g.1 h⟩
/-- The pieces of a shape. -/
theorem ty_piece {c b : S48} (v : VP c) (hb : b ∈ ty c 6 0) : ∃ x y, 0 ≤ x ∧ x < c.f0.f0 ∧ 0 ≤ y ∧ y < c.f0.f1 ∧ (tileT c x y).1 > 0 ∧ b = tileP c x y := by
  obtain ⟨j, j1, j2, hb⟩ := (ty_mem 6 0).mp hb
  obtain ⟨k, k1, k2, hb⟩ := (tx_mem 6 0).mp hb
  obtain ⟨g, e⟩ := tileL_mem.mp hb
  exact ⟨_, _, by omega, k2, by omega, j2, g, e⟩
theorem ty_plc {c : S48} (v : VP c) (u z : Int) : (∃ b ∈ ty c 6 0, plc b u z = 1) ↔ plc c u z = 1 := by
  obtain ⟨_, _, cw, ch, _⟩ := id v
  constructor
  · rintro ⟨b, hb, s⟩
    obtain ⟨x, y, x0, x1, y0, y1, g, rfl⟩ := ty_piece v hb
    rcases tile_facts v x0 x1 y0 y1 with ⟨g', _⟩ | ⟨_, _, _, _, _, _, _, _, _, _, _, f⟩
    · exact absurd g g'
    · exact ((f u z).mp s).2.2.2.2
  · intro s
    have hin : 0 ≤ u - c.f1 ∧ u - c.f1 < c.f0.f0 ∧ 0 ≤ z - c.f2 ∧ z - c.f2 < c.f0.f1 := by
      by_cases g : 0 ≤ u - c.f1 ∧ u - c.f1 < c.f0.f0 ∧ 0 ≤ z - c.f2 ∧ z - c.f2 < c.f0.f1
      · exact g
      · unfold plc at s
        rw [pix_out g] at s
        omega
    obtain ⟨i, hi⟩ : ∃ i : Nat, i = ((u - c.f1) / 40).toNat := ⟨_, rfl⟩
    obtain ⟨j, hj⟩ : ∃ j : Nat, j = ((z - c.f2) / 40).toNat := ⟨_, rfl⟩
    have x0 : (0 : Int) ≤ 0 + 40 * i := by omega
    have x1 : 0 + 40 * (i : Int) < c.f0.f0 := by omega
    have y0 : (0 : Int) ≤ 0 + 40 * j := by omega
    have y1 : 0 + 40 * (j : Int) < c.f0.f1 := by omega
    have cov : 0 + 40 * (i : Int) ≤ u - c.f1 ∧ u - c.f1 < 0 + 40 * (i : Int) + mn 40 (c.f0.f0 - (0 + 40 * (i : Int))) ∧ 0 + 40 * (j : Int) ≤ z - c.f2 ∧ z - c.f2 < 0 + 40 * (j : Int) + mn 40 (c.f0.f1 - (0 + 40 * (j : Int))) := by
      rw [mn40, mn40]
      omega
    rcases tile_facts v x0 x1 y0 y1 with ⟨_, g⟩ | ⟨g, _, _, _, _, _, _, _, _, _, _, f⟩
    · exact absurd s (g _ _ cov.1 cov.2.1 cov.2.2.1 cov.2.2.2)
    · refine ⟨_, (ty_mem 6 0).mpr ⟨j, by omega, y1, (tx_mem 6 0).mpr ⟨i, by omega, x1, tileL_mem.mpr ⟨g, rfl⟩⟩⟩, (f u z).mpr ⟨cov.1, cov.2.1, cov.2.2.1, cov.2.2.2, s⟩⟩
/-- A small tight shape is its own piece. -/
theorem ty_small {c : S48} (v : VP c) (w1 : 1 ≤ c.f0.f0) (h1 : 1 ≤ c.f0.f1) (w40 : c.f0.f0 ≤ 40) (h40 : c.f0.f1 ≤ 40) (tb : TB (fun x y => pix c.f0.f0 c.f0.f1 c.f0.f2 x y = 1) 0 0 (c.f0.f0 - 1) (c.f0.f1 - 1)) : ty c 6 0 = [c] := by
  have e1 : mn 40 (c.f0.f0 - 0) = c.f0.f0 := by rw [mn40]; omega
  have e2 : mn 40 (c.f0.f1 - 0) = c.f0.f1 := by rw [mn40]; omega
  have e3 : tab c.f0.f0 c.f0.f1 (partG c.f0.f0 c.f0.f1 c.f0.f2 0 0) = c.f0.f2 := by
    refine Eq.trans (tab_congr v.1 v.2.1 (fun u t a b c d => ?_)) (Val.tab v).symm
    unfold partG
    rw [Int.zero_add, Int.zero_add]
  have eT : tileT c 0 0 = (c.f0.f0, c.f0.f1, c.f0.f2, 0, 0, 0) := by
    unfold tileT
    rw [e1, e2, e3, tight_trim v tb]
  have eL : tileL c 0 0 = [c] := by
    unfold tileL tileP
    rw [eT, if_pos (by show c.f0.f0 > 0; omega)]
    dsimp only
    rw [Int.add_zero, Int.add_zero, Int.add_zero, Int.add_zero]
  show (if 0 < c.f0.f1 then (if 0 < c.f0.f0 then tileL c 0 0 ++ (if 0 + 40 < c.f0.f0 then _ else _) else _) ++ (if 0 + 40 < c.f0.f1 then _ else _) else _) = _
  rw [if_pos (by omega), if_pos (by omega), if_neg (by omega), if_neg (by omega), eL]
  rfl
def tls (c : S48) : List S48 := if c.f0.f0 ≤ 40 ∧ c.f0.f1 ≤ 40 then [c] else ty c 6 0
theorem tileL_len (c : S48) (x y : Int) : (tileL c x y).length ≤ 1 := by
  unfold tileL
  split
  · exact Nat.le_refl _
  · exact Nat.zero_le _
theorem tx_len (c : S48) (y : Int) : ∀ (n : Nat) (x : Int), (tx c y n x).length ≤ n := by
  intro n
  induction n with
  | zero => exact fun x => Nat.le_refl _
  | succ n ih =>
    intro x
    show (if _ then _ else _ : List S48).length ≤ _
    split
    · rw [List.length_append]
      have := tileL_len c x y
      have := ih (x + 40)
      omega
    · exact Nat.zero_le _
theorem ty_len (c : S48) : ∀ (n : Nat) (y : Int), (ty c n y).length ≤ n * 6 := by
  intro n
  induction n with
  | zero => exact fun x => Nat.le_refl _
  | succ n ih =>
    intro y
    show (if _ then _ else _ : List S48).length ≤ _
    split
    · rw [List.length_append]
      have := tx_len c y 6 0
      have := ih (y + 40)
      omega
    · exact Nat.zero_le _
theorem tls_len (c : S48) : (tls c).length ≤ 36 := by
  unfold tls
  split
  · exact (by decide : 1 ≤ 36)
  · exact ty_len c 6 0
end

theorem Sane15_is : EvP (fun k => incunablelaw15_Sane.f k) (· = true) :=
  ⟨true, Ev.of (fun k => incunablelaw15_Sane.mono k) (k := 60) (by decide +kernel), rfl⟩

theorem SameP_self (l : List S48) (hl : (l.length : Int) ≤ 1000000) (hb : ∀ b ∈ l, Byt b.f0.f2) : EvP (fun k => incunableref15_SamePlaced.f k l l) (· = true) := by
  unfold incunableref15_SamePlaced.f
  refine EvP.pos rfl ?_
  refine EvP.up (L := fun k i (_ : Unit) => incunableref15_SamePlaced.l0 k l l i) (fun i _ => 0 ≤ i) l.length ?_ 0 () (by omega) (by omega)
  intro i _ i0 hi ih
  refine EvP.step (fun k => by rw [incunableref15_SamePlaced.l0]) ?_
  refine EvP.ite (fun i1 => ?_) (fun i1 => EvP.ret rfl)
  have hm := hb _ (rd48_mem i0 i1)
  refine EvP.pos i0 (EvP.pos i1 (EvP.pos rfl (EvP.pos rfl ?_)))
  refine EvP.bindv (refSame_is _ _ _ _ _ _ hm hm) ?_
  refine EvP.pos (by simp) ?_
  rw [w64 (x := i + 1) (by omega) (by omega)]
  exact ih () i1 (by omega)

section
open Classical
noncomputable def cov (w h : Int) (p : List Int) (L : List Int) : Int → Int → Prop := fun x y => ∃ r ∈ L, SP w h p r x y
theorem cov_all {w h : Int} {p : List Int} (v : Val w h p) (x y : Int) (x0 : 0 ≤ x) (x1 : x < w) (y0 : 0 ≤ y) (y1 : y < h) : ind (cov w h p (rts w h p (w * h).toNat)) x y = pix w h p x y := by
  have hf := flat_lt x0 x1 y0 y1
  have p01 := v.pix01 x y
  have i01 := ind_01 (cov w h p (rts w h p (w * h).toNat)) x y
  rw [pix_in x0 x1 y0 y1] at p01 ⊢
  by_cases q : rd p (y * w + x) = 1
  · rw [q]
    obtain ⟨r, r0, r1, r2, r3⟩ := rt_of _ _ _ (Nat.lt_succ_self _) (show R8 w h p (y * w + x) (y * w + x) from .refl ⟨hf.2.1, hf.2.2, q⟩)
    exact ind_1.mpr ⟨r, (rts_mem r _).mpr ⟨r0, by omega, r2⟩, ⟨x0, x1, y0, y1⟩, r3⟩
  · have : ¬ ind (cov w h p (rts w h p (w * h).toNat)) x y = 1 := fun z => by
      obtain ⟨r, _, _, s⟩ := ind_1.mp z
      exact q s.right.2.2
    omega
theorem cmp_draw {w h : Int} {p : List Int} (v : Val w h p) : drQ w h (cmpS w h p) = (w, h, p, 0) := by
  have hr : ∀ b ∈ cmpS w h p, ∃ r, r ∈ rts w h p (w * h).toNat ∧ b = cmpP w h p r ∧ blk8 w h p r := fun b hb => by
    obtain ⟨r, a, rfl⟩ := List.mem_map.mp hb
    exact ⟨r, a, rfl, ((rts_mem r _).mp a).2.2.1⟩
  unfold drQ
  rw [if_neg (by
    rintro (q | ⟨b, hb, q⟩)
    · exact q v.sid
    · obtain ⟨r, _, rfl, c⟩ := hr b hb
      exact q (cmp_ok v c).1), if_neg (by
    rintro ⟨b, hb, q⟩
    obtain ⟨r, _, rfl, c⟩ := hr b hb
    exact q (cmp_ok v c).2)]
  have : tab w h (orL (cmpS w h p)) = p := by
    refine Eq.trans (tab_congr v.1 v.2.1 (fun x y x0 x1 y0 y1 => ?_)) v.tab.symm
    rw [← cov_all v x y x0 x1 y0 y1]
    have a := orL_01 (cmpS w h p) x y
    have b := ind_01 (cov w h p (rts w h p (w * h).toNat)) x y
    have c : orL (cmpS w h p) x y = 1 ↔ ind (cov w h p (rts w h p (w * h).toNat)) x y = 1 := by
      rw [ind_1]
      unfold orL
      constructor
      · intro z
        by_cases q : ((cmpS w h p).any fun b => decide (plc b x y = 1)) = true
        · obtain ⟨b, hb, q⟩ := List.any_eq_true.mp q
          obtain ⟨r, hm, rfl, c⟩ := hr b hb
          rw [plc_cmp v c] at q
          exact ⟨r, hm, ind_1.mp (of_decide_eq_true q)⟩
        · rw [if_neg q] at z
          omega
      · rintro ⟨r, hm, s⟩
        rw [if_pos]
        refine List.any_eq_true.mpr ⟨cmpP w h p r, List.mem_map.mpr ⟨r, hm, rfl⟩, decide_eq_true ?_⟩
        rw [plc_cmp v ((rts_mem r _).mp hm).2.2.1]
        exact ind_1.mpr s
    omega
  rw [this]
end

theorem wadd {a b : Int} (h : -1000000 ≤ a ∧ a ≤ 1000000) (k : -1000000 ≤ b ∧ b ≤ 1000000) : wrap64 (a + b) = a + b := w64 (by omega) (by omega)
section
open Classical
/-- One row of tiles, by the program. -/
theorem tiles_x {c : S48} (v : VP c) (hx : -100000 ≤ c.f1 ∧ c.f1 ≤ 100000) (hy : -100000 ≤ c.f2 ∧ c.f2 ≤ 100000) {y : Int} (y0 : 0 ≤ y) (y1 : y < c.f0.f1) (P : List S48 → Prop) : ∀ (n : Nat) (x : Int) (out : List S48), 0 ≤ x → c.f0.f0 - x ≤ 40 * n → out.length + n ≤ 1000000 →
    EvP (fun k => shape_tiles.l0 k (out ++ tx c y n x) (wrap64 (y + 40)) c.f0.f0 c.f0.f1 c.f0.f2 c.f1 c.f2) P → EvP (fun k => shape_tiles.l1 k out y x c.f0.f0 c.f0.f1 c.f0.f2 c.f1 c.f2) P := by
  obtain ⟨_, _, cw, ch, _, cl, _⟩ := id v
  intro n
  induction n with
  | zero =>
    intro x out x0 hn ho hp
    refine EvP.step (fun k => by rw [shape_tiles.l1]) (EvP.neg (by omega) ?_)
    rw [show tx c y 0 x = [] from rfl, List.append_nil] at hp
    exact hp
  | succ n ih =>
    intro x out x0 hn ho hp
    rw [show tx c y (n + 1) x = if x < c.f0.f0 then tileL c x y ++ tx c y n (x + 40) else [] from rfl] at hp
    refine EvP.step (fun k => by rw [shape_tiles.l1]) (EvP.ite (fun x1 => ?_) (fun x1 => ?_))
    · rw [if_pos x1] at hp
      obtain ⟨sd, _⟩ := tile_sid v x0 x1 y0 y1
      rw [w64 (x := c.f0.f0 - x) (by omega) (by omega), w64 (x := c.f0.f1 - y) (by omega) (by omega), w64 (x := x + 40) (by omega) (by omega)]
      refine EvP.bind (Cut_is _ _ _ _ _ _ _ (fun z hz => (val_byt v z hz).1) (by omega)) ?_
      rintro _ rfl
      have ec : cutR c.f0.f0 c.f0.f1 c.f0.f2 x y (mn 40 (c.f0.f0 - x)) (mn 40 (c.f0.f1 - y)) = (mn 40 (c.f0.f0 - x), mn 40 (c.f0.f1 - y), tab (mn 40 (c.f0.f0 - x)) (mn 40 (c.f0.f1 - y)) (partG c.f0.f0 c.f0.f1 c.f0.f2 x y), 0) := by
        unfold cutR
        rw [if_neg (c := ¬ Val c.f0.f0 c.f0.f1 c.f0.f2) (fun q => q v), if_neg (by rintro (q | q | q); exact absurd sd.1 (by omega); exact absurd sd.2.1 (by omega); exact q (by unfold Shf; omega)), if_pos sd]
      rw [ec]
      have vq : Val (mn 40 (c.f0.f0 - x)) (mn 40 (c.f0.f1 - y)) (tab (mn 40 (c.f0.f0 - x)) (mn 40 (c.f0.f1 - y)) (partG c.f0.f0 c.f0.f1 c.f0.f2 x y)) := part_val v sd
      have hlq : ((tab (mn 40 (c.f0.f0 - x)) (mn 40 (c.f0.f1 - y)) (partG c.f0.f0 c.f0.f1 c.f0.f2 x y)).length : Int) ≤ 9223372036854775807 := by have := vq.2.2.2.2.2.1; have := vq.2.2.2.2.1; omega
      refine EvP.bind (Trim_is _ _ _ (fun z hz => (val_byt vq z hz).1) hlq) ?_
      intro r hr
      have hr : r = tileT c x y := hr
      subst hr
      refine EvP.ite (fun g => EvP.pos (by omega) ?_) (fun g => ?_)
      · rcases tile_facts v x0 x1 y0 y1 with ⟨g', _⟩ | ⟨_, _, _, _, _, _, b1, b2, b3, b4, _⟩
        · exact absurd g g'
        · have b1 : c.f1 ≤ c.f1 + x + (tileT c x y).2.2.2.1 := b1
          have b2 : c.f1 + x + (tileT c x y).2.2.2.1 ≤ c.f1 + 400 := b2
          have b3 : c.f2 ≤ c.f2 + y + (tileT c x y).2.2.2.2.1 := b3
          have b4 : c.f2 + y + (tileT c x y).2.2.2.2.1 ≤ c.f2 + 400 := b4
          rw [w64 (x := c.f1 + x) (by omega) (by omega), w64 (x := c.f2 + y) (by omega) (by omega), w64 (x := c.f1 + x + (tileT c x y).2.2.2.1) (by omega) (by omega), w64 (x := c.f2 + y + (tileT c x y).2.2.2.2.1) (by omega) (by omega)]
          refine ih (x + 40) _ (by omega) (by omega) (by rw [List.length_append]; show out.length + 1 + n ≤ 1000000; omega) ?_
          rw [show tileL c x y = [tileP c x y] from if_pos g, ← List.append_assoc] at hp
          exact hp
      · refine ih (x + 40) _ (by omega) (by omega) (by omega) ?_
        rw [show tileL c x y = [] from if_neg g, List.nil_append] at hp
        exact hp
    · rw [if_neg x1, List.append_nil] at hp
      exact hp
theorem tiles_y {c : S48} (v : VP c) (hx : -100000 ≤ c.f1 ∧ c.f1 ≤ 100000) (hy : -100000 ≤ c.f2 ∧ c.f2 ≤ 100000) : ∀ (n : Nat) (y : Int) (out : List S48), 0 ≤ y → c.f0.f1 - y ≤ 40 * n → out.length + n * 6 ≤ 900000 →
    EvP (fun k => shape_tiles.l0 k out y c.f0.f0 c.f0.f1 c.f0.f2 c.f1 c.f2) (· = out ++ ty c n y) := by
  obtain ⟨_, _, cw, ch, _, cl, _⟩ := id v
  intro n
  induction n with
  | zero =>
    intro y out y0 hn ho
    refine EvP.step (fun k => by rw [shape_tiles.l0]) (EvP.neg (by omega) (EvP.ret ?_))
    rw [show ty c 0 y = [] from rfl, List.append_nil]
  | succ n ih =>
    intro y out y0 hn ho
    rw [show ty c (n + 1) y = if y < c.f0.f1 then tx c y 6 0 ++ ty c n (y + 40) else [] from rfl]
    refine EvP.step (fun k => by rw [shape_tiles.l0]) (EvP.ite (fun y1 => ?_) (fun y1 => EvP.ret ?_))
    · rw [if_pos y1]
      have tl := tx_len c y 6 0
      refine tiles_x v hx hy y0 y1 _ 6 0 out (Int.le_refl _) (by omega) (by omega) ?_
      rw [w64 (x := y + 40) (by omega) (by omega), ← List.append_assoc]
      exact ih (y + 40) _ (by omega) (by omega) (by rw [List.length_append]; omega)
    · rw [if_neg y1, List.append_nil]
theorem tiles_is {c : S48} (v : VP c) (hx : -100000 ≤ c.f1 ∧ c.f1 ≤ 100000) (hy : -100000 ≤ c.f2 ∧ c.f2 ≤ 100000) : EvP (fun k => shape_tiles.f k c.f0.f0 c.f0.f1 c.f0.f2 c.f1 c.f2) (· = tls c) := by
  obtain ⟨_, _, cw, ch, _⟩ := id v
  have big : (¬ (c.f0.f0 ≤ 40 ∧ c.f0.f1 ≤ 40)) → EvP (fun k => shape_tiles.j0 k false c.f0.f0 c.f0.f1 c.f0.f2 c.f1 c.f2) (· = tls c) := fun h => by
    refine EvP.step (fun k => by rw [shape_tiles.j0]) (EvP.neg (by decide) ?_)
    have := tiles_y v hx hy 6 0 [] (Int.le_refl _) (by omega) (by decide)
    rw [List.nil_append] at this
    unfold tls
    rw [if_neg h]
    exact this
  unfold shape_tiles.f
  refine EvP.ite (fun a => ?_) (fun a => big (fun h => a h.1))
  by_cases b : c.f0.f1 ≤ 40
  · rw [decide_eq_true b]
    refine EvP.step (fun k => by rw [shape_tiles.j0]) (EvP.pos rfl (EvP.ret ?_))
    unfold tls
    rw [if_pos ⟨a, b⟩]
  · rw [decide_eq_false b]
    exact big (fun h => b h.2)
/-- The pieces of shapes. -/
noncomputable def pcs (l : List S48) : List S48 := l.flatMap fun c => ty c 6 0
theorem pcs_cons (c : S48) (l : List S48) : pcs (c :: l) = ty c 6 0 ++ pcs l := rfl
theorem pcs_app (l m : List S48) : pcs (l ++ m) = pcs l ++ pcs m := by
  unfold pcs
  rw [List.flatMap_append]
theorem pcs_len (l : List S48) : (pcs l).length ≤ l.length * 36 := by
  induction l with
  | nil => exact Nat.le_refl _
  | cons c l ih =>
    rw [pcs_cons, List.length_append, List.length_cons]
    have := ty_len c 6 0
    omega
def Good (c : S48) : Prop := VP c ∧ 0 ≤ c.f1 ∧ c.f1 ≤ 200 ∧ 0 ≤ c.f2 ∧ c.f2 ≤ 200 ∧ 1 ≤ c.f0.f0 ∧ 1 ≤ c.f0.f1 ∧ TB (fun x y => pix c.f0.f0 c.f0.f1 c.f0.f2 x y = 1) 0 0 (c.f0.f0 - 1) (c.f0.f1 - 1)
theorem good_cmp {w h : Int} {p : List Int} (v : Val w h p) {i : Int} (hi : blk8 w h p i) : Good (cmpP w h p i) := by
  obtain ⟨l, t, W, H, e, l0, t0, W1, H1, l1, t1, sd, tb⟩ := cmp_facts v hi
  have vc := (cmp_ok v hi).1
  have w2 := v.2.2.1
  have h2 := v.2.2.2.1
  rw [e] at vc ⊢
  have pp : ∀ x y, pix W H (tab W H (fun u v => ind (SP w h p i) (l + u) (t + v))) x y = if 0 ≤ x ∧ x < W ∧ 0 ≤ y ∧ y < H then ind (SP w h p i) (l + x) (t + y) else 0 := fun x y => pix_tab
  refine ⟨vc, l0, by show l ≤ 200; omega, t0, by show t ≤ 200; omega, W1, H1, ⟨fun u z s => ?_, ?_, ?_, ?_, ?_⟩⟩
  · have s : pix W H (tab W H (fun u v => ind (SP w h p i) (l + u) (t + v))) u z = 1 := s
    show 0 ≤ u ∧ u ≤ W - 1 ∧ 0 ≤ z ∧ z ≤ H - 1
    rw [pp] at s
    by_cases g : 0 ≤ u ∧ u < W ∧ 0 ≤ z ∧ z < H
    · omega
    · rw [if_neg g] at s
      omega
  · obtain ⟨b, s⟩ := tb.le
    have := tb.all _ _ s
    refine ⟨b - t, ?_⟩
    show pix W H _ 0 (b - t) = 1
    rw [pp, if_pos (by omega), show l + 0 = l by omega, show t + (b - t) = b by omega]
    exact ind_1.mpr s
  · obtain ⟨b, s⟩ := tb.tp
    have := tb.all _ _ s
    refine ⟨b - l, ?_⟩
    show pix W H _ (b - l) 0 = 1
    rw [pp, if_pos (by omega), show t + 0 = t by omega, show l + (b - l) = b by omega]
    exact ind_1.mpr s
  · obtain ⟨b, s⟩ := tb.ri
    have := tb.all _ _ s
    refine ⟨b - t, ?_⟩
    show pix W H _ (W - 1) (b - t) = 1
    rw [pp, if_pos (by omega), show l + (W - 1) = l + W - 1 by omega, show t + (b - t) = b by omega]
    exact ind_1.mpr s
  · obtain ⟨b, s⟩ := tb.bo
    have := tb.all _ _ s
    refine ⟨b - l, ?_⟩
    show pix W H _ (b - l) (H - 1) = 1
    rw [pp, if_pos (by omega), show t + (H - 1) = t + H - 1 by omega, show l + (b - l) = b by omega]
    exact ind_1.mpr s
theorem tls_good {c : S48} (g : Good c) : tls c = ty c 6 0 := by
  obtain ⟨v, _, _, _, _, w1, h1, tb⟩ := g
  unfold tls
  by_cases h : c.f0.f0 ≤ 40 ∧ c.f0.f1 ≤ 40
  · rw [if_pos h, ty_small v w1 h1 h.1 h.2 tb]
  · rw [if_neg h]
theorem pieces_l0 {l : List S48} (hg : ∀ c ∈ l, Good c) (hl : l.length ≤ 8192) : ∀ (n : Nat) (i : Int), 0 ≤ i → (l.length : Int) - i = n → EvP (fun k => shape_Pieces.l0 k (pcs (l.take i.toNat)) l (l.length : Int) i) (· = (pcs l, 0)) := by
  intro n
  induction n with
  | zero =>
    intro i i0 hn
    refine EvP.step (fun k => by rw [shape_Pieces.l0]) (EvP.neg (by omega) (EvP.ret ?_))
    rw [List.take_of_length_le (by omega)]
  | succ n ih =>
    intro i i0 hn
    have i1 : i < (l.length : Int) := by omega
    have g := hg _ (rd48_mem i0 i1)
    have go := ih (i + 1) (by omega) (by omega)
    rw [take48 i0 i1, pcs_app, show pcs [rd_T48 l i] = ty (rd_T48 l i) 6 0 by rw [pcs_cons]; exact List.append_nil _] at go
    have l1 := pcs_len (l.take i.toNat)
    rw [List.length_take] at l1
    have l2 := ty_len (rd_T48 l i) 6 0
    refine EvP.step (fun k => by rw [shape_Pieces.l0]) (EvP.pos i1 (EvP.pos i0 (EvP.pos i1 ?_)))
    refine EvP.bind (tiles_is g.1 (by have := g.2; omega) (by have := g.2; omega)) ?_
    rintro _ rfl
    rw [tls_good g, w64 (x := i + 1) (by omega) (by omega)]
    exact EvP.pos (by omega) go
/-- One row of tiles, by the reference. -/
theorem ref_x {l : List S48} {i : Int} (i0 : 0 ≤ i) (i1 : i < (l.length : Int)) (v : VP (rd_T48 l i)) (hx : -100000 ≤ (rd_T48 l i).f1 ∧ (rd_T48 l i).f1 ≤ 100000) (hy : -100000 ≤ (rd_T48 l i).f2 ∧ (rd_T48 l i).f2 ≤ 100000) {y : Int} (y0 : 0 ≤ y) (y1 : y < (rd_T48 l i).f0.f1) (P : List S48 × Int → Prop) : ∀ (n : Nat) (x : Int) (out : List S48), 0 ≤ x → (rd_T48 l i).f0.f0 - x ≤ 40 * n → out.length + n ≤ 1000000 →
    EvP (fun k => incunableref15_Pieces.l1 k l (out ++ tx (rd_T48 l i) y n x) i (wrap64 (y + 40)) (rd_T48 l i).f0.f0 (rd_T48 l i).f0.f1 (rd_T48 l i).f0.f2) P → EvP (fun k => incunableref15_Pieces.l2 k l out i y x (rd_T48 l i).f0.f0 (rd_T48 l i).f0.f1 (rd_T48 l i).f0.f2) P := by
  generalize ec : rd_T48 l i = c at *
  obtain ⟨_, _, cw, ch, _, cl, _⟩ := id v
  intro n
  induction n with
  | zero =>
    intro x out x0 hn ho hp
    refine EvP.step (fun k => by rw [incunableref15_Pieces.l2]) (EvP.neg (by omega) ?_)
    rw [show tx c y 0 x = [] from rfl, List.append_nil] at hp
    exact hp
  | succ n ih =>
    intro x out x0 hn ho hp
    rw [show tx c y (n + 1) x = if x < c.f0.f0 then tileL c x y ++ tx c y n (x + 40) else [] from rfl] at hp
    refine EvP.step (fun k => by rw [incunableref15_Pieces.l2]) (EvP.ite (fun x1 => ?_) (fun x1 => ?_))
    · rw [if_pos x1] at hp
      obtain ⟨sd, _⟩ := tile_sid v x0 x1 y0 y1
      rw [w64 (x := c.f0.f0 - x) (by omega) (by omega), w64 (x := c.f0.f1 - y) (by omega) (by omega), w64 (x := x + 40) (by omega) (by omega)]
      refine EvP.bind (Part_is v ⟨sd.1, sd.2.1, sd.2.2.1, sd.2.2.2.1⟩ (by omega) (by omega)) ?_
      rintro _ rfl
      have vq : Val (mn 40 (c.f0.f0 - x)) (mn 40 (c.f0.f1 - y)) (tab (mn 40 (c.f0.f0 - x)) (mn 40 (c.f0.f1 - y)) (partG c.f0.f0 c.f0.f1 c.f0.f2 x y)) := part_val v sd
      have hlq : ((tab (mn 40 (c.f0.f0 - x)) (mn 40 (c.f0.f1 - y)) (partG c.f0.f0 c.f0.f1 c.f0.f2 x y)).length : Int) ≤ 9223372036854775807 := by have := vq.2.2.2.2.2.1; have := vq.2.2.2.2.1; omega
      refine EvP.bind (refTrim_is _ _ _ (fun z hz => (val_byt vq z hz).1) hlq) ?_
      intro r hr
      have hr : r = tileT c x y := hr
      subst hr
      refine EvP.ite (fun g => EvP.pos i0 (EvP.pos i1 (EvP.pos (by omega) ?_))) (fun g => ?_)
      · rw [ec]
        rcases tile_facts v x0 x1 y0 y1 with ⟨g', _⟩ | ⟨_, _, _, _, _, _, b1, b2, b3, b4, _⟩
        · exact absurd g g'
        · have b1 : c.f1 ≤ c.f1 + x + (tileT c x y).2.2.2.1 := b1
          have b2 : c.f1 + x + (tileT c x y).2.2.2.1 ≤ c.f1 + 400 := b2
          have b3 : c.f2 ≤ c.f2 + y + (tileT c x y).2.2.2.2.1 := b3
          have b4 : c.f2 + y + (tileT c x y).2.2.2.2.1 ≤ c.f2 + 400 := b4
          rw [w64 (x := c.f1 + x) (by omega) (by omega), w64 (x := c.f2 + y) (by omega) (by omega), w64 (x := c.f1 + x + (tileT c x y).2.2.2.1) (by omega) (by omega), w64 (x := c.f2 + y + (tileT c x y).2.2.2.2.1) (by omega) (by omega)]
          refine ih (x + 40) _ (by omega) (by omega) (by rw [List.length_append]; show out.length + 1 + n ≤ 1000000; omega) ?_
          rw [show tileL c x y = [tileP c x y] from if_pos g, ← List.append_assoc] at hp
          exact hp
      · refine ih (x + 40) _ (by omega) (by omega) (by omega) ?_
        rw [show tileL c x y = [] from if_neg g, List.nil_append] at hp
        exact hp
    · rw [if_neg x1, List.append_nil] at hp
      exact hp
theorem ref_y {l : List S48} {i : Int} (i0 : 0 ≤ i) (i1 : i < (l.length : Int)) (v : VP (rd_T48 l i)) (hx : -100000 ≤ (rd_T48 l i).f1 ∧ (rd_T48 l i).f1 ≤ 100000) (hy : -100000 ≤ (rd_T48 l i).f2 ∧ (rd_T48 l i).f2 ≤ 100000) (P : List S48 × Int → Prop) : ∀ (n : Nat) (y : Int) (out : List S48), 0 ≤ y → (rd_T48 l i).f0.f1 - y ≤ 40 * n → out.length + n * 6 ≤ 900000 →
    EvP (fun k => incunableref15_Pieces.l0 k l (out ++ ty (rd_T48 l i) n y) (wrap64 (i + 1))) P → EvP (fun k => incunableref15_Pieces.l1 k l out i y (rd_T48 l i).f0.f0 (rd_T48 l i).f0.f1 (rd_T48 l i).f0.f2) P := by
  obtain ⟨_, _, cw, ch, _, cl, _⟩ := id v
  intro n
  induction n with
  | zero =>
    intro y out y0 hn ho hp
    refine EvP.step (fun k => by rw [incunableref15_Pieces.l1]) (EvP.neg (by omega) ?_)
    rw [show ty (rd_T48 l i) 0 y = [] from rfl, List.append_nil] at hp
    exact hp
  | succ n ih =>
    intro y out y0 hn ho hp
    rw [show ty (rd_T48 l i) (n + 1) y = if y < (rd_T48 l i).f0.f1 then tx (rd_T48 l i) y 6 0 ++ ty (rd_T48 l i) n (y + 40) else [] from rfl] at hp
    refine EvP.step (fun k => by rw [incunableref15_Pieces.l1]) (EvP.ite (fun y1 => ?_) (fun y1 => ?_))
    · rw [if_pos y1] at hp
      have tl := tx_len (rd_T48 l i) y 6 0
      refine ref_x i0 i1 v hx hy y0 y1 P 6 0 out (Int.le_refl _) (by omega) (by omega) ?_
      rw [w64 (x := y + 40) (by omega) (by omega)]
      refine ih (y + 40) _ (by omega) (by omega) (by rw [List.length_append]; omega) ?_
      rw [List.append_assoc]
      exact hp
    · rw [if_neg y1, List.append_nil] at hp
      exact hp
theorem ref_l0 {l : List S48} (hg : ∀ c ∈ l, Good c) (hl : l.length ≤ 8192) : ∀ (n : Nat) (i : Int), 0 ≤ i → (l.length : Int) - i = n → EvP (fun k => incunableref15_Pieces.l0 k l (pcs (l.take i.toNat)) i) (· = (pcs l, 0)) := by
  intro n
  induction n with
  | zero =>
    intro i i0 hn
    refine EvP.step (fun k => by rw [incunableref15_Pieces.l0]) (EvP.neg (by omega) (EvP.ret ?_))
    rw [List.take_of_length_le (by omega)]
  | succ n ih =>
    intro i i0 hn
    have i1 : i < (l.length : Int) := by omega
    have g := hg _ (rd48_mem i0 i1)
    have ch := g.1.2.2.2.1
    have go := ih (i + 1) (by omega) (by omega)
    rw [take48 i0 i1, pcs_app, show pcs [rd_T48 l i] = ty (rd_T48 l i) 6 0 by rw [pcs_cons]; exact List.append_nil _] at go
    have l1 := pcs_len (l.take i.toNat)
    rw [List.length_take] at l1
    refine EvP.step (fun k => by rw [incunableref15_Pieces.l0]) (EvP.pos i1 (EvP.pos i0 ?_))
    refine ref_y i0 i1 g.1 (by have := g.2; omega) (by have := g.2; omega) _ 6 0 _ (Int.le_refl _) (by omega) (by omega) ?_
    rw [w64 (x := i + 1) (by omega) (by omega)]
    exact go
theorem pcs_mem {l : List S48} {b : S48} : b ∈ pcs l ↔ ∃ c ∈ l, b ∈ ty c 6 0 := by
  unfold pcs
  rw [List.mem_flatMap]
theorem pcs_draw {w h : Int} {p : List Int} (v : Val w h p) : drQ w h (pcs (cmpS w h p)) = (w, h, p, 0) := by
  have hr : ∀ b ∈ cmpS w h p, Good b := fun b hb => by
    obtain ⟨r, a, rfl⟩ := List.mem_map.mp hb
    exact good_cmp v ((rts_mem r _).mp a).2.2.1
  have hq : ∀ b ∈ pcs (cmpS w h p), VP b ∧ NP b := fun b hb => by
    obtain ⟨c, hc, hb⟩ := pcs_mem.mp hb
    have g := hr c hc
    obtain ⟨x, y, x0, x1, y0, y1, gt, rfl⟩ := ty_piece g.1 hb
    rcases tile_facts g.1 x0 x1 y0 y1 with ⟨g', _⟩ | ⟨_, vp, _, _, _, _, b1, b2, b3, b4, _⟩
    · exact absurd gt g'
    · refine ⟨vp, ?_⟩
      have := g.2
      unfold NP Shf
      omega
  have e0 := cmp_draw v
  unfold drQ at e0 ⊢
  rw [if_neg (by
    rintro (q | ⟨b, hb, q⟩)
    · exact q v.sid
    · exact q (hq b hb).1), if_neg (by
    rintro ⟨b, hb, q⟩
    exact q (hq b hb).2)]
  rw [if_neg (by
    rintro (q | ⟨b, hb, q⟩)
    · exact q v.sid
    · exact q (hr b hb).1), if_neg (by
    rintro ⟨b, hb, q⟩
    refine q ?_
    have := (hr b hb).2
    unfold NP Shf
    omega)] at e0
  have : orL (pcs (cmpS w h p)) = orL (cmpS w h p) := by
    funext x y
    unfold orL
    have : ((pcs (cmpS w h p)).any fun b => decide (plc b x y = 1)) = ((cmpS w h p).any fun b => decide (plc b x y = 1)) := by
      rw [Bool.eq_iff_iff, List.any_eq_true, List.any_eq_true]
      constructor
      · rintro ⟨b, hb, s⟩
        obtain ⟨c, hc, hb⟩ := pcs_mem.mp hb
        exact ⟨c, hc, decide_eq_true ((ty_plc (hr c hc).1 x y).mp ⟨b, hb, of_decide_eq_true s⟩)⟩
      · rintro ⟨c, hc, s⟩
        obtain ⟨b, hb, s⟩ := (ty_plc (hr c hc).1 x y).mpr (of_decide_eq_true s)
        exact ⟨b, pcs_mem.mpr ⟨c, hc, hb⟩, decide_eq_true s⟩
    rw [this]
  rw [this]
  exact e0
theorem ShapePieces : incunablelaw15_ShapePieces.Pure := by
  intro w h p _ _ hp
  have hb := wf_byt hp.2.2
  have hb0 : ∀ z ∈ p, 0 ≤ z := fun z hz => (hb z hz).1
  have sane : EvP (fun k => (incunablelaw15_Sane.f k).bind fun t => some t) (· = true) := by
    refine EvP.bind Sane15_is ?_
    rintro _ rfl
    exact EvP.ret rfl
  refine EvP.rounds ?_
  unfold incunablelaw15_ShapePieces.f
  refine EvP.ite (fun _ => sane) (fun a => ?_)
  have hl : (p.length : Int) ≤ 9223372036854775806 := by omega
  by_cases v : Val w h p
  · have hr : ∀ b ∈ cmpS w h p, Good b := fun b hb => by
      obtain ⟨r, a, rfl⟩ := List.mem_map.mp hb
      exact good_cmp v ((rts_mem r _).mp a).2.2.1
    have h00 : 0 ≤ w * h := Int.mul_nonneg v.1 v.2.1
    have cb := rts_len w h p (w * h).toNat
    have lc : (cmpS w h p).length ≤ 8192 := by
      have := v.2.2.2.2.1
      unfold cmpS
      rw [List.length_map]
      omega
    have lp := pcs_len (cmpS w h p)
    have g1 := pieces_l0 hr lc (cmpS w h p).length 0 (Int.le_refl _) (by omega)
    have g2 := ref_l0 hr lc (cmpS w h p).length 0 (Int.le_refl _) (by omega)
    have hq : ∀ b ∈ pcs (cmpS w h p), VP b ∧ 1 ≤ b.f0.f0 ∧ 1 ≤ b.f0.f1 ∧ b.f0.f0 ≤ 40 ∧ b.f0.f1 ≤ 40 ∧ trimR b.f0.f0 b.f0.f1 b.f0.f2 = (b.f0.f0, b.f0.f1, b.f0.f2, 0, 0, 0) := fun b hb => by
      obtain ⟨c, hc, hb⟩ := pcs_mem.mp hb
      have g := hr c hc
      obtain ⟨x, y, x0, x1, y0, y1, gt, rfl⟩ := ty_piece g.1 hb
      rcases tile_facts g.1 x0 x1 y0 y1 with ⟨g', _⟩ | ⟨_, vp, a1, a2, a3, a4, _, _, _, _, a5, _⟩
      · exact absurd gt g'
      · exact ⟨vp, a1, a2, a3, a4, a5⟩
    refine EvP.bind (Q := (· = (pcs (cmpS w h p), 0))) ?_ ?_
    · unfold shape_Pieces.f
      refine EvP.bind (Valid_is w h p hb0 (by omega)) ?_
      rintro _ rfl
      refine EvP.pos (decide_eq_true v) ?_
      refine EvP.bind (components_is v) ?_
      rintro _ rfl
      exact g1
    rintro _ rfl
    refine EvP.bind (refValid_is w h p hb0 (by omega)) ?_
    rintro _ rfl
    refine EvP.pos (decide_eq_true v) ?_
    refine EvP.bind (Draw15_is w h (pcs (cmpS w h p)) (fun b hb => ?_) (by omega)) ?_
    · have vc := (hq b hb).1
      exact ⟨fun z hz => (val_byt vc z hz).1, by have := vc.2.2.2.2.2.1; have := vc.2.2.2.2.1; omega⟩
    rintro _ rfl
    rw [pcs_draw v]
    refine EvP.pos rfl (EvP.pos rfl ?_)
    refine EvP.bindv (refSame_is _ _ _ _ _ _ hb hb) ?_
    refine EvP.step (fun k => by rw [incunablelaw15_ShapePieces.j0]) ?_
    refine EvP.neg (by simp) ?_
    have last : EvP (fun k => (incunablelaw15_Large.f w h p).bind fun t467 => (if t467 = true then ((incunablelaw15_Sane.f k).bind fun t468 => (some t468)) else ((incunableref15_Pieces.f k w h p).bind fun bt469 => ((incunableref15_SamePlaced.f k (pcs (cmpS w h p)) bt469.1).bind fun t473 => (if t473 = true then ((incunablelaw15_Sane.f k).bind fun t474 => (some t474)) else (some false)))))) (· = true) := by
      refine EvP.bindv (show incunablelaw15_Large.f w h p = some (decide ((p.length : Int) > 900)) from rfl) ?_
      refine EvP.ite (fun _ => sane) (fun _ => ?_)
      refine EvP.bind (Q := (· = (pcs (cmpS w h p), 0))) ?_ ?_
      · unfold incunableref15_Pieces.f
        refine EvP.bind (refComponents_is w h p hb0 (by omega)) ?_
        rintro _ rfl
        rw [show cmpR w h p = (cmpS w h p, 0) by unfold cmpR; rw [if_pos v]]
        exact EvP.pos rfl g2
      rintro _ rfl
      refine EvP.bind (SameP_self _ (by omega) (fun b hb => val_byt (hq b hb).1)) ?_
      rintro _ rfl
      exact EvP.pos rfl sane
    refine EvP.up (L := fun k i (_ : Unit) => incunablelaw15_ShapePieces.l0 k (pcs (cmpS w h p)) i w h p) (fun i _ => 0 ≤ i) (pcs (cmpS w h p)).length ?_ 0 () (by omega) (Int.le_refl _)
    intro i _ i0 hn ih
    refine EvP.step (fun k => by rw [incunablelaw15_ShapePieces.l0]) (EvP.ite (fun i1 => EvP.pos i0 ?_) (fun _ => last))
    obtain ⟨vb, b1, b2, b3, b4, b5⟩ := hq _ (rd48_mem i0 i1)
    have bb := val_byt vb
    refine EvP.bind (refTrim_is _ _ _ (fun z hz => (bb z hz).1) (by have := vb.2.2.2.2.2.1; have := vb.2.2.2.2.1; omega)) ?_
    rintro _ rfl
    rw [b5]
    refine EvP.neg (by omega) (EvP.neg (by omega) (EvP.neg (by omega) (EvP.neg (by omega) (EvP.pos rfl (EvP.pos rfl ?_)))))
    refine EvP.bindv (refSame_is _ _ _ _ _ _ bb bb) ?_
    refine EvP.pos (by simp) ?_
    rw [w64 (x := i + 1) (by omega) (by omega)]
    exact ih () i1 (by omega)
  · refine EvP.bind (Q := (· = ([], 30))) ?_ ?_
    · unfold shape_Pieces.f
      refine EvP.bind (Valid_is w h p hb0 (by omega)) ?_
      rintro _ rfl
      rw [decide_eq_false v]
      exact EvP.neg (by decide) (EvP.ret rfl)
    rintro _ rfl
    refine EvP.bind (refValid_is w h p hb0 (by omega)) ?_
    rintro _ rfl
    rw [decide_eq_false v]
    exact EvP.neg (by decide) (EvP.pos rfl (EvP.pos rfl sane))
end

end Go.Proofs.Ytaflekobfbgedaa.Pure
