/- What Despeckle returns, that once more changes nothing, and that the other components stay as they are (ScanSpecks). -/
import Derived.Test.YtnnbfkmmjclhaaaPScanSpecksx15
import Derived.Test.YtnnbfkmmjclhaaaQBase
namespace Go.Proofs.Ytnnbfkmmjclhaaa.Pure
open Go.RowKit Go.Proofs.Ytnnbfkmmjclhaaa.PScanSpecks Go.Proofs.YtnnbfkmmjclhaaaW.PrintWords Go.Proofs.YtnnbfkmmjclhaaaW.PrintLast Go.Proofs.YtnnbfkmmjclhaaaW.PrintMore Go.Proofs.YtnnbfkmmjclhaaaW.Pu
set_option linter.unusedVariables false
set_option linter.unusedSimpArgs false
def Byt (p : List Int) : Prop := ∀ x ∈ p, 0 ≤ x ∧ x ≤ 255
theorem val_byt {w h : Int} {p : List Int} (v : Val w h p) : Byt p := fun x hx => ⟨(v.2.2.2.2.2.2 x hx).1, by have := (v.2.2.2.2.2.2 x hx).2; omega⟩
theorem wf_byt {p : List Int} (h : ∀ y ∈ p, (Lit.int .u8 y).wf = true) : Byt p := fun x hx => by
 have h1 : (decide (IntKind.u8.min ≤ x) && decide (x ≤ IntKind.u8.max)) = true := h x hx
 obtain ⟨a, b⟩ := Bool.and_eq_true_iff.mp h1
 exact ⟨of_decide_eq_true a, of_decide_eq_true b⟩
inductive Rch (adj : Int → Int → Prop) (C : Int → Prop) : Int → Int → Prop
 | refl {i : Int} : C i → Rch adj C i i
 | step {i j k : Int} : Rch adj C i j → adj j k → C k → Rch adj C i k
theorem Rch.left {adj : Int → Int → Prop} {C : Int → Prop} {i j : Int} (h : Rch adj C i j) : C i := by
 induction h with
 | refl h => exact h
 | step _ _ _ ih => exact ih
theorem Rch.right {adj : Int → Int → Prop} {C : Int → Prop} {i j : Int} (h : Rch adj C i j) : C j := by
 cases h with
 | refl h => exact h
 | step _ _ h => exact h
theorem Rch.trans {adj : Int → Int → Prop} {C : Int → Prop} {i j k : Int} (h : Rch adj C i j) (g : Rch adj C j k) : Rch adj C i k := by
 induction g with
 | refl _ => exact h
 | step _ a c ih => exact .step ih a c
theorem Rch.symm {adj : Int → Int → Prop} {C : Int → Prop} (hs : ∀ i j, adj i j → adj j i) {i j : Int} (h : Rch adj C i j) : Rch adj C j i := by
 induction h with
 | refl h => exact .refl h
 | step h a c ih => exact (Rch.step (.refl c) (hs _ _ a) h.right).trans ih
theorem flood_all {adj : Int → Int → Prop} {C : Int → Prop} {M Q : Int → Prop} {s : Int} (hs : ∀ i j, adj i j → adj j i) (hM : ∀ p q, M p → C p → adj p q → C q → M q)
  (h0 : Q s) (hQ : ∀ j, Q j → Rch adj C s j ∧ ¬ M j) (hc : ∀ p q, Q p → adj p q → C q → M q ∨ Q q) (j : Int) : Q j ↔ Rch adj C s j := by
 constructor
 ·exact fun h => (hQ j h).1
 ·intro h
  induction h with
  | refl _ => exact h0
  | step h a c ih =>
   rcases hc _ _ ih a c with m | q
   ·exact absurd (hM _ _ m c (hs _ _ a) h.right) (hQ _ ih).2
   ·exact q
def ix (w : Int) (e : S74) : Int := e.f1 * w + e.f0
def inn (w h : Int) (e : S74) : Prop := 0 ≤ e.f0 ∧ e.f0 < w ∧ 0 ≤ e.f1 ∧ e.f1 < h
def adjD (w h : Int) (D : Int → Int → Prop) (i j : Int) : Prop := ∃ x y u v : Int, (0 ≤ x ∧ x < w ∧ 0 ≤ y ∧ y < h) ∧ (0 ≤ u ∧ u < w ∧ 0 ≤ v ∧ v < h) ∧ i = y * w + x ∧ j = v * w + u ∧ D (u - x) (v - y)
def colS (w h : Int) (p : List Int) (c : Int) (i : Int) : Prop := 0 ≤ i ∧ i < w * h ∧ rd p i = c
def mkd (m : List Bool) (j : Int) : Prop := rdOf false m j = true
def unm (m : List Bool) : Nat := m.count false
theorem unm_set : ∀ (m : List Bool) (i : Nat), i < m.length → m.getD i false = false → unm (m.set i true) + 1 = unm m
 | [], i, h, _ => by simp at h
 | b :: m, 0, _, e => by
  have : b = false := e
  subst this
  unfold unm
  rw [List.set_cons_zero, List.count_cons, List.count_cons]
  simp
 | b :: m, i + 1, h, e => by
  have ih := unm_set m i (by simpa using h) e
  unfold unm at ih ⊢
  rw [List.set_cons_succ, List.count_cons, List.count_cons]
  omega
theorem mkd_set (m : List Bool) {i j : Int} (i0 : 0 ≤ i) (i1 : i < (m.length : Int)) (j0 : 0 ≤ j) : mkd (m.set i.toNat true) j ↔ j = i ∨ mkd m j := by
 have hi : i.toNat < m.length := by omega
 unfold mkd rdOf
 simp only [List.getD, List.getElem?_set]
 by_cases e : j = i
 ·subst e
  simp [hi]
 ·have : ¬ i.toNat = j.toNat := by omega
  simp [this, e]
theorem rd66_app (l : List S74) (e : S74) {n : Int} (n0 : 0 ≤ n) (n1 : n < (l.length : Int)) : rd_T74 (l ++ [e]) n = rd_T74 l n := by
 have : n.toNat < l.length := by omega
 simp [rd_T74, List.getD, List.getElem?_append_left this]
theorem rd66_mem {l : List S74} {n : Int} (n0 : 0 ≤ n) (n1 : n < (l.length : Int)) : rd_T74 l n ∈ l := by
 have h2 : n.toNat < l.length := by omega
 have e : rd_T74 l n = l[n.toNat] := by simp [rd_T74, List.getD, h2]
 rw [e]
 exact List.getElem_mem _
theorem mem_rd66 {l : List S74} {e : S74} (h : e ∈ l) : ∃ n : Int, 0 ≤ n ∧ n < (l.length : Int) ∧ rd_T74 l n = e := by
 obtain ⟨n, hn, he⟩ := List.getElem_of_mem h
 refine ⟨(n : Int), by omega, by omega, ?_⟩
 simp [rd_T74, List.getD, hn, he]
theorem ix_in {w h : Int} {e : S74} (i : inn w h e) : 0 ≤ ix w e ∧ ix w e < w * h := ⟨(flat_lt i.1 i.2.1 i.2.2.1 i.2.2.2).2.1, (flat_lt i.1 i.2.1 i.2.2.1 i.2.2.2).2.2⟩
structure FI (w h : Int) (p : List Int) (D : Int → Int → Prop) (c : Int) (M0 : Int → Prop) (s : Int) (U : Nat) (mk : List Bool) (out : List S74) (t : Int) : Prop where
 len : mk.length = p.length
 cnt : out.length + unm mk = U
 own : ∀ e ∈ out, inn w h e ∧ Rch (adjD w h D) (colS w h p c) s (ix w e) ∧ ¬ M0 (ix w e)
 mks : ∀ j, 0 ≤ j → j < w * h → (mkd mk j ↔ M0 j ∨ ∃ e ∈ out, ix w e = j)
 beg : ∃ e ∈ out, ix w e = s
 t0 : 0 ≤ t
 t1 : t ≤ (out.length : Int)
 dn : ∀ n : Int, 0 ≤ n → n < t → ∀ q, adjD w h D (ix w (rd_T74 out n)) q → colS w h p c q → mkd mk q
def Stp (w h : Int) (p : List Int) (c : Int) (st : List S74) (mk : List Bool) (q : S74) (b : Int) : Prop := ∀ n : Int, 0 ≤ n → n < b → ∀ u v : Int, u = q.f0 + (rd_T74 st n).f0 → v = q.f1 + (rd_T74 st n).f1 → 0 ≤ u → u < w → 0 ≤ v → v < h → colS w h p c (v * w + u) → mkd mk (v * w + u)
theorem FI.more {w h : Int} {p : List Int} {D : Int → Int → Prop} {c : Int} {M0 : Int → Prop} {s : Int} {U : Nat} {mk : List Bool} {out : List S74} {t : Int} (f : FI w h p D c M0 s U mk out t) (hp : (p.length : Int) = w * h) (ht : t < (out.length : Int))
  (u v : Int) (hi : inn w h ⟨u, v⟩) (hd : D (u - (rd_T74 out t).f0) (v - (rd_T74 out t).f1)) (hn : ¬ mkd mk (v * w + u)) (hc : rd p (v * w + u) = c) :
  FI w h p D c M0 s U (mk.set (v * w + u).toNat true) (out ++ [⟨u, v⟩]) t := by
 have hx := ix_in hi
 have hx0 : 0 ≤ v * w + u := hx.1
 have hx1 : v * w + u < w * h := hx.2
 have hlt : v * w + u < (mk.length : Int) := by rw [f.len, hp]; exact hx1
 have hq := f.own _ (rd66_mem f.t0 ht)
 refine ⟨by rw [List.length_set]; exact f.len, ?_, ?_, ?_, ?_, f.t0, by rw [List.length_append]; have := f.t1; simp; omega, ?_⟩
 ·have := unm_set mk (v * w + u).toNat (by omega) (by
   unfold mkd rdOf at hn
   simpa using hn)
  have := f.cnt
  rw [List.length_append]
  simp
  omega
 ·intro e he
  rcases List.mem_append.mp he with he | he
  ·exact f.own e he
  ·have : e = ⟨u, v⟩ := by simpa using he
   subst this
   refine ⟨hi, .step hq.2.1 ⟨_, _, u, v, hq.1, hi, rfl, rfl, hd⟩ ⟨hx0, hx1, hc⟩, fun m => hn ((f.mks _ hx0 hx1).mpr (.inl m))⟩
 ·intro j j0 j1
  rw [mkd_set mk hx0 hlt j0, f.mks j j0 j1]
  constructor
  ·rintro (rfl | m | ⟨e, he, r⟩)
   ·exact .inr ⟨⟨u, v⟩, by simp, rfl⟩
   ·exact .inl m
   ·exact .inr ⟨e, List.mem_append_left _ he, r⟩
  ·rintro (m | ⟨e, he, r⟩)
   ·exact .inr (.inl m)
   ·rcases List.mem_append.mp he with he | he
    ·exact .inr (.inr ⟨e, he, r⟩)
    ·have : e = ⟨u, v⟩ := by simpa using he
     subst this
     exact .inl r.symm
 ·obtain ⟨e, he, r⟩ := f.beg
  exact ⟨e, List.mem_append_left _ he, r⟩
 ·intro n n0 n1 q ha hq2
  rw [rd66_app out _ n0 (by omega)] at ha
  exact (mkd_set mk hx0 hlt hq2.1).mpr (.inr (f.dn n n0 n1 q ha hq2))
theorem Stp.more {w h : Int} {p : List Int} {c : Int} {st : List S74} {mk : List Bool} {q : S74} {b : Int} (f : Stp w h p c st mk q b) {i : Int} (i0 : 0 ≤ i) (i1 : i < (mk.length : Int)) : Stp w h p c st (mk.set i.toNat true) q b :=
 fun n n0 n1 u v eu ev u0 u1 v0 v1 hc => (mkd_set mk i0 i1 hc.1).mpr (.inr (f n n0 n1 u v eu ev u0 u1 v0 v1 hc))
theorem Stp.next {w h : Int} {p : List Int} {c : Int} {st : List S74} {mk : List Bool} {q : S74} {b : Int} (f : Stp w h p c st mk q b) (g : ∀ u v : Int, u = q.f0 + (rd_T74 st b).f0 → v = q.f1 + (rd_T74 st b).f1 → 0 ≤ u → u < w → 0 ≤ v → v < h → colS w h p c (v * w + u) → mkd mk (v * w + u)) : Stp w h p c st mk q (b + 1) := by
 intro n n0 n1
 by_cases e : n = b
 ·subst e; exact g
 ·exact f n n0 (by omega)
theorem FI.done {w h : Int} {p : List Int} {D : Int → Int → Prop} {c : Int} {M0 : Int → Prop} {s : Int} {U : Nat} {mk : List Bool} {out : List S74} {t : Int} {st : List S74} (f : FI w h p D c M0 s U mk out t) (ht : t < (out.length : Int)) (hD : ∀ dx dy, D dx dy → ∃ b : Int, 0 ≤ b ∧ b < (st.length : Int) ∧ rd_T74 st b = ⟨dx, dy⟩)
  (g : Stp w h p c st mk (rd_T74 out t) (st.length : Int)) : FI w h p D c M0 s U mk out (t + 1) := by
 refine ⟨f.len, f.cnt, f.own, f.mks, f.beg, by have := f.t0; omega, by omega, ?_⟩
 intro n n0 n1 q ha hq
 by_cases e : n = t
 ·subst e
  have hi := (f.own _ (rd66_mem f.t0 ht)).1
  obtain ⟨x, y, u, v, hx, hu, e1, e2, hd⟩ := ha
  have e1 : (rd_T74 out n).f1 * w + (rd_T74 out n).f0 = y * w + x := e1
  obtain ⟨ey, ex⟩ := flat_inj hi.1 hi.2.1 hx.1 hx.2.1 e1
  obtain ⟨b, b0, b1, eb⟩ := hD _ _ hd
  subst e2
  exact g b b0 b1 u v (by rw [eb, ex]; show u = x + (u - x); omega) (by rw [eb, ey]; show v = y + (v - y); omega) hu.1 hu.2.1 hu.2.2.1 hu.2.2.2 hq
 ·exact f.dn n n0 (by omega) q ha hq
structure Stps (st : List S74) (D : Int → Int → Prop) : Prop where
 few : st.length ≤ 100
 one : ∀ b : Int, 0 ≤ b → b < (st.length : Int) → -1 ≤ (rd_T74 st b).f0 ∧ (rd_T74 st b).f0 ≤ 1 ∧ -1 ≤ (rd_T74 st b).f1 ∧ (rd_T74 st b).f1 ≤ 1 ∧ D (rd_T74 st b).f0 (rd_T74 st b).f1
 all : ∀ dx dy, D dx dy → ∃ b : Int, 0 ≤ b ∧ b < (st.length : Int) ∧ rd_T74 st b = ⟨dx, dy⟩
theorem flood_l1 {P : List S74 × List Bool → Prop} {w h : Int} {p : List Int} {D : Int → Int → Prop} {c : Int} {M0 : Int → Prop} {s : Int} {U : Nat} {st : List S74} (hw : 0 ≤ w) (hh : 0 ≤ h) (hw2 : w ≤ 1000) (hh2 : h ≤ 1000) (hp : (p.length : Int) = w * h) (hm : w * h ≤ 1000000) (hU : U ≤ 1000000) (hst : Stps st D) (t : Int)
  (hk : ∀ mk out, FI w h p D c M0 s U mk out (t + 1) → EvP (fun k => shape_flood.l0 k mk st c out (t + 1) w h p) P) (mk : List Bool) (out : List S74) (f : FI w h p D c M0 s U mk out t) (ht : t < (out.length : Int)) :
  EvP (fun k => shape_flood.l1 k mk st c out t st (st.length : Int) 0 w h p) P := by
 have few := hst.few
 refine EvP.up (L := fun k b (x : List Bool × List S74) => shape_flood.l1 k x.1 st c x.2 t st (st.length : Int) b w h p) (fun b x => 0 ≤ b ∧ FI w h p D c M0 s U x.1 x.2 t ∧ t < (x.2.length : Int) ∧ Stp w h p c st x.1 (rd_T74 x.2 t) b) st.length ?_ 0 (mk, out) (by omega) ⟨by omega, f, ht, fun n n0 n1 => by omega⟩
 rintro b ⟨mk, out⟩ ⟨b0, f, ht, g⟩ hb ih
 have f : FI w h p D c M0 s U mk out t := f
 have ht : t < (out.length : Int) := ht
 have g : Stp w h p c st mk (rd_T74 out t) b := g
 have lo : out.length ≤ 1000000 := by have := f.cnt; omega
 refine EvP.step (fun k => by rw [shape_flood.l1]) ?_
 refine EvP.ite (fun b1 => ?_) (fun b1 => ?_)
 ·obtain ⟨d0, d1, d2, d3, hd⟩ := hst.one b b0 b1
  have hi := (f.own _ (rd66_mem f.t0 ht)).1
  obtain ⟨i0, i1, i2, i3⟩ := hi
  refine EvP.pos b0 (EvP.pos b1 (EvP.pos f.t0 (EvP.pos ht ?_)))
  rw [w64 (x := (rd_T74 out t).f0 + (rd_T74 st b).f0) (by omega) (by omega), w64 (x := (rd_T74 out t).f1 + (rd_T74 st b).f1) (by omega) (by omega)]
  have hdu : D ((rd_T74 out t).f0 + (rd_T74 st b).f0 - (rd_T74 out t).f0) ((rd_T74 out t).f1 + (rd_T74 st b).f1 - (rd_T74 out t).f1) := by
   rw [show (rd_T74 out t).f0 + (rd_T74 st b).f0 - (rd_T74 out t).f0 = (rd_T74 st b).f0 by omega, show (rd_T74 out t).f1 + (rd_T74 st b).f1 - (rd_T74 out t).f1 = (rd_T74 st b).f1 by omega]
   exact hd
  generalize eu : (rd_T74 out t).f0 + (rd_T74 st b).f0 = u at hdu ⊢
  generalize ev : (rd_T74 out t).f1 + (rd_T74 st b).f1 = v at hdu ⊢
  have skip : (0 ≤ u → u < w → 0 ≤ v → v < h → colS w h p c (v * w + u) → mkd mk (v * w + u)) → EvP (fun k => shape_flood.j2 k mk st c out t st (st.length : Int) b true w h p u v) P := fun z => by
   refine EvP.step (fun k => by rw [shape_flood.j2]) (EvP.pos rfl ?_)
   rw [w64 (x := b + 1) (by omega) (by omega)]
   refine ih (mk, out) b1 ⟨by omega, f, ht, g.next (fun u' v' eu' ev' => ?_)⟩
   rw [eu', ev', eu, ev]
   exact z
  refine EvP.ite (fun z => skip (fun a => by omega)) (fun z1 => ?_)
  refine EvP.ite (fun z => skip (fun _ _ a => by omega)) (fun z2 => ?_)
  refine EvP.ite (fun z => skip (fun _ a => by omega)) (fun z3 => ?_)
  refine EvP.ite (fun z => skip (fun _ _ _ a => by omega)) (fun z4 => ?_)
  have hin : inn w h ⟨u, v⟩ := ⟨by show 0 ≤ u; omega, by show u < w; omega, by show 0 ≤ v; omega, by show v < h; omega⟩
  have hx0 : 0 ≤ v * w + u := (ix_in hin).1
  have hx1 : v * w + u < w * h := (ix_in hin).2
  have hv0 : 0 ≤ v * w := Int.mul_nonneg (by omega) hw
  have hlt : v * w + u < (mk.length : Int) := by rw [f.len, hp]; exact hx1
  rw [w64 (x := v * w) (by omega) (by omega), w64 (x := v * w + u) (by omega) (by omega)]
  refine EvP.pos hx0 (EvP.pos hlt ?_)
  refine EvP.ite (fun z => skip (fun _ _ _ _ _ => z)) (fun z5 => ?_)
  refine EvP.pos (by omega) ?_
  by_cases e : rd p (v * w + u) = c
  ·have eb : (rd p (v * w + u) != c) = false := by rw [e]; simp
   rw [eb]
   refine EvP.step (fun k => by rw [shape_flood.j2]) ?_
   refine EvP.neg (by simp) ?_
   rw [w64 (x := v * w) (by omega) (by omega), w64 (x := v * w + u) (by omega) (by omega), w64 (x := b + 1) (by omega) (by omega)]
   refine EvP.pos hx0 (EvP.pos hlt (EvP.pos (by show out.length < 8796093022208; omega) ?_))
   have f2 := f.more hp ht u v hin hdu z5 e
   refine ih (mk.set (v * w + u).toNat true, out ++ [⟨u, v⟩]) b1 ⟨by omega, f2, by show t < ((out ++ [⟨u, v⟩] : List S74).length : Int); rw [List.length_append]; omega, ?_⟩
   show Stp w h p c st (mk.set (v * w + u).toNat true) (rd_T74 (out ++ [⟨u, v⟩]) t) (b + 1)
   rw [rd66_app out _ f.t0 ht]
   refine (g.more hx0 hlt).next (fun u' v' eu' ev' _ _ _ _ _ => ?_)
   rw [eu', ev', eu, ev]
   exact (mkd_set mk hx0 hlt hx0).mpr (.inl rfl)
  ·have eb : (rd p (v * w + u) != c) = true := by
    rw [bne_iff_ne]
    exact e
   rw [eb]
   exact skip (fun _ _ _ _ q => absurd q.2.2 e)
 ·have eb : b = (st.length : Int) := by omega
  subst eb
  have f2 := f.done ht hst.all g
  rw [w64 (x := t + 1) (by have := f.t0; omega) (by omega)]
  exact hk mk out f2
theorem flood_l0 {w h : Int} {p : List Int} {D : Int → Int → Prop} {c : Int} {M0 : Int → Prop} {s : Int} {U : Nat} {st : List S74} (hw : 0 ≤ w) (hh : 0 ≤ h) (hw2 : w ≤ 1000) (hh2 : h ≤ 1000) (hp : (p.length : Int) = w * h) (hm : w * h ≤ 1000000) (hU : U ≤ 1000000) (hst : Stps st D) :
  ∀ (mk : List Bool) (out : List S74) (t : Int), FI w h p D c M0 s U mk out t → EvP (fun k => shape_flood.l0 k mk st c out t w h p) (fun r => FI w h p D c M0 s U r.2 r.1 r.1.length) := by
 intro mk out t f
 refine EvP.loop (L := fun k (x : List Bool × List S74 × Int) => shape_flood.l0 k x.1 st c x.2.1 x.2.2 w h p) (fun x => FI w h p D c M0 s U x.1 x.2.1 x.2.2) (fun x => U - x.2.2.toNat) ?_ (mk, out, t) f
 rintro ⟨mk, out, t⟩ f ih
 have f : FI w h p D c M0 s U mk out t := f
 refine EvP.step (fun k => by rw [shape_flood.l0]) ?_
 refine EvP.ite (fun z => ?_) (fun z => EvP.ret ?_)
 ·have z : t < (out.length : Int) := z
  refine flood_l1 hw hh hw2 hh2 hp hm hU hst t (fun mk' out' f' => ih (mk', out', t + 1) f' ?_) mk out f z
  have := f.cnt
  have := f.t0
  show U - (t + 1).toNat < U - t.toNat
  omega
 ·have z : ¬ t < (out.length : Int) := z
  have e : t = (out.length : Int) := by have := f.t1; omega
  subst e
  exact f
theorem flood_is {w h : Int} {p : List Int} {D : Int → Int → Prop} {st : List S74} (hw : 0 ≤ w) (hh : 0 ≤ h) (hw2 : w ≤ 1000) (hh2 : h ≤ 1000) (hp : (p.length : Int) = w * h) (hm : w * h ≤ 1000000) (hst : Stps st D) (mk : List Bool) (hl : mk.length = p.length) (x y : Int) (hi : inn w h ⟨x, y⟩) (hn : ¬ mkd mk (y * w + x)) :
  EvP (fun k => shape_flood.f k w h p mk x y st) (fun r => FI w h p D (rd p (y * w + x)) (mkd mk) (y * w + x) (unm mk) r.2 r.1 r.1.length) := by
 have hx0 : 0 ≤ y * w + x := (ix_in hi).1
 have hx1 : y * w + x < w * h := (ix_in hi).2
 have hi1 : 0 ≤ x := hi.1
 have hi2 : x < w := hi.2.1
 have hv0 : 0 ≤ y * w := Int.mul_nonneg hi.2.2.1 hw
 have hlt : y * w + x < (mk.length : Int) := by rw [hl, hp]; exact hx1
 have hU : unm mk ≤ 1000000 := by
  have : unm mk ≤ mk.length := List.count_le_length
  omega
 unfold shape_flood.f
 rw [w64 (x := y * w) (by omega) (by omega), w64 (x := y * w + x) (by omega) (by omega)]
 refine EvP.pos hx0 (EvP.pos (by omega) (EvP.pos hlt ?_))
 refine flood_l0 hw hh hw2 hh2 hp hm hU hst _ _ 0 ⟨by rw [List.length_set]; exact hl, ?_, ?_, ?_, ⟨⟨x, y⟩, by simp, rfl⟩, by omega, by simp, fun n n0 n1 => by omega⟩
 ·have := unm_set mk (y * w + x).toNat (by omega) (by
   unfold mkd rdOf at hn
   simpa using hn)
  simp
  omega
 ·intro e he
  have : e = ⟨x, y⟩ := by simpa using he
  subst this
  exact ⟨hi, .refl ⟨hx0, hx1, rfl⟩, hn⟩
 ·intro j j0 j1
  rw [mkd_set mk hx0 hlt j0]
  constructor
  ·rintro (rfl | m)
   ·exact .inr ⟨⟨x, y⟩, by simp, rfl⟩
   ·exact .inl m
  ·rintro (m | ⟨e, he, r⟩)
   ·exact .inr m
   ·have : e = ⟨x, y⟩ := by simpa using he
    subst this
    exact .inl r.symm
def DD (cor : Bool) (dx dy : Int) : Prop := -1 ≤ dx ∧ dx ≤ 1 ∧ -1 ≤ dy ∧ dy ≤ 1 ∧ ¬ (dx = 0 ∧ dy = 0) ∧ (cor = true ∨ dx = 0 ∨ dy = 0)
def unz (m : List Int) : Nat := m.count 0
theorem unz_set : ∀ (m : List Int) (i : Nat) (a : Int), i < m.length → m.getD i 0 = 0 → a ≠ 0 → unz (m.set i a) + 1 = unz m
 | [], i, _, h, _, _ => by simp at h
 | b :: m, 0, a, _, e, ha => by
  have : b = 0 := e
  subst this
  unfold unz
  rw [List.set_cons_zero, List.count_cons, List.count_cons]
  simp [ha]
 | b :: m, i + 1, a, h, e, ha => by
  have ih := unz_set m i a (by simpa using h) e ha
  unfold unz at ih ⊢
  rw [List.set_cons_succ, List.count_cons, List.count_cons]
  omega
structure FR (w h : Int) (p : List Int) (D : Int → Int → Prop) (c : Int) (m0 : List Int) (a s : Int) (U : Nat) (m : List Int) (out : List Int) (t : Int) : Prop where
 len : m.length = p.length
 cnt : out.length + unz m = U
 own : ∀ e ∈ out, (0 ≤ e ∧ e < w * h) ∧ Rch (adjD w h D) (colS w h p c) s e ∧ rd m0 e = 0
 mks : ∀ j, 0 ≤ j → j < w * h → (j ∈ out → rd m j = a) ∧ (j ∉ out → rd m j = rd m0 j)
 beg : s ∈ out
 t0 : 0 ≤ t
 t1 : t ≤ (out.length : Int)
 dn : ∀ n : Int, 0 ≤ n → n < t → ∀ q, adjD w h D (rd out n) q → colS w h p c q → rd m q ≠ 0
theorem FR.more {w h : Int} {p : List Int} {D : Int → Int → Prop} {c : Int} {m0 : List Int} {a s : Int} {U : Nat} {m out : List Int} {t : Int} (f : FR w h p D c m0 a s U m out t) (ha : a ≠ 0) (hp : (p.length : Int) = w * h)
  {i j : Int} (hi : i ∈ out) (j0 : 0 ≤ j) (j1 : j < w * h) (hd : adjD w h D i j) (hn : rd m j = 0) (hc : rd p j = c) : FR w h p D c m0 a s U (m.set j.toNat a) (out ++ [j]) t := by
 have hlt : j < (m.length : Int) := by rw [f.len, hp]; exact j1
 have hq := f.own _ hi
 have nj : j ∉ out := fun z => ha (((f.mks j j0 j1).1 z).symm.trans hn)
 refine ⟨by rw [List.length_set]; exact f.len, ?_, ?_, ?_, List.mem_append_left _ f.beg, f.t0, by rw [List.length_append]; have := f.t1; simp; omega, ?_⟩
 ·have := unz_set m j.toNat a (by omega) hn ha
  have := f.cnt
  rw [List.length_append]
  simp
  omega
 ·intro e he
  rcases List.mem_append.mp he with he | he
  ·exact f.own e he
  ·have : e = j := by simpa using he
   subst this
   exact ⟨⟨j0, j1⟩, .step hq.2.1 hd ⟨j0, j1, hc⟩, ((f.mks e j0 j1).2 nj).symm.trans hn⟩
 ·intro q q0 q1
  rw [rd_set m j q a j0 hlt q0]
  by_cases e : q = j
  ·subst e
   exact ⟨fun _ => if_pos rfl, fun z => absurd (List.mem_append_right _ (by simp)) z⟩
  ·rw [if_neg e]
   refine ⟨fun z => (f.mks q q0 q1).1 ?_, fun z => (f.mks q q0 q1).2 (fun y => z (List.mem_append_left _ y))⟩
   rcases List.mem_append.mp z with z | z
   ·exact z
   ·exact absurd (by simpa using z) e
 ·intro n n0 n1 q hadj hq2
  rw [rd_append out j n n0, if_neg (by have := f.t1; omega)] at hadj
  rw [rd_set m j q a j0 hlt hq2.1]
  split
  ·exact ha
  ·exact f.dn n n0 n1 q hadj hq2
def Win (w h : Int) (p : List Int) (c : Int) (cor : Bool) (m : List Int) (x y v u : Int) : Prop := ∀ u' v' : Int, y - 1 ≤ v' → x - 1 ≤ u' → u' ≤ x + 1 → (v' < v ∨ v' = v ∧ u' < u) → (cor = true ∨ u' = x ∨ v' = y) → 0 ≤ u' → u' < w → 0 ≤ v' → v' < h → colS w h p c (v' * w + u') → rd m (v' * w + u') ≠ 0
theorem Win.more {w h : Int} {p : List Int} {c : Int} {cor : Bool} {m : List Int} {x y v u : Int} (g : Win w h p c cor m x y v u) {j a : Int} (j0 : 0 ≤ j) (j1 : j < (m.length : Int)) (ha : a ≠ 0) : Win w h p c cor (m.set j.toNat a) x y v u := by
 intro u' v' a1 a2 a3 a4 a5 a6 a7 a8 a9 hc
 rw [rd_set m j _ a j0 j1 hc.1]
 split
 ·exact ha
 ·exact g u' v' a1 a2 a3 a4 a5 a6 a7 a8 a9 hc
theorem Win.next {w h : Int} {p : List Int} {c : Int} {cor : Bool} {m : List Int} {x y v u : Int} (g : Win w h p c cor m x y v u) (k : (cor = true ∨ u = x ∨ v = y) → 0 ≤ u → u < w → 0 ≤ v → v < h → colS w h p c (v * w + u) → rd m (v * w + u) ≠ 0) : Win w h p c cor m x y v (u + 1) := by
 intro u' v' a1 a2 a3 a4 a5 a6 a7 a8 a9 hc
 by_cases e : v' = v ∧ u' = u
 ·obtain ⟨rfl, rfl⟩ := e
  exact k a5 a6 a7 a8 a9 hc
 ·exact g u' v' a1 a2 a3 (by omega) a5 a6 a7 a8 a9 hc
theorem FR.done {w h : Int} {p : List Int} {c : Int} {m0 : List Int} {a s : Int} {U : Nat} {m out : List Int} {t : Int} {cor : Bool} (f : FR w h p (DD cor) c m0 a s U m out t) (ht : t < (out.length : Int)) {x y : Int} (hx : 0 ≤ x ∧ x < w ∧ 0 ≤ y ∧ y < h) (ex : rd out t = y * w + x)
  (g : Win w h p c cor m x y (y + 2) (x - 1)) : FR w h p (DD cor) c m0 a s U m out (t + 1) := by
 refine ⟨f.len, f.cnt, f.own, f.mks, f.beg, by have := f.t0; omega, by omega, ?_⟩
 intro n n0 n1 q ha hq
 by_cases e : n = t
 ·subst e
  rw [ex] at ha
  obtain ⟨x', y', u, v, hx', hu, e1, e2, hd⟩ := ha
  obtain ⟨ey, ex'⟩ := flat_inj hx.1 hx.2.1 hx'.1 hx'.2.1 e1
  subst e2 ey ex'
  obtain ⟨d0, d1, d2, d3, _, d5⟩ := hd
  exact g u v (by omega) (by omega) (by omega) (by omega) (by rcases d5 with z | z | z; exact .inl z; exact .inr (.inl (by omega)); exact .inr (.inr (by omega))) hu.1 hu.2.1 hu.2.2.1 hu.2.2.2 hq
 ·exact f.dn n n0 (by omega) q ha hq
theorem spread_l2 {P : Int × List Int → Prop} {w h : Int} {p : List Int} {c : Int} {m0 : List Int} {a s : Int} {U : Nat} {cor : Bool} (hw : 0 ≤ w) (hh : 0 ≤ h) (hw2 : w ≤ 1000) (hh2 : h ≤ 1000) (hp : (p.length : Int) = w * h) (hm : w * h ≤ 1000000) (hb : ∀ z ∈ p, 0 ≤ z ∧ z ≤ 255) (hU : U ≤ 1000000) (ha : a ≠ 0) (t x y : Int) (hx : 0 ≤ x ∧ x < w ∧ 0 ≤ y ∧ y < h) (v : Int) (v0 : y - 1 ≤ v) (v1 : v ≤ y + 1)
  (hk : ∀ m out, FR w h p (DD cor) c m0 a s U m out t → t < (out.length : Int) → rd out t = y * w + x → Win w h p c cor m x y (v + 1) (x - 1) → EvP (fun k => incunableref15_spread.l1 k m a c cor out t x y (v + 1) w h p) P)
  (m out : List Int) (f : FR w h p (DD cor) c m0 a s U m out t) (ht : t < (out.length : Int)) (ex : rd out t = y * w + x) (g : Win w h p c cor m x y v (x - 1)) :
  EvP (fun k => incunableref15_spread.l2 k m a c cor out t x y v (x - 1) w h p) P := by
 refine EvP.up (L := fun k u (z : List Int × List Int) => incunableref15_spread.l2 k z.1 a c cor z.2 t x y v u w h p) (fun u z => x - 1 ≤ u ∧ FR w h p (DD cor) c m0 a s U z.1 z.2 t ∧ t < (z.2.length : Int) ∧ rd z.2 t = y * w + x ∧ Win w h p c cor z.1 x y v u) (x + 2) ?_ (x - 1) (m, out) (by omega) ⟨by omega, f, ht, ex, g⟩
 rintro u ⟨m, out⟩ ⟨u0, f, ht, ex, g⟩ hu ih
 have f : FR w h p (DD cor) c m0 a s U m out t := f
 have ht : t < (out.length : Int) := ht
 have ex : rd out t = y * w + x := ex
 have g : Win w h p c cor m x y v u := g
 have lo : out.length ≤ 1000000 := by have := f.cnt; omega
 obtain ⟨x0, x1, y0, y1⟩ := hx
 refine EvP.step (fun k => by rw [incunableref15_spread.l2]) ?_
 rw [w64 (x := x + 1) (by omega) (by omega)]
 refine EvP.ite (fun u1 => ?_) (fun u1 => ?_)
 ·have skip : ((cor = true ∨ u = x ∨ v = y) → 0 ≤ u → u < w → 0 ≤ v → v < h → colS w h p c (v * w + u) → rd m (v * w + u) ≠ 0) → EvP (fun k => incunableref15_spread.l2 k m a c cor out t x y v (wrap64 (u + 1)) w h p) P := fun z => by
   rw [w64 (x := u + 1) (by omega) (by omega)]
   exact ih (m, out) (by omega) ⟨by omega, f, ht, ex, g.next z⟩
  have yes : ((cor = true ∨ u = x ∨ v = y) → 0 ≤ u → u < w → 0 ≤ v → v < h → colS w h p c (v * w + u) → rd m (v * w + u) ≠ 0) → EvP (fun k => incunableref15_spread.j3 k m a c cor out t x y v u true w h p) P := fun z => EvP.step (fun k => by rw [incunableref15_spread.j3]) (EvP.pos rfl (skip z))
  refine EvP.ite (fun z => yes (fun _ b => by omega)) (fun z1 => ?_)
  refine EvP.ite (fun z => yes (fun _ _ _ b => by omega)) (fun z2 => ?_)
  refine EvP.ite (fun z => yes (fun _ _ b => by omega)) (fun z3 => ?_)
  refine EvP.ite (fun z => yes (fun _ _ _ _ b => by omega)) (fun z4 => ?_)
  have no : (cor = true ∨ u = x ∨ v = y) → EvP (fun k => incunableref15_spread.j3 k m a c cor out t x y v u false w h p) P := fun hal => by
   have hf := flat_lt (x := u) (y := v) (w := w) (h := h) (by omega) (by omega) (by omega) (by omega)
   obtain ⟨hv0, j0, j1⟩ := hf
   have hlt : v * w + u < (m.length : Int) := by rw [f.len, hp]; exact j1
   have pb := hb _ (rd_mem (l := p) j0 (by omega))
   refine EvP.step (fun k => by rw [incunableref15_spread.j3]) ?_
   refine EvP.neg (by simp) ?_
   rw [w64 (x := v * w) (by omega) (by omega), w64 (x := v * w + u) (by omega) (by omega), w64 (x := rd p (v * w + u)) (by omega) (by omega)]
   refine EvP.pos j0 (EvP.pos (by omega) ?_)
   refine EvP.ite (fun e => EvP.pos hlt ?_) (fun e => skip (fun _ _ _ _ _ q => absurd q.2.2 e))
   refine EvP.ite (fun n => EvP.pos (by omega) ?_) (fun n => skip (fun _ _ _ _ _ _ => n))
   have mi : y * w + x ∈ out := by rw [← ex]; exact rd_mem f.t0 ht
   have nc : ¬ (u - x = 0 ∧ v - y = 0) := fun z => by
    have e1 : v * w + u = y * w + x := by rw [show v = y by omega, show u = x by omega]
    rw [e1] at n
    have hq := (f.own _ mi).1
    exact ha (((f.mks _ hq.1 hq.2).1 mi).symm.trans n)
   have f2 := f.more ha hp mi j0 j1 ⟨x, y, u, v, ⟨x0, x1, y0, y1⟩, ⟨by omega, by omega, by omega, by omega⟩, rfl, rfl, by omega, by omega, by omega, by omega, nc, by rcases hal with z | z | z; exact .inl z; exact .inr (.inl (by omega)); exact .inr (.inr (by omega))⟩ n e
   rw [w64 (x := u + 1) (by omega) (by omega)]
   refine ih (m.set (v * w + u).toNat a, out ++ [v * w + u]) (by omega) ⟨by omega, f2, by show t < ((out ++ [v * w + u] : List Int).length : Int); rw [List.length_append]; omega, ?_, ?_⟩
   ·show rd (out ++ [v * w + u]) t = _
    rw [rd_append _ _ _ f.t0, if_neg (by omega)]
    exact ex
   ·refine (g.more j0 hlt ha).next (fun _ _ _ _ _ _ => ?_)
    show rd (m.set (v * w + u).toNat a) (v * w + u) ≠ 0
    rw [rd_set m _ _ a j0 hlt j0, if_pos rfl]
    exact ha
  refine EvP.ite (fun z => no (.inl z)) (fun z5 => ?_)
  refine EvP.ite (fun z => no (.inr (.inl z))) (fun z6 => ?_)
  by_cases e : v = y
  ·have eb : (v != y) = false := by rw [e]; simp
   rw [eb]
   exact no (.inr (.inr e))
  ·have eb : (v != y) = true := by
    rw [bne_iff_ne]
    exact e
   rw [eb]
   exact yes (fun z => absurd z (by rintro (z | z | z); exact z5 z; exact z6 z; exact e z))
 ·rw [w64 (x := v + 1) (by omega) (by omega)]
  refine hk m out f ht ex ?_
  intro u' v' a1 a2 a3 a4 a5 a6 a7 a8 a9 hc
  exact g u' v' a1 a2 a3 (by omega) a5 a6 a7 a8 a9 hc
theorem spread_l0 {w h : Int} {p : List Int} {c : Int} {m0 : List Int} {a s : Int} {U : Nat} {cor : Bool} (hw : 0 ≤ w) (hh : 0 ≤ h) (hw2 : w ≤ 1000) (hh2 : h ≤ 1000) (hp : (p.length : Int) = w * h) (hm : w * h ≤ 1000000) (hb : ∀ z ∈ p, 0 ≤ z ∧ z ≤ 255) (hU : U ≤ 1000000) (ha : a ≠ 0) (m out : List Int) (t : Int) (f : FR w h p (DD cor) c m0 a s U m out t) :
  EvP (fun k => incunableref15_spread.l0 k m a c cor out t w h p) (fun r => ∃ out : List Int, r.1 = (out.length : Int) ∧ FR w h p (DD cor) c m0 a s U r.2 out out.length) := by
 refine EvP.loop (L := fun k (x : List Int × List Int × Int) => incunableref15_spread.l0 k x.1 a c cor x.2.1 x.2.2 w h p) (fun x => FR w h p (DD cor) c m0 a s U x.1 x.2.1 x.2.2) (fun x => U - x.2.2.toNat) ?_ (m, out, t) f
 rintro ⟨m, out, t⟩ f ih
 have f : FR w h p (DD cor) c m0 a s U m out t := f
 have lo : out.length ≤ 1000000 := by have := f.cnt; omega
 refine EvP.step (fun k => by rw [incunableref15_spread.l0]) ?_
 refine EvP.ite (fun z => ?_) (fun z => EvP.ret ?_)
 ·have z : t < (out.length : Int) := z
  obtain ⟨⟨q0, q1⟩, _⟩ := f.own _ (rd_mem f.t0 z)
  obtain ⟨w0, a1, a2, a3, a4, a5⟩ := flat_of hw q0 q1
  have ex : rd out t = (rd out t / w) * w + rd out t % w := a5.symm
  refine EvP.pos f.t0 (EvP.neg (by omega) ?_)
  show EvP (fun k => incunableref15_spread.l1 k m a c cor out t (Int.tmod (rd out t) w) (wrap64 (Int.tdiv (rd out t) w)) (wrap64 (wrap64 (Int.tdiv (rd out t) w) - 1)) w h p) _
  rw [tmod_pos q0, tdiv_pos q0]
  generalize rd out t / w = y at a3 a4 ex ⊢
  generalize rd out t % w = x at a1 a2 ex ⊢
  rw [w64 (x := y) (by omega) (by omega), w64 (x := y - 1) (by omega) (by omega)]
  refine EvP.up (L := fun k v (z : List Int × List Int) => incunableref15_spread.l1 k z.1 a c cor z.2 t x y v w h p) (fun v z => y - 1 ≤ v ∧ FR w h p (DD cor) c m0 a s U z.1 z.2 t ∧ t < (z.2.length : Int) ∧ rd z.2 t = y * w + x ∧ Win w h p c cor z.1 x y v (x - 1)) (y + 2) ?_ (y - 1) (m, out) (by omega) ⟨by omega, f, z, ex, fun u' v' b1 b2 b3 b4 => by omega⟩
  rintro v ⟨m, out⟩ ⟨v0, f, ht, ex, g⟩ hv ih2
  have f : FR w h p (DD cor) c m0 a s U m out t := f
  have ht : t < (out.length : Int) := ht
  have lo : out.length ≤ 1000000 := by have := f.cnt; omega
  refine EvP.step (fun k => by rw [incunableref15_spread.l1]) ?_
  rw [w64 (x := y + 1) (by omega) (by omega)]
  refine EvP.ite (fun v1 => ?_) (fun v1 => ?_)
  ·rw [w64 (x := x - 1) (by omega) (by omega)]
   exact spread_l2 hw hh hw2 hh2 hp hm hb hU ha t x y ⟨a1, a2, a3, a4⟩ v v0 v1 (fun m' out' f' ht' ex' g' => ih2 (m', out') (by omega) ⟨by omega, f', ht', ex', g'⟩) m out f ht ex g
  ·have ev : v = y + 2 := by omega
   subst ev
   have f2 := f.done ht ⟨a1, a2, a3, a4⟩ ex g
   have t0 := f.t0
   show EvP (fun k => incunableref15_spread.l0 k m a c cor out (wrap64 (t + 1)) w h p) _
   rw [w64 (x := t + 1) (by omega) (by omega)]
   refine ih (m, out, t + 1) f2 ?_
   have := f.cnt
   show U - (t + 1).toNat < U - t.toNat
   omega
 ·have z : ¬ t < (out.length : Int) := z
  have e : t = (out.length : Int) := by have := f.t1; omega
  subst e
  exact ⟨out, rfl, f⟩
theorem spread_is {w h : Int} {p : List Int} {cor : Bool} (hw : 0 ≤ w) (hh : 0 ≤ h) (hw2 : w ≤ 1000) (hh2 : h ≤ 1000) (hp : (p.length : Int) = w * h) (hm : w * h ≤ 1000000) (hb : ∀ z ∈ p, 0 ≤ z ∧ z ≤ 255) (m : List Int) (hl : m.length = p.length) (s a c : Int) (ha : a ≠ 0) (s0 : 0 ≤ s) (s1 : s < w * h) (hc : rd p s = c) (hn : rd m s = 0) :
  EvP (fun k => incunableref15_spread.f k w h p m s a c cor) (fun r => ∃ out : List Int, r.1 = (out.length : Int) ∧ FR w h p (DD cor) c m a s (unz m) r.2 out out.length) := by
 have hlt : s < (m.length : Int) := by rw [hl, hp]; exact s1
 have hU : unz m ≤ 1000000 := by
  have : unz m ≤ m.length := List.count_le_length
  omega
 unfold incunableref15_spread.f
 refine EvP.pos s0 (EvP.pos hlt ?_)
 refine spread_l0 hw hh hw2 hh2 hp hm hb hU ha _ _ 0 ⟨by rw [List.length_set]; exact hl, ?_, ?_, ?_, by simp, by omega, by simp, fun n n0 n1 => by omega⟩
 ·have := unz_set m s.toNat a (by omega) hn ha
  simp
  omega
 ·intro e he
  have : e = s := by simpa using he
  subst this
  exact ⟨⟨s0, s1⟩, .refl ⟨s0, s1, hc⟩, hn⟩
 ·intro j j0 j1
  rw [rd_set m s j a s0 hlt j0]
  by_cases e : j = s
  ·subst e
   exact ⟨fun _ => if_pos rfl, fun z => absurd (by simp) z⟩
  ·rw [if_neg e]
   exact ⟨fun z => absurd (by simpa using z) e, fun _ => rfl⟩
theorem DD_neg {cor : Bool} {dx dy : Int} (h : DD cor dx dy) : DD cor (-dx) (-dy) := by
 obtain ⟨a, b, c, d, e, f⟩ := h
 exact ⟨by omega, by omega, by omega, by omega, fun z => e ⟨by omega, by omega⟩, by rcases f with z | z | z; exact .inl z; exact .inr (.inl (by omega)); exact .inr (.inr (by omega))⟩
theorem adj_symm {w h : Int} {cor : Bool} (i j : Int) (a : adjD w h (DD cor) i j) : adjD w h (DD cor) j i := by
 obtain ⟨x, y, u, v, hx, hu, e1, e2, d⟩ := a
 refine ⟨u, v, x, y, hu, hx, e2, e1, ?_⟩
 have := DD_neg d
 rw [show -(u - x) = x - u by omega, show -(v - y) = y - v by omega] at this
 exact this
def mixv (op a b : Int) : Int := if op = 0 then b else if op = 1 then (if a < b then b else a) else if op = 2 then (if b < a then b else a) else if op = 3 then (a + b) % 2 else (a + b + 1) % 2
theorem five {op : Int} (h0 : 0 ≤ op) (h1 : op ≤ 4) : op = 0 ∨ op = 1 ∨ op = 2 ∨ op = 3 ∨ op = 4 := by omega
theorem bit {a : Int} (h0 : 0 ≤ a) (h1 : a ≤ 1) : a = 0 ∨ a = 1 := by omega
instance (w h : Int) (p : List Int) : Decidable (Val w h p) := by unfold Val; exact inferInstance
theorem sid_mul {w h : Int} (hw : 0 ≤ w) (hh : 0 ≤ h) (hw' : w ≤ 200) (hh' : h ≤ 200) : 0 ≤ w * h ∧ w * h ≤ 40000 := by
 have h1 : 0 ≤ w * h := Int.mul_nonneg hw hh
 have h2 : w * h ≤ 200 * h := Int.mul_le_mul_of_nonneg_right hw' hh
 omega
def drawG (g : Int → Int → Int) (w' h' : Int) (s : List Int) (x y op : Int) : Int → Int → Int := fun u t => if 0 ≤ u - x ∧ u - x < w' ∧ 0 ≤ t - y ∧ t - y < h' then mixv op (g u t) (pix w' h' s (u - x) (t - y)) else g u t
def Shf (x y : Int) : Prop := -100000 ≤ x ∧ x ≤ 100000 ∧ -100000 ≤ y ∧ y ≤ 100000
instance (x y : Int) : Decidable (Shf x y) := by unfold Shf; exact inferInstance
def drawR (w h : Int) (p : List Int) (w' h' : Int) (s : List Int) (x y op : Int) : Int × Int × List Int × Int :=
 if ¬ (Val w h p ∧ Val w' h' s) then (0, 0, [], 30) else if op < 0 ∨ op > 4 ∨ ¬ Shf x y then (0, 0, [], 2) else (w, h, tab w h (drawG (pix w h p) w' h' s x y op), 0)
def partG (w h : Int) (p : List Int) (x y : Int) : Int → Int → Int := fun u t => pix w h p (x + u) (y + t)
def mnv (a b : Int) : Int := if b < a then b else a
def mxv (a b : Int) : Int := if a < b then b else a
def stp (w : Int) (p : List Int) (i : Int) (s : Int × Int × Int × Int) : Int × Int × Int × Int := if rd p i = 1 then (mnv s.1 (i % w), mnv s.2.1 (i / w), mxv s.2.2.1 (i % w), mxv s.2.2.2 (i / w)) else s
def trf (w h : Int) (p : List Int) : Nat → Int × Int × Int × Int
 | 0 => (w, h, -1, -1)
 | n + 1 => stp w p (n : Int) (trf w h p n)
def Box (w h : Int) (p : List Int) (n : Nat) (s : Int × Int × Int × Int) : Prop :=
 (s = (w, h, -1, -1) ∧ ∀ i : Int, 0 ≤ i → i < n → rd p i ≠ 1) ∨
 (0 ≤ s.1 ∧ s.1 ≤ s.2.2.1 ∧ s.2.2.1 < w ∧ 0 ≤ s.2.1 ∧ s.2.1 ≤ s.2.2.2 ∧ s.2.2.2 < h ∧ ∀ i : Int, 0 ≤ i → i < n → rd p i = 1 → s.1 ≤ i % w ∧ i % w ≤ s.2.2.1 ∧ s.2.1 ≤ i / w ∧ i / w ≤ s.2.2.2)
theorem trf_box {w h : Int} {p : List Int} (hw : 0 ≤ w) : ∀ n : Nat, (n : Int) ≤ w * h → Box w h p n (trf w h p n)
 | 0, _ => .inl ⟨rfl, fun i a b => by omega⟩
 | n + 1, hn => by
  have ih := trf_box (h := h) (p := p) hw n (by omega)
  obtain ⟨hw', a, b, c, d, _⟩ := flat_of (w := w) (h := h) (i := (n : Int)) hw (by omega) (by omega)
  show Box w h p (n + 1) (stp w p n (trf w h p n))
  unfold stp
  by_cases e : rd p n = 1
  ·rw [if_pos e]
   rcases ih with ⟨e1, e2⟩ | ⟨q1, q2, q3, q4, q5, q6, q7⟩
   ·right
    rw [e1]
    unfold mnv mxv
    refine ⟨?_, ?_, ?_, ?_, ?_, ?_, ?_⟩
    ·show 0 ≤ (if (n : Int) % w < w then (n : Int) % w else w); split <;> omega
    ·show (if (n : Int) % w < w then (n : Int) % w else w) ≤ (if -1 < (n : Int) % w then (n : Int) % w else -1); split <;> split <;> omega
    ·show (if -1 < (n : Int) % w then (n : Int) % w else -1) < w; split <;> omega
    ·show 0 ≤ (if (n : Int) / w < h then (n : Int) / w else h); split <;> omega
    ·show (if (n : Int) / w < h then (n : Int) / w else h) ≤ (if -1 < (n : Int) / w then (n : Int) / w else -1); split <;> split <;> omega
    ·show (if -1 < (n : Int) / w then (n : Int) / w else -1) < h; split <;> omega
    ·intro i i0 i1 hi
     have : i = n := by
      rcases Int.lt_or_le i n with z | z
      ·exact absurd hi (e2 i i0 z)
      ·omega
     subst this
     refine ⟨?_, ?_, ?_, ?_⟩
     ·show (if (n : Int) % w < w then (n : Int) % w else w) ≤ _; split <;> omega
     ·show _ ≤ (if -1 < (n : Int) % w then (n : Int) % w else -1); split <;> omega
     ·show (if (n : Int) / w < h then (n : Int) / w else h) ≤ _; split <;> omega
     ·show _ ≤ (if -1 < (n : Int) / w then (n : Int) / w else -1); split <;> omega
   ·right
    generalize trf w h p n = s at q1 q2 q3 q4 q5 q6 q7
    unfold mnv mxv
    refine ⟨?_, ?_, ?_, ?_, ?_, ?_, ?_⟩
    ·show 0 ≤ (if (n : Int) % w < s.1 then (n : Int) % w else s.1); split <;> omega
    ·show (if (n : Int) % w < s.1 then (n : Int) % w else s.1) ≤ (if s.2.2.1 < (n : Int) % w then (n : Int) % w else s.2.2.1); split <;> split <;> omega
    ·show (if s.2.2.1 < (n : Int) % w then (n : Int) % w else s.2.2.1) < w; split <;> omega
    ·show 0 ≤ (if (n : Int) / w < s.2.1 then (n : Int) / w else s.2.1); split <;> omega
    ·show (if (n : Int) / w < s.2.1 then (n : Int) / w else s.2.1) ≤ (if s.2.2.2 < (n : Int) / w then (n : Int) / w else s.2.2.2); split <;> split <;> omega
    ·show (if s.2.2.2 < (n : Int) / w then (n : Int) / w else s.2.2.2) < h; split <;> omega
    ·intro i i0 i1 hi
     have hb : i = n ∨ (s.1 ≤ i % w ∧ i % w ≤ s.2.2.1 ∧ s.2.1 ≤ i / w ∧ i / w ≤ s.2.2.2) := by
      rcases Int.lt_or_le i n with z | z
      ·exact .inr (q7 i i0 z hi)
      ·left; omega
     refine ⟨?_, ?_, ?_, ?_⟩
     ·show (if (n : Int) % w < s.1 then (n : Int) % w else s.1) ≤ _
      rcases hb with rfl | hb <;> split <;> omega
     ·show _ ≤ (if s.2.2.1 < (n : Int) % w then (n : Int) % w else s.2.2.1)
      rcases hb with rfl | hb <;> split <;> omega
     ·show (if (n : Int) / w < s.2.1 then (n : Int) / w else s.2.1) ≤ _
      rcases hb with rfl | hb <;> split <;> omega
     ·show _ ≤ (if s.2.2.2 < (n : Int) / w then (n : Int) / w else s.2.2.2)
      rcases hb with rfl | hb <;> split <;> omega
  ·rw [if_neg e]
   rcases ih with ⟨e1, e2⟩ | ⟨q1, q2, q3, q4, q5, q6, q7⟩
   ·left
    refine ⟨e1, fun i a b hi => ?_⟩
    rcases Int.lt_or_le i n with z | z
    ·exact e2 i a z hi
    ·have : i = n := by omega
     subst this
     exact e hi
   ·right
    refine ⟨q1, q2, q3, q4, q5, q6, fun i a b hi => ?_⟩
    rcases Int.lt_or_le i n with z | z
    ·exact q7 i a z hi
    ·have : i = n := by omega
     subst this
     exact absurd hi e
def trb (w h : Int) (p : List Int) : Int × Int × Int × Int := trf w h p (w * h).toNat
theorem trb_box {w h : Int} {p : List Int} (hw : 0 ≤ w) (hh : 0 ≤ h) : Box w h p (w * h).toNat (trb w h p) :=
 trf_box hw _ (by have := Int.mul_nonneg hw hh; omega)
def trimT (w h : Int) (p : List Int) (s : Int × Int × Int × Int) : Int × Int × List Int × Int × Int × Int :=
 if s.2.2.1 < 0 then (0, 0, [], 0, 0, 0) else (s.2.2.1 - s.1 + 1, s.2.2.2 - s.2.1 + 1, tab (s.2.2.1 - s.1 + 1) (s.2.2.2 - s.2.1 + 1) (partG w h p s.1 s.2.1), s.1, s.2.1, 0)
def trimR (w h : Int) (p : List Int) : Int × Int × List Int × Int × Int × Int := if Val w h p then trimT w h p (trb w h p) else (0, 0, [], 0, 0, 30)
theorem box_sid {w h : Int} {p : List Int} (s : Sid w h) {n : Nat} {b : Int × Int × Int × Int} (hb : Box w h p n b) (hr : ¬ b.2.2.1 < 0) :
  Sid (b.2.2.1 - b.1 + 1) (b.2.2.2 - b.2.1 + 1) ∧ 0 ≤ b.1 ∧ 0 ≤ b.2.1 ∧ b.1 ≤ 200 ∧ b.2.1 ≤ 200 ∧ b.2.2.1 < w ∧ b.2.2.2 < h ∧ b.1 ≤ b.2.2.1 ∧ b.2.1 ≤ b.2.2.2 := by
 obtain ⟨s1, s2, s3, s4, s5⟩ := s
 rcases hb with ⟨e, _⟩ | ⟨q1, q2, q3, q4, q5, q6, _⟩
 ·rw [e] at hr
  exact absurd (by decide : (-1 : Int) < 0) hr
 ·have h1 : (b.2.2.1 - b.1 + 1) * (b.2.2.2 - b.2.1 + 1) ≤ w * (b.2.2.2 - b.2.1 + 1) := Int.mul_le_mul_of_nonneg_right (by omega) (by omega)
  have h2 : w * (b.2.2.2 - b.2.1 + 1) ≤ w * h := Int.mul_le_mul_of_nonneg_left (by omega) s1
  exact ⟨⟨by omega, by omega, by omega, by omega, by omega⟩, by omega, by omega, by omega, by omega, by omega, by omega, by omega, by omega⟩
theorem refSame_is (w h : Int) (p : List Int) (w' h' : Int) (p' : List Int) (hp : Byt p) (hp' : Byt p') : incunableref05_Same.f w h p w' h' p' = some (decide (w = w' ∧ h = h' ∧ p = p')) := by
 unfold incunableref05_Same.f
 rw [strOfNums_eq hp hp']
 by_cases a : w = w'
 ·by_cases b : h = h'
  ·simp [a, b]
  ·simp [a, b]
 ·simp [a]
def VP (b : S35) : Prop := Val b.f0.f0 b.f0.f1 b.f0.f2
instance (b : S35) : Decidable (VP b) := by unfold VP; exact inferInstance
def NP (b : S35) : Prop := Shf b.f1 b.f2
instance (b : S35) : Decidable (NP b) := by unfold NP; exact inferInstance
def CP (b : S35) : Prop := (∀ z ∈ b.f0.f2, 0 ≤ z) ∧ (b.f0.f2.length : Int) ≤ 9223372036854775807
def plc (b : S35) (u t : Int) : Int := pix b.f0.f0 b.f0.f1 b.f0.f2 (u - b.f1) (t - b.f2)
def orL (l : List S35) (u t : Int) : Int := if (l.any fun b => decide (plc b u t = 1)) = true then 1 else 0
theorem orL_01 (l : List S35) (u t : Int) : 0 ≤ orL l u t ∧ orL l u t ≤ 1 := by
 unfold orL
 split <;> omega
theorem orL_snoc {l : List S35} {b : S35} (v : VP b) (u t : Int) : orL (l ++ [b]) u t = drawG (orL l) b.f0.f0 b.f0.f1 b.f0.f2 b.f1 b.f2 1 u t := by
 have h01 := v.pix01 (u - b.f1) (t - b.f2)
 have e : orL (l ++ [b]) u t = if plc b u t = 1 then 1 else orL l u t := by
  unfold orL
  rw [List.any_append]
  by_cases q : plc b u t = 1
  ·rw [if_pos q]
   simp [q]
  ·rw [if_neg q]
   simp [q]
 rw [e]
 have ho := orL_01 l u t
 by_cases c : 0 ≤ u - b.f1 ∧ u - b.f1 < b.f0.f0 ∧ 0 ≤ t - b.f2 ∧ t - b.f2 < b.f0.f1
 ·rw [show drawG (orL l) b.f0.f0 b.f0.f1 b.f0.f2 b.f1 b.f2 1 u t = mixv 1 (orL l u t) (plc b u t) from if_pos c]
  have h01 : 0 ≤ plc b u t ∧ plc b u t ≤ 1 := h01
  generalize plc b u t = x at *
  generalize orL l u t = y at *
  have hx : x = 0 ∨ x = 1 := by omega
  have hy : y = 0 ∨ y = 1 := by omega
  rcases hx with rfl | rfl <;> rcases hy with rfl | rfl <;> decide +kernel
 ·rw [show drawG (orL l) b.f0.f0 b.f0.f1 b.f0.f2 b.f1 b.f2 1 u t = orL l u t from if_neg c]
  have : plc b u t = 0 := pix_out c
  rw [if_neg (by omega)]
theorem rd48_mem {l : List S35} {i : Int} (h0 : 0 ≤ i) (h1 : i < (l.length : Int)) : rd_T35 l i ∈ l := by
 have : i.toNat < l.length := by omega
 simp only [rd_T35, List.getD, List.getElem?_eq_getElem this]
 exact List.getElem_mem _
theorem take48 {l : List S35} {i : Int} (h0 : 0 ≤ i) (h1 : i < (l.length : Int)) : l.take (i + 1).toNat = l.take i.toNat ++ [rd_T35 l i] := by
 have h : i.toNat < l.length := by omega
 rw [show (i + 1).toNat = i.toNat + 1 by omega, List.take_add_one]
 simp [rd_T35, List.getD, h]
def drQ (w h : Int) (l : List S35) : Int × Int × List Int × Int := if ¬ Sid w h ∨ ∃ b ∈ l, ¬ VP b then (0, 0, [], 30) else if ∃ b ∈ l, ¬ NP b then (0, 0, [], 2) else (w, h, tab w h (orL l), 0)
theorem draw_step {w h : Int} {l : List S35} {b : S35} (s : Sid w h) (v : VP b) : tab w h (drawG (pix w h (tab w h (orL l))) b.f0.f0 b.f0.f1 b.f0.f2 b.f1 b.f2 1) = tab w h (orL (l ++ [b])) := by
 refine tab_congr s.1 s.2.1 (fun u t a c d e => ?_)
 rw [orL_snoc v]
 have e2 : pix w h (tab w h (orL l)) u t = orL l u t := by rw [pix_tab, if_pos ⟨a, c, d, e⟩]
 unfold drawG
 rw [e2]
section
open Classical
def blk8 (w h : Int) (p : List Int) : Int → Prop := colS w h p 1
def R8 (w h : Int) (p : List Int) : Int → Int → Prop := Rch (adjD w h (DD true)) (blk8 w h p)
theorem R8_symm {w h : Int} {p : List Int} {i j : Int} (a : R8 w h p i j) : R8 w h p j i := Rch.symm adj_symm a
def rt (w h : Int) (p : List Int) (i : Int) : Prop := blk8 w h p i ∧ ∀ k : Int, 0 ≤ k → k < i → ¬ R8 w h p k i
noncomputable def rts (w h : Int) (p : List Int) : Nat → List Int
 | 0 => []
 | n + 1 => if rt w h p n then rts w h p n ++ [(n : Int)] else rts w h p n
theorem rts_s (w h : Int) (p : List Int) (n : Nat) : rts w h p (n + 1) = if rt w h p n then rts w h p n ++ [(n : Int)] else rts w h p n := rfl
theorem rts_mem {w h : Int} {p : List Int} (j : Int) : ∀ n : Nat, j ∈ rts w h p n ↔ 0 ≤ j ∧ j < n ∧ rt w h p j
 | 0 => by
  simp [rts]
  omega
 | n + 1 => by
  rw [rts_s]
  have ih := rts_mem (w := w) (h := h) (p := p) j n
  by_cases c : rt w h p n
  ·rw [if_pos c, List.mem_append, ih, List.mem_singleton]
   constructor
   ·rintro (⟨a, b, d⟩ | rfl)
    ·exact ⟨a, by omega, d⟩
    ·exact ⟨by omega, by omega, c⟩
   ·rintro ⟨a, b, d⟩
    by_cases e : j = n
    ·exact .inr e
    ·exact .inl ⟨a, by omega, d⟩
  ·rw [if_neg c, ih]
   constructor
   ·rintro ⟨a, b, d⟩
    exact ⟨a, by omega, d⟩
   ·rintro ⟨a, b, d⟩
    refine ⟨a, ?_, d⟩
    rcases (show j = n ∨ j < n by omega) with e | e
    ·subst e; exact absurd d c
    ·exact e
theorem rts_len (w h : Int) (p : List Int) : ∀ n : Nat, (rts w h p n).length ≤ n
 | 0 => Nat.le_refl _
 | n + 1 => by
  have := rts_len w h p n
  rw [rts_s]
  split
  ·rw [List.length_append]; simp; omega
  ·omega
theorem rt_of {w h : Int} {p : List Int} : ∀ (n : Nat) (k j : Int), k.toNat < n → R8 w h p k j → ∃ r, 0 ≤ r ∧ r ≤ k ∧ rt w h p r ∧ R8 w h p r j
 | 0, k, j, h0, r => by omega
 | n + 1, k, j, h0, r => by
  have k0 := r.left.1
  by_cases c : rt w h p k
  ·exact ⟨k, k0, Int.le_refl _, c, r⟩
  ·have : ∃ k' : Int, 0 ≤ k' ∧ k' < k ∧ R8 w h p k' k := by
    refine byContradiction fun q => c ⟨r.left, fun k' a b z => q ⟨k', a, b, z⟩⟩
   obtain ⟨k', a, b, z⟩ := this
   obtain ⟨r', e1, e2, e3, e4⟩ := rt_of n k' j (by omega) (z.trans r)
   exact ⟨r', e1, by omega, e3, e4⟩
theorem rt_eq {w h : Int} {p : List Int} {r s : Int} (a : rt w h p r) (b : rt w h p s) (c : R8 w h p r s) : r = s := by
 rcases Int.lt_trichotomy r s with q | q | q
 ·exact absurd c (b.2 r a.1.1 q)
 ·exact q
 ·exact absurd (R8_symm c) (a.2 s b.1.1 q)
theorem rts_mono {w h : Int} {p : List Int} {a : Nat} : ∀ b : Nat, (rts w h p a).length ≤ (rts w h p (a + b)).length
 | 0 => Nat.le_refl _
 | b + 1 => by
  have := rts_mono (w := w) (h := h) (p := p) (a := a) b
  rw [show a + (b + 1) = (a + b) + 1 from rfl, rts_s]
  split
  ·rw [List.length_append]; omega
  ·exact this
theorem rts_lt {w h : Int} {p : List Int} {r s : Int} (a : rt w h p r) (l : r < s) : (rts w h p r.toNat).length < (rts w h p s.toNat).length := by
 have r0 := a.1.1
 have e := rts_mono (w := w) (h := h) (p := p) (a := r.toNat + 1) (s.toNat - (r.toNat + 1))
 rw [show r.toNat + 1 + (s.toNat - (r.toNat + 1)) = s.toNat by omega, rts_s, if_pos (by rw [show ((r.toNat : Nat) : Int) = r by omega]; exact a), List.length_append] at e
 simp at e
 omega
theorem rts_inj {w h : Int} {p : List Int} {r s : Int} (a : rt w h p r) (b : rt w h p s) (e : (rts w h p r.toNat).length = (rts w h p s.toNat).length) : r = s := by
 rcases Int.lt_trichotomy r s with q | q | q
 ·have := rts_lt a q; omega
 ·exact q
 ·have := rts_lt b q; omega
structure TB (S : Int → Int → Prop) (l t r b : Int) : Prop where
 all : ∀ x y, S x y → l ≤ x ∧ x ≤ r ∧ t ≤ y ∧ y ≤ b
 le : ∃ y, S l y
 tp : ∃ x, S x t
 ri : ∃ y, S r y
 bo : ∃ x, S x b
theorem TB.uniq {S : Int → Int → Prop} {l t r b l' t' r' b' : Int} (f : TB S l t r b) (g : TB S l' t' r' b') : l = l' ∧ t = t' ∧ r = r' ∧ b = b' := by
 obtain ⟨y1, a1⟩ := f.le
 obtain ⟨x1, a2⟩ := f.tp
 obtain ⟨y2, a3⟩ := f.ri
 obtain ⟨x2, a4⟩ := f.bo
 obtain ⟨y3, b1⟩ := g.le
 obtain ⟨x3, b2⟩ := g.tp
 obtain ⟨y4, b3⟩ := g.ri
 obtain ⟨x4, b4⟩ := g.bo
 have c1 := g.all _ _ a1
 have c2 := g.all _ _ a2
 have c3 := g.all _ _ a3
 have c4 := g.all _ _ a4
 have d1 := f.all _ _ b1
 have d2 := f.all _ _ b2
 have d3 := f.all _ _ b3
 have d4 := f.all _ _ b4
 omega
noncomputable def ind (S : Int → Int → Prop) : Int → Int → Int := fun x y => if S x y then 1 else 0
theorem ind_01 (S : Int → Int → Prop) (x y : Int) : 0 ≤ ind S x y ∧ ind S x y ≤ 1 := by
 unfold ind
 split <;> omega
theorem ind_1 {S : Int → Int → Prop} {x y : Int} : ind S x y = 1 ↔ S x y := by
 unfold ind
 by_cases q : S x y
 ·rw [if_pos q]; exact ⟨fun _ => q, fun _ => rfl⟩
 ·rw [if_neg q]; exact ⟨fun z => by omega, fun z => absurd z q⟩
noncomputable def boxP (S : Int → Int → Prop) (l t r b : Int) : S35 := ⟨⟨r - l + 1, b - t + 1, tab (r - l + 1) (b - t + 1) (fun u v => ind S (l + u) (t + v))⟩, l, t⟩
def CmpOf (S : Int → Int → Prop) (c : S35) : Prop := ∃ l t r b, TB S l t r b ∧ c = boxP S l t r b
theorem CmpOf.uniq {S : Int → Int → Prop} {c d : S35} (f : CmpOf S c) (g : CmpOf S d) : c = d := by
 obtain ⟨l, t, r, b, f, rfl⟩ := f
 obtain ⟨l', t', r', b', g, rfl⟩ := g
 obtain ⟨rfl, rfl, rfl, rfl⟩ := f.uniq g
 rfl
def SP (w h : Int) (p : List Int) (i x y : Int) : Prop := (0 ≤ x ∧ x < w ∧ 0 ≤ y ∧ y < h) ∧ R8 w h p i (y * w + x)
noncomputable def mskL (w h : Int) (p : List Int) (i : Int) : List Int := tab w h (ind (SP w h p i))
noncomputable def cmpP (w h : Int) (p : List Int) (i : Int) : S35 := ⟨⟨(trimR w h (mskL w h p i)).1, (trimR w h (mskL w h p i)).2.1, (trimR w h (mskL w h p i)).2.2.1⟩, (trimR w h (mskL w h p i)).2.2.2.1, (trimR w h (mskL w h p i)).2.2.2.2.1⟩
theorem trf_tight {w h : Int} {q : List Int} : ∀ n : Nat, (∀ i : Int, 0 ≤ i → i < n → rd q i ≠ 1) ∨
  ((∃ i : Int, 0 ≤ i ∧ i < n ∧ rd q i = 1 ∧ i % w = (trf w h q n).1) ∧ (∃ i : Int, 0 ≤ i ∧ i < n ∧ rd q i = 1 ∧ i / w = (trf w h q n).2.1) ∧ (∃ i : Int, 0 ≤ i ∧ i < n ∧ rd q i = 1 ∧ i % w = (trf w h q n).2.2.1) ∧ (∃ i : Int, 0 ≤ i ∧ i < n ∧ rd q i = 1 ∧ i / w = (trf w h q n).2.2.2)) ∨ w * h < n ∨ w < 0
 | 0 => .inl (fun i a b => by omega)
 | n + 1 => by
  by_cases big : w * h < ((n + 1 : Nat) : Int)
  ·exact .inr (.inr (.inl big))
  by_cases neg : w < 0
  ·exact .inr (.inr (.inr neg))
  have ih := trf_tight (w := w) (h := h) (q := q) n
  have es : trf w h q (n + 1) = stp w q (n : Int) (trf w h q n) := rfl
  obtain ⟨hw', a, b, c, d, _⟩ := flat_of (w := w) (h := h) (i := (n : Int)) (by omega) (by omega) (by omega)
  by_cases e : rd q n = 1
  ·right; left
   rw [es]
   unfold stp
   rw [if_pos e]
   have me : ∀ f : Int → Int, ∃ i : Int, 0 ≤ i ∧ i < ((n + 1 : Nat) : Int) ∧ rd q i = 1 ∧ f i = f n := fun f => ⟨n, by omega, by omega, e, rfl⟩
   rcases ih with ih | ⟨i1, i2, i3, i4⟩ | ih | ih
   ·have e0 : trf w h q n = (w, h, -1, -1) := by
     rcases trf_box (w := w) (h := h) (p := q) (by omega) n (by omega) with z | ⟨z1, z2, z3, z4, z5, z6, z7⟩
     ·exact z.1
     ·have : ∀ m : Nat, m ≤ n → trf w h q m = (w, h, -1, -1) := by
       intro m
       induction m with
       | zero => intro _; rfl
       | succ m ihm =>
        intro hm
        show stp w q (m : Int) (trf w h q m) = _
        unfold stp
        rw [if_neg (ih m (by omega) (by omega)), ihm (by omega)]
      exact this n (Nat.le_refl _)
    rw [e0]
    unfold mnv mxv
    dsimp only
    refine ⟨?_, ?_, ?_, ?_⟩
    ·rw [if_pos (by omega)]; exact me (· % w)
    ·rw [if_pos (by omega)]; exact me (· / w)
    ·rw [if_pos (by omega)]; exact me (· % w)
    ·rw [if_pos (by omega)]; exact me (· / w)
   ·have up : ∀ (f : Int → Int) (v : Int), (∃ i : Int, 0 ≤ i ∧ i < n ∧ rd q i = 1 ∧ f i = v) → ∃ i : Int, 0 ≤ i ∧ i < ((n + 1 : Nat) : Int) ∧ rd q i = 1 ∧ f i = v := fun f v ⟨i, x1, x2, x3, x4⟩ => ⟨i, x1, by omega, x3, x4⟩
    unfold mnv mxv
    dsimp only
    refine ⟨?_, ?_, ?_, ?_⟩
    ·split
     ·exact me (· % w)
     ·exact up (· % w) _ i1
    ·split
     ·exact me (· / w)
     ·exact up (· / w) _ i2
    ·split
     ·exact me (· % w)
     ·exact up (· % w) _ i3
    ·split
     ·exact me (· / w)
     ·exact up (· / w) _ i4
   ·omega
   ·omega
  ·rw [es]
   unfold stp
   rw [if_neg e]
   rcases ih with ih | ⟨i1, i2, i3, i4⟩ | ih | ih
   ·left
    intro i a b
    by_cases z : i = n
    ·subst z; exact e
    ·exact ih i a (by omega)
   ·right; left
    have up : ∀ (f : Int → Int) (v : Int), (∃ i : Int, 0 ≤ i ∧ i < n ∧ rd q i = 1 ∧ f i = v) → ∃ i : Int, 0 ≤ i ∧ i < ((n + 1 : Nat) : Int) ∧ rd q i = 1 ∧ f i = v := fun f v ⟨i, x1, x2, x3, x4⟩ => ⟨i, x1, by omega, x3, x4⟩
    exact ⟨up (· % w) _ i1, up (· / w) _ i2, up (· % w) _ i3, up (· / w) _ i4⟩
   ·omega
   ·omega
theorem cmp_of {w h : Int} {p : List Int} (v : Val w h p) {i : Int} (hi : blk8 w h p i) : CmpOf (SP w h p i) (cmpP w h p i) := by
 obtain ⟨hw, hh, hw2, hh2, hm, _⟩ := id v
 have vm : Val w h (mskL w h p i) := val_tab v.sid (fun x y _ _ _ _ => ind_01 _ x y)
 have hS : ∀ x y, 0 ≤ x → x < w → 0 ≤ y → y < h → (rd (mskL w h p i) (y * w + x) = 1 ↔ SP w h p i x y) := fun x y a b c d => by
  unfold mskL
  rw [rd_tab_at _ _ _ _ _ a b c d]
  exact ind_1
 have hS2 : ∀ j : Int, 0 ≤ j → j < w * h → rd (mskL w h p i) j = 1 → SP w h p i (j % w) (j / w) := fun j a b c => by
  obtain ⟨_, e1, e2, e3, e4, e5⟩ := flat_of hw a b
  exact (hS _ _ e1 e2 e3 e4).mp (by rw [e5]; exact c)
 obtain ⟨_, m1, m2, m3, m4, m5⟩ := flat_of hw hi.1 hi.2.1
 have hme : rd (mskL w h p i) i = 1 := by
  have := (hS (i % w) (i / w) m1 m2 m3 m4).mpr ⟨⟨m1, m2, m3, m4⟩, by rw [m5]; exact .refl hi⟩
  rw [m5] at this
  exact this
 have h0 : 0 ≤ w * h := Int.mul_nonneg hw hh
 have hn : (((w * h).toNat : Nat) : Int) = w * h := by omega
 have hb := trb_box (p := mskL w h p i) hw hh
 have ht := trf_tight (w := w) (h := h) (q := mskL w h p i) (w * h).toNat
 rw [hn] at ht
 have tb : TB (SP w h p i) (trb w h (mskL w h p i)).1 (trb w h (mskL w h p i)).2.1 (trb w h (mskL w h p i)).2.2.1 (trb w h (mskL w h p i)).2.2.2 := by
  rcases ht with ht | ⟨⟨a, a0, a1, a2, a3⟩, ⟨b, b0, b1, b2, b3⟩, ⟨c, c0, c1, c2, c3⟩, ⟨d, d0, d1, d2, d3⟩⟩ | ht | ht
  ·exact absurd hme (ht i hi.1 hi.2.1)
  ·refine ⟨fun x y s => ?_, ⟨a / w, ?_⟩, ⟨b % w, ?_⟩, ⟨c / w, ?_⟩, ⟨d % w, ?_⟩⟩
   ·obtain ⟨⟨x0, x1, y0, y1⟩, _⟩ := id s
    have hf := flat_lt x0 x1 y0 y1
    rcases hb with hb | hb
    ·exact absurd ((hS x y x0 x1 y0 y1).mpr s) (hb.2 _ hf.2.1 (by omega))
    ·have := hb.2.2.2.2.2.2 (y * w + x) hf.2.1 (by omega) ((hS x y x0 x1 y0 y1).mpr s)
     rw [flat_mod x0 x1, flat_div x0 x1] at this
     exact this
   ·show SP w h p i (trf w h (mskL w h p i) (w * h).toNat).1 _
    rw [← a3]; exact hS2 a a0 a1 a2
   ·show SP w h p i _ (trf w h (mskL w h p i) (w * h).toNat).2.1
    rw [← b3]; exact hS2 b b0 b1 b2
   ·show SP w h p i (trf w h (mskL w h p i) (w * h).toNat).2.2.1 _
    rw [← c3]; exact hS2 c c0 c1 c2
   ·show SP w h p i _ (trf w h (mskL w h p i) (w * h).toNat).2.2.2
    rw [← d3]; exact hS2 d d0 d1 d2
  ·omega
  ·omega
 refine ⟨_, _, _, _, tb, ?_⟩
 obtain ⟨y1, s1⟩ := tb.ri
 obtain ⟨y2, s2⟩ := tb.le
 have q0 : ¬ (trb w h (mskL w h p i)).2.2.1 < 0 := by have := s1.1.1; omega
 unfold cmpP boxP trimR
 rw [if_pos vm]
 unfold trimT
 rw [if_neg q0]
 have : tab ((trb w h (mskL w h p i)).2.2.1 - (trb w h (mskL w h p i)).1 + 1) ((trb w h (mskL w h p i)).2.2.2 - (trb w h (mskL w h p i)).2.1 + 1) (partG w h (mskL w h p i) (trb w h (mskL w h p i)).1 (trb w h (mskL w h p i)).2.1) = tab ((trb w h (mskL w h p i)).2.2.1 - (trb w h (mskL w h p i)).1 + 1) ((trb w h (mskL w h p i)).2.2.2 - (trb w h (mskL w h p i)).2.1 + 1) (fun u v => ind (SP w h p i) ((trb w h (mskL w h p i)).1 + u) ((trb w h (mskL w h p i)).2.1 + v)) := by
  obtain ⟨x3, s3⟩ := tb.tp
  obtain ⟨x4, s4⟩ := tb.bo
  have z1 := tb.all _ _ s1
  have z3 := tb.all _ _ s3
  refine tab_congr (by omega) (by omega) (fun u t u0 u1 t0 t1 => ?_)
  have g1 := s1.1
  have g2 := s2.1
  have g3 := s3.1
  have g4 := s4.1
  unfold partG mskL
  rw [pix_tab, if_pos (by unfold mskL at *; omega)]
 rw [this]
end
theorem FI.all {w h : Int} {p : List Int} {c : Int} {M0 : Int → Prop} {s : Int} {U : Nat} {mk : List Bool} {out : List S74} {cor : Bool} (f : FI w h p (DD cor) c M0 s U mk out out.length) (hM : ∀ a b, M0 a → colS w h p c a → adjD w h (DD cor) a b → colS w h p c b → M0 b) (j : Int) : (∃ e ∈ out, ix w e = j) ↔ Rch (adjD w h (DD cor)) (colS w h p c) s j := by
 refine flood_all (M := M0) (Q := fun j => ∃ e ∈ out, ix w e = j) adj_symm hM f.beg ?_ ?_ j
 ·rintro j ⟨e, he, rfl⟩
  exact (f.own e he).2
 ·rintro a b ⟨e, he, rfl⟩ ab cb
  obtain ⟨n, n0, n1, en⟩ := mem_rd66 he
  have := f.dn n n0 n1 b (by rw [en]; exact ab) cb
  exact (f.mks b cb.1 cb.2.1).mp this
theorem fits_is (w h : Int) : bitmap_fits.f w h = some (decide (Sid w h)) := by
 unfold bitmap_fits.f
 by_cases h1 : 0 ≤ w ∧ 0 ≤ h ∧ w ≤ 200 ∧ h ≤ 200
 ·obtain ⟨a, b, c, d⟩ := h1
  have := sid_mul a b c d
  rw [if_pos (by omega), if_pos (by omega), if_pos c, if_pos d, w64 (by omega) (by omega)]
  simp [Sid, a, b, c, d]
 ·have h2 : ¬ Sid w h := fun s => h1 ⟨s.1, s.2.1, s.2.2.1, s.2.2.2.1⟩
  simp only [h2, decide_false]
  split
  ·split
   ·split
    ·split
     ·omega
     ·rfl
    ·rfl
   ·rfl
  ·rfl
theorem blank_is (w h : Int) : bitmap_blank.f w h = some (if Sid w h then (w, h, tab w h (fun _ _ => 0), 0) else (0, 0, [], 4)) := by
 unfold bitmap_blank.f
 rw [fits_is, Option.bind_some]
 by_cases s : Sid w h
 ·have hm := sid_mul s.1 s.2.1 s.2.2.1 s.2.2.2.1
  rw [if_pos (decide_eq_true s), if_pos s, w64 (by omega) (by omega), if_pos (by omega), if_pos (by omega), replicate_tab s.1 s.2.1]
 ·rw [if_neg (by simpa using s), if_neg s]
def newR (w h c : Int) : Int × Int × List Int × Int := if w < 0 ∨ h < 0 ∨ (c ≠ 0 ∧ c ≠ 1) then (0, 0, [], 2) else if Sid w h then (w, h, tab w h (fun _ _ => c), 0) else (0, 0, [], 4)
theorem New_j0 (w h c : Int) (b : Bool) (hb : b = true ↔ (w < 0 ∨ h < 0 ∨ (c ≠ 0 ∧ c ≠ 1))) : EvP (fun k => bitmap_New.j0 k w h c b) (· = newR w h c) := by
 refine EvP.step (fun k => by rw [bitmap_New.j0]) ?_
 refine EvP.ite (fun h1 => EvP.ret ?_) (fun h1 => ?_)
 ·unfold newR
  rw [if_pos (hb.mp h1)]
 ·have hn : ¬ (w < 0 ∨ h < 0 ∨ (c ≠ 0 ∧ c ≠ 1)) := fun q => h1 (hb.mpr q)
  unfold newR
  rw [if_neg hn]
  refine EvP.bindv (blank_is w h) ?_
  by_cases s : Sid w h
  ·simp only [if_pos s]
   have hm := sid_mul s.1 s.2.1 s.2.2.1 s.2.2.2.1
   have hlen : ((tab w h fun _ _ => (0 : Int)).length : Int) = w * h := by rw [tab_length]; omega
   refine EvP.fill (L := fun k i l => bitmap_New.l0 k c 0 ((tab w h fun _ _ => 0).length : Int) i w h l) (tab w h fun _ _ => 0) (fun _ => c) ?_ ?_
   ·intro i l h0 h2 hl hr hk
    refine EvP.step (fun k => by rw [bitmap_New.l0]) ?_
    refine EvP.pos h2 (EvP.pos h0 (EvP.pos (by omega) ?_))
    rw [w64 (by omega) (by omega), show c % 256 = c by omega]
    exact hk
   ·refine EvP.step (fun k => by rw [bitmap_New.l0]) ?_
    refine EvP.neg (by omega) (EvP.ret ?_)
    rw [lmap_tab (w := w) (h := h) (g := fun _ _ => c) s.1 s.2.1 (by omega) (fun _ _ _ _ _ _ => rfl)]
  ·simp only [if_neg s]
   refine EvP.step (fun k => by rw [bitmap_New.l0]) ?_
   exact EvP.neg (by simp) (EvP.ret rfl)
theorem New_is (w h c : Int) : EvP (fun k => bitmap_New.f k w h c) (· = newR w h c) := by
 unfold bitmap_New.f
 refine EvP.ite (fun h1 => New_j0 w h c true (by simp [h1])) (fun h1 => ?_)
 refine EvP.ite (fun h2 => New_j0 w h c true (by simp [h2])) (fun h2 => ?_)
 refine EvP.ite (fun h3 => New_j0 w h c _ (by simp; omega)) (fun h3 => New_j0 w h c _ (by simp; omega))
theorem new0 {w h : Int} (hw : 0 ≤ w) (hh : 0 ≤ h) : newR w h 0 = if Sid w h then (w, h, tab w h (fun _ _ => 0), 0) else (0, 0, [], 4) := by
 unfold newR
 rw [if_neg (by omega)]
theorem take66 {l : List S74} {i : Int} (h0 : 0 ≤ i) (h1 : i < (l.length : Int)) : l.take (i + 1).toNat = l.take i.toNat ++ [rd_T74 l i] := by
 have h : i.toNat < l.length := by omega
 rw [show (i + 1).toNat = i.toNat + 1 by omega, List.take_add_one]
 simp [rd_T74, List.getD, h]
section
open Classical
theorem placed_is {w h : Int} {out : List S74} {S : Int → Int → Prop} (sd : Sid w h) (hS : ∀ x y, S x y ↔ ∃ e ∈ out, e.f0 = x ∧ e.f1 = y) (hin : ∀ e ∈ out, inn w h e) (hne : 0 < (out.length : Int)) (hl : (out.length : Int) ≤ 1000000) :
  EvP (fun k => shape_placed.f k out) (fun r => CmpOf S (⟨⟨r.1, r.2.1, r.2.2.1⟩, r.2.2.2.1, r.2.2.2.2⟩ : S35)) := by
 obtain ⟨hw, hh, hw2, hh2, hm⟩ := id sd
 have h0 := rd66_mem (l := out) (n := 0) (by omega) hne
 have i0' := hin _ h0
 unfold shape_placed.f
 refine EvP.pos hne ?_
 refine EvP.up (L := fun k i (s : Int × Int × Int × Int) => shape_placed.l0 k out s.1 s.2.1 s.2.2.1 s.2.2.2 out (out.length : Int) i)
  (fun i s => 0 ≤ i ∧ (∀ e ∈ out.take i.toNat, s.1 ≤ e.f0 ∧ e.f0 ≤ s.2.2.1 ∧ s.2.1 ≤ e.f1 ∧ e.f1 ≤ s.2.2.2) ∧ (∃ e ∈ out, e.f0 = s.1) ∧ (∃ e ∈ out, e.f1 = s.2.1) ∧ (∃ e ∈ out, e.f0 = s.2.2.1) ∧ (∃ e ∈ out, e.f1 = s.2.2.2)) out.length ?_ 0
  ((rd_T74 out 0).f0, (rd_T74 out 0).f1, (rd_T74 out 0).f0, (rd_T74 out 0).f1) (by omega) ⟨by omega, fun e he => by simp at he, ⟨_, h0, rfl⟩, ⟨_, h0, rfl⟩, ⟨_, h0, rfl⟩, ⟨_, h0, rfl⟩⟩
 rintro i ⟨l, t, r, b⟩ ⟨i0, ha, h1, h2, h3, h4⟩ hi ih
 dsimp only at ha h1 h2 h3 h4
 refine EvP.step (fun k => by rw [shape_placed.l0]) ?_
 refine EvP.ite (fun i1 => ?_) (fun i1 => ?_)
 ·refine EvP.pos i0 (EvP.pos i1 ?_)
  have hm' := rd66_mem i0 i1
  rw [w64 (x := i + 1) (by omega) (by omega)]
  refine ih (mn l (rd_T74 out i).f0, mn t (rd_T74 out i).f1, mx r (rd_T74 out i).f0, mx b (rd_T74 out i).f1) i1 ⟨by omega, fun e he => ?_, ?_, ?_, ?_, ?_⟩
  ·dsimp only
   rw [take66 i0 i1] at he
   unfold mn mx
   rcases List.mem_append.mp he with he | he
   ·have := ha e he
    refine ⟨?_, ?_, ?_, ?_⟩ <;> split <;> omega
   ·rw [List.mem_singleton.mp he]
    refine ⟨?_, ?_, ?_, ?_⟩ <;> split <;> omega
  all_goals
   dsimp only
   first | unfold mn | unfold mx
   split
  ·exact ⟨_, hm', rfl⟩
  ·exact h1
  ·exact ⟨_, hm', rfl⟩
  ·exact h2
  ·exact ⟨_, hm', rfl⟩
  ·exact h3
  ·exact ⟨_, hm', rfl⟩
  ·exact h4
 ·rw [show i.toNat = out.length by omega, List.take_length] at ha
  have tb : TB S l t r b := by
   refine ⟨fun x y s => ?_, ?_, ?_, ?_, ?_⟩
   ·obtain ⟨e, he, rfl, rfl⟩ := (hS x y).mp s
    exact ha e he
   ·obtain ⟨e, he, q⟩ := h1
    exact ⟨e.f1, (hS _ _).mpr ⟨e, he, q, rfl⟩⟩
   ·obtain ⟨e, he, q⟩ := h2
    exact ⟨e.f0, (hS _ _).mpr ⟨e, he, rfl, q⟩⟩
   ·obtain ⟨e, he, q⟩ := h3
    exact ⟨e.f1, (hS _ _).mpr ⟨e, he, q, rfl⟩⟩
   ·obtain ⟨e, he, q⟩ := h4
    exact ⟨e.f0, (hS _ _).mpr ⟨e, he, rfl, q⟩⟩
  have g0 := ha _ h0
  obtain ⟨e1, he1, q1⟩ := h1
  obtain ⟨e2, he2, q2⟩ := h2
  obtain ⟨e3, he3, q3⟩ := h3
  obtain ⟨e4, he4, q4⟩ := h4
  have n1 := hin _ he1
  have n2 := hin _ he2
  have n3 := hin _ he3
  have n4 := hin _ he4
  unfold inn at n1 n2 n3 n4
  obtain ⟨W, eW⟩ : ∃ W, W = r - l + 1 := ⟨_, rfl⟩
  obtain ⟨H, eH⟩ : ∃ H, H = b - t + 1 := ⟨_, rfl⟩
  have hm1 : W * H ≤ w * h := by
   have a1 := Int.mul_le_mul_of_nonneg_right (show W ≤ w by omega) (show 0 ≤ H by omega)
   have a2 := Int.mul_le_mul_of_nonneg_left (show H ≤ h by omega) hw
   omega
  have s2 : Sid W H := ⟨by omega, by omega, by omega, by omega, by omega⟩
  rw [w64 (x := r - l) (by omega) (by omega), w64 (x := r - l + 1) (by omega) (by omega), w64 (x := b - t) (by omega) (by omega), w64 (x := b - t + 1) (by omega) (by omega), ← eW, ← eH]
  refine EvP.bind (New_is W H 0) ?_
  rintro _ rfl
  rw [new0 s2.1 s2.2.1, if_pos s2]
  refine EvP.up (L := fun k i (q : List Int) => shape_placed.l1 k l t out (out.length : Int) i W H q) (fun i q => 0 ≤ i ∧ q = tab W H (fun u v => if ∃ e ∈ out.take i.toNat, e.f0 = l + u ∧ e.f1 = t + v then 1 else 0)) out.length ?_ 0 (tab W H (fun _ _ => 0)) (by omega) ⟨by omega, tab_congr s2.1 s2.2.1 (fun u v _ _ _ _ => by rw [if_neg]; simp)⟩
  rintro j q ⟨j0, rfl⟩ hj ih2
  refine EvP.step (fun k => by rw [shape_placed.l1]) ?_
  refine EvP.ite (fun j1 => ?_) (fun j1 => EvP.ret ?_)
  ·have hm2 := rd66_mem j0 j1
   have g := ha _ hm2
   have nn := hin _ hm2
   unfold inn at nn
   have htk := take66 j0 j1
   generalize rd_T74 out j = e at *
   have hf := flat_lt (w := W) (h := H) (x := e.f0 - l) (y := e.f1 - t) (by omega) (by omega) (by omega) (by omega)
   have hWm := s2.2.2.2.2
   have ei : wrap64 ((wrap64 ((wrap64 ((wrap64 (e.f1 - t)) * W)) + e.f0)) - l) = (e.f1 - t) * W + (e.f0 - l) := by
    rw [w64 (x := e.f1 - t) (by omega) (by omega), w64 (x := (e.f1 - t) * W) (by omega) (by omega), w64 (x := (e.f1 - t) * W + e.f0) (by omega) (by omega), w64 (by omega) (by omega)]
    omega
   have h00 := Int.mul_nonneg s2.1 s2.2.1
   refine EvP.pos j0 (EvP.pos j1 ?_)
   rw [ei, w64 (x := j + 1) (by omega) (by omega), set_tab s2.1 s2.2.1 (by omega) (by omega) (by omega) (by omega)]
   refine EvP.pos hf.2.1 (EvP.pos (by rw [tab_length]; omega) (ih2 _ j1 ⟨by omega, tab_congr s2.1 s2.2.1 (fun u v _ _ _ _ => ?_)⟩))
   rw [htk]
   unfold upd
   by_cases z : u = e.f0 - l ∧ v = e.f1 - t
   ·rw [if_pos z, if_pos ⟨e, by simp, by omega, by omega⟩]
   ·rw [if_neg z]
    dsimp only
    by_cases y : ∃ e' ∈ out.take j.toNat, e'.f0 = l + u ∧ e'.f1 = t + v
    ·obtain ⟨e', q1, q2⟩ := y
     rw [if_pos ⟨e', q1, q2⟩, if_pos ⟨e', List.mem_append.mpr (.inl q1), q2⟩]
    ·rw [if_neg y, if_neg]
     rintro ⟨e', q1, q2, q3⟩
     rcases List.mem_append.mp q1 with q1 | q1
     ·exact y ⟨e', q1, q2, q3⟩
     ·rw [List.mem_singleton.mp q1] at q2 q3
      exact z ⟨by omega, by omega⟩
  ·rw [show j.toNat = out.length by omega, List.take_length]
   refine ⟨l, t, r, b, tb, ?_⟩
   unfold boxP
   rw [← eW, ← eH]
   dsimp only
   congr 2
   refine tab_congr s2.1 s2.2.1 (fun u v _ _ _ _ => ?_)
   unfold ind
   by_cases q : S (l + u) (t + v)
   ·rw [if_pos q, if_pos ((hS _ _).mp q)]
   ·rw [if_neg q, if_neg (fun z => q ((hS _ _).mpr z))]
end
def eightL : List S74 := [⟨-1, 0⟩, ⟨1, 0⟩, ⟨0, -1⟩, ⟨0, 1⟩, ⟨-1, -1⟩, ⟨1, -1⟩, ⟨-1, 1⟩, ⟨1, 1⟩]
theorem eight_stps : Stps eightL (DD true) := by
 refine ⟨by decide, fun b b0 b1 => ?_, fun dx dy d => ?_⟩
 ·have b1 : b < 8 := b1
  rcases (show b = 0 ∨ b = 1 ∨ b = 2 ∨ b = 3 ∨ b = 4 ∨ b = 5 ∨ b = 6 ∨ b = 7 by omega) with rfl | rfl | rfl | rfl | rfl | rfl | rfl | rfl
  ·exact ⟨by decide, by decide, by decide, by decide, by show DD true (-1) 0; unfold DD; simp⟩
  ·exact ⟨by decide, by decide, by decide, by decide, by show DD true 1 0; unfold DD; simp⟩
  ·exact ⟨by decide, by decide, by decide, by decide, by show DD true 0 (-1); unfold DD; simp⟩
  ·exact ⟨by decide, by decide, by decide, by decide, by show DD true 0 1; unfold DD; simp⟩
  ·exact ⟨by decide, by decide, by decide, by decide, by show DD true (-1) (-1); unfold DD; simp⟩
  ·exact ⟨by decide, by decide, by decide, by decide, by show DD true 1 (-1); unfold DD; simp⟩
  ·exact ⟨by decide, by decide, by decide, by decide, by show DD true (-1) 1; unfold DD; simp⟩
  ·exact ⟨by decide, by decide, by decide, by decide, by show DD true 1 1; unfold DD; simp⟩
 ·obtain ⟨a, b, c, d, e, f⟩ := d
  rcases (show (dx = -1 ∧ dy = 0) ∨ (dx = 1 ∧ dy = 0) ∨ (dx = 0 ∧ dy = -1) ∨ (dx = 0 ∧ dy = 1) ∨ (dx = -1 ∧ dy = -1) ∨ (dx = 1 ∧ dy = -1) ∨ (dx = -1 ∧ dy = 1) ∨ (dx = 1 ∧ dy = 1) by omega) with ⟨rfl, rfl⟩ | ⟨rfl, rfl⟩ | ⟨rfl, rfl⟩ | ⟨rfl, rfl⟩ | ⟨rfl, rfl⟩ | ⟨rfl, rfl⟩ | ⟨rfl, rfl⟩ | ⟨rfl, rfl⟩
  ·exact ⟨0, by omega, by decide, rfl⟩
  ·exact ⟨1, by omega, by decide, rfl⟩
  ·exact ⟨2, by omega, by decide, rfl⟩
  ·exact ⟨3, by omega, by decide, rfl⟩
  ·exact ⟨4, by omega, by decide, rfl⟩
  ·exact ⟨5, by omega, by decide, rfl⟩
  ·exact ⟨6, by omega, by decide, rfl⟩
  ·exact ⟨7, by omega, by decide, rfl⟩
theorem Valid_l0 (p : List Int) (hl : (p.length : Int) ≤ 9223372036854775807) : EvP (fun k => bitmap_Valid.l0 k p (p.length : Int) 0) (· = decide (∀ x ∈ p, x ≤ 1)) := by
 refine EvP.up (L := fun k i (_ : Unit) => bitmap_Valid.l0 k p (p.length : Int) i) (fun i _ => 0 ≤ i ∧ ∀ j, 0 ≤ j → j < i → rd p j ≤ 1) p.length ?_ 0 () (by omega) ⟨by omega, fun j _ _ => by omega⟩
 intro i _ ⟨h0, hb⟩ hi ih
 refine EvP.step (fun k => by rw [bitmap_Valid.l0]) ?_
 refine EvP.ite (fun h1 => ?_) (fun h1 => ?_)
 ·refine EvP.pos h0 (EvP.pos h1 (EvP.ite (fun h2 => EvP.ret ?_) (fun h2 => ?_)))
  ·symm
   rw [decide_eq_false_iff_not]
   intro hall
   have := hall _ (rd_mem h0 h1)
   omega
  ·rw [w64 (by omega) (by omega)]
   refine ih () h1 ⟨by omega, fun j hj hj' => ?_⟩
   rcases Int.lt_or_le j i with hji | hji
   ·exact hb j hj hji
   ·have : j = i := by omega
    subst this
    omega
 ·refine EvP.ret ?_
  symm
  rw [decide_eq_true_iff]
  intro x hx
  obtain ⟨n, hn, rfl⟩ := List.getElem_of_mem hx
  have := hb (n : Int) (by omega) (by omega)
  rwa [rd_get p n hn] at this
theorem Valid_is (w h : Int) (p : List Int) (hp : ∀ x ∈ p, 0 ≤ x) (hl : (p.length : Int) ≤ 9223372036854775807) : EvP (fun k => bitmap_Valid.f k w h p) (· = decide (Val w h p)) := by
 unfold bitmap_Valid.f
 refine EvP.bindv (fits_is w h) ?_
 refine EvP.ite (fun h1 => ?_) (fun h1 => ?_)
 ·rw [decide_eq_true_iff] at h1
  have hm := sid_mul h1.1 h1.2.1 h1.2.2.1 h1.2.2.2.1
  rw [w64 (by omega) (by omega)]
  refine EvP.step (fun k => by rw [bitmap_Valid.j0]) ?_
  refine EvP.ite (fun h2 => EvP.ret ?_) (fun h2 => ?_)
  ·symm
   rw [decide_eq_false_iff_not]
   intro v
   simp [v.2.2.2.2.2.1] at h2
  ·refine (Valid_l0 p hl).mono ?_
   rintro r rfl
   have e : (p.length : Int) = w * h := by simpa using h2
   apply decide_eq_decide.mpr
   constructor
   ·intro hall
    exact ⟨h1.1, h1.2.1, h1.2.2.1, h1.2.2.2.1, h1.2.2.2.2, e, fun x hx => ⟨hp x hx, hall x hx⟩⟩
   ·intro v x hx
    exact (v.2.2.2.2.2.2 x hx).2
 ·refine EvP.step (fun k => by rw [bitmap_Valid.j0]) ?_
  refine EvP.pos rfl (EvP.ret ?_)
  symm
  rw [decide_eq_false_iff_not]
  intro v
  exact h1 (decide_eq_true v.sid)
noncomputable def cmpS (w h : Int) (p : List Int) : List S35 := (rts w h p (w * h).toNat).map (cmpP w h p)
theorem components_is {w h : Int} {p : List Int} (v : Val w h p) : EvP (fun k => shape_components.f k w h p) (· = cmpS w h p) := by
 obtain ⟨hw, hh, hw2, hh2, hm, hp, _⟩ := id v
 have e0 : ((p.length : Int) : Int).toNat = p.length := by omega
 unfold shape_components.f
 refine EvP.pos (by omega) (EvP.pos (by omega) ?_)
 rw [e0]
 refine EvP.up (L := fun k i (s : List S35 × List Bool) => shape_components.l0 k s.1 s.2 p (p.length : Int) i w h p) (fun i s => 0 ≤ i ∧ s.2.length = p.length ∧ (∀ j, 0 ≤ j → j < w * h → (mkd s.2 j ↔ ∃ k, 0 ≤ k ∧ k < i ∧ R8 w h p k j)) ∧ s.1 = (rts w h p i.toNat).map (cmpP w h p)) p.length ?_ 0 ([], List.replicate p.length false) (by omega) ⟨by omega, List.length_replicate, fun j j0 j1 => ?_, rfl⟩
 ·rintro i ⟨cs, mk⟩ ⟨i0, hlm, hmk, hc⟩ hi ih
  dsimp only at hlm hmk hc
  have ei : ((i.toNat : Nat) : Int) = i := by omega
  have en : (i + 1).toNat = i.toNat + 1 := by omega
  have cb := rts_len w h p i.toNat
  refine EvP.step (fun k => by rw [shape_components.l0]) ?_
  refine EvP.ite (fun i1 => ?_) (fun i1 => EvP.ret ?_)
  ·have iw : i < w * h := by omega
   have old : (blk8 w h p i → ∃ k : Int, 0 ≤ k ∧ k < i ∧ R8 w h p k i) → EvP (fun k => shape_components.j1 k cs mk i p (p.length : Int) i false w h p) (· = cmpS w h p) := fun z => by
    refine EvP.step (fun k => by rw [shape_components.j1]) (EvP.neg (by simp) ?_)
    rw [w64 (x := i + 1) (by omega) (by omega)]
    refine ih (cs, mk) i1 ⟨by omega, hlm, fun j j0 j1 => ?_, ?_⟩
    ·dsimp only
     rw [hmk j j0 j1]
     constructor
     ·rintro ⟨k, a, b, r⟩
      exact ⟨k, a, by omega, r⟩
     ·rintro ⟨k, a, b, r⟩
      by_cases q : k = i
      ·subst q
       obtain ⟨k', a', b', r'⟩ := z r.left
       exact ⟨k', a', b', r'.trans r⟩
      ·exact ⟨k, a, by omega, r⟩
    ·dsimp only
     rw [hc, en, rts_s, if_neg]
     rw [ei]
     intro q
     obtain ⟨k, a, b, r⟩ := z q.1
     exact q.2 k a b r
   refine EvP.pos i0 (EvP.pos i1 ?_)
   refine EvP.ite (fun c => EvP.pos (by show i < (mk.length : Int); omega) ?_) (fun c => old (fun q => absurd q.2.2 c))
   have wi : blk8 w h p i := ⟨i0, iw, c⟩
   by_cases mi : mkd mk i
   ·have e : rdOf false mk i = true := mi
    rw [e]
    exact old (fun _ => (hmk i i0 iw).mp mi)
   have e : rdOf false mk i = false := by
    unfold mkd at mi
    simpa using mi
   rw [e]
   obtain ⟨w0, m0, m1, q0, q1, qe⟩ := flat_of hw i0 iw
   refine EvP.step (fun k => by rw [shape_components.j1]) ?_
   refine EvP.pos (by simp) (EvP.neg (by omega) ?_)
   refine EvP.bindv (show shape_eight.f = some eightL from rfl) ?_
   rw [tmod_pos i0, tdiv_pos i0, w64 (x := i / w) (by omega) (by omega)]
   refine EvP.bind (flood_is hw hh (by omega) (by omega) hp (by omega) eight_stps mk hlm (i % w) (i / w) ⟨m0, m1, q0, q1⟩ (by rw [qe]; exact mi)) ?_
   rintro ⟨out, mk'⟩ f
   have f : FI w h p (DD true) (rd p (i / w * w + i % w)) (mkd mk) (i / w * w + i % w) (unm mk) mk' out out.length := f
   rw [qe, c] at f
   have cl : ∀ a b, mkd mk a → colS w h p 1 a → adjD w h (DD true) a b → colS w h p 1 b → mkd mk b := fun a b ma ca ab cb' => by
    obtain ⟨k, k0, k1, r⟩ := (hmk a ca.1 ca.2.1).mp ma
    exact (hmk b cb'.1 cb'.2.1).mpr ⟨k, k0, k1, .step r ab cb'⟩
   have al := f.all cl
   have lo : (out.length : Int) ≤ 1000000 := by
    have := f.cnt
    have : unm mk ≤ mk.length := List.count_le_length
    omega
   have hne : 0 < (out.length : Int) := by
    obtain ⟨e, he, _⟩ := f.beg
    have := List.length_pos_of_mem he
    omega
   refine EvP.bind (placed_is (S := SP w h p i) v.sid (fun x y => ?_) (fun e he => (f.own e he).1) hne lo) ?_
   ·constructor
    ·rintro ⟨⟨x0, x1, y0, y1⟩, r⟩
     obtain ⟨e, he, q⟩ := (al _).mpr r
     have ein := (f.own e he).1
     obtain ⟨z1, z2⟩ := flat_inj ein.1 ein.2.1 x0 x1 q
     exact ⟨e, he, z2, z1⟩
    ·rintro ⟨e, he, rfl, rfl⟩
     exact ⟨(f.own e he).1, (al _).mp ⟨e, he, rfl⟩⟩
   intro r hr
   have hr := hr.uniq (cmp_of v wi)
   have lc : cs.length ≤ i.toNat := by rw [hc, List.length_map]; exact cb
   refine EvP.pos (by show cs.length < _; omega) ?_
   rw [w64 (x := i + 1) (by omega) (by omega), hr]
   have isrt : rt w h p i := ⟨wi, fun k k0 k1 z => mi ((hmk i i0 iw).mpr ⟨k, k0, k1, z⟩)⟩
   refine ih (cs ++ [cmpP w h p i], mk') i1 ⟨by omega, f.len, fun j j0 j1 => ?_, ?_⟩
   ·dsimp only
    rw [f.mks j j0 j1, hmk j j0 j1, al j]
    constructor
    ·rintro (⟨k, a, b, z⟩ | z)
     ·exact ⟨k, a, by omega, z⟩
     ·exact ⟨i, i0, by omega, z⟩
    ·rintro ⟨k, a, b, z⟩
     by_cases q : k = i
     ·subst q; exact .inr z
     ·exact .inl ⟨k, a, by omega, z⟩
   ·dsimp only
    rw [en, rts_s, ei, if_pos isrt, List.map_append, hc]
    rfl
  ·unfold cmpS
   rw [hc, show i.toNat = (w * h).toNat by omega]
 ·dsimp only
  constructor
  ·intro z
   unfold mkd rdOf at z
   have : j.toNat < p.length := by omega
   simp [List.getD, this] at z
  ·rintro ⟨k, a, b, _⟩
   omega
noncomputable def cmpR (w h : Int) (p : List Int) : List S35 × Int := if Val w h p then (cmpS w h p, 0) else ([], 30)
theorem Components_is (w h : Int) (p : List Int) (hp : ∀ x ∈ p, 0 ≤ x) (hl : (p.length : Int) ≤ 9223372036854775807) : EvP (fun k => shape_Components.f k w h p) (· = cmpR w h p) := by
 unfold shape_Components.f cmpR
 refine EvP.bind (Valid_is w h p hp hl) ?_
 rintro _ rfl
 refine EvP.ite (fun q => ?_) (fun q => EvP.ret (by rw [if_neg (by simpa using q)]))
 have v : Val w h p := by simpa using q
 rw [if_pos v]
 refine EvP.bind (components_is v) ?_
 rintro _ rfl
 exact EvP.ret rfl
def sm : Nat → (Int → Int) → Int
 | 0, _ => 0
 | n + 1, f => sm n f + f (n : Int)
theorem sm_s (n : Nat) (f : Int → Int) : sm (n + 1) f = sm n f + f (n : Int) := rfl
theorem sm_congr {f g : Int → Int} : ∀ {n : Nat}, (∀ i : Int, 0 ≤ i → i < n → f i = g i) → sm n f = sm n g
 | 0, _ => rfl
 | n + 1, h => by
  unfold sm
  rw [sm_congr (fun i h0 h1 => h i h0 (by omega)), h n (by omega) (by omega)]
theorem sm_bound {f : Int → Int} {c : Int} (hc : 0 ≤ c) : ∀ {n : Nat}, (∀ i : Int, 0 ≤ i → i < n → 0 ≤ f i ∧ f i ≤ c) → 0 ≤ sm n f ∧ sm n f ≤ n * c
 | 0, _ => by simp [sm]
 | n + 1, h => by
  have h1 := sm_bound hc (fun i h0 h1 => h i h0 (by omega)) (n := n)
  have h2 := h n (by omega) (by omega)
  unfold sm
  have e : ((n + 1 : Nat) : Int) * c = n * c + c := by rw [Int.natCast_add, Int.add_mul]; simp
  omega
theorem sm_add (f : Int → Int) (a : Nat) : ∀ b : Nat, sm (a + b) f = sm a f + sm b (fun i => f (a + i))
 | 0 => by simp [sm]
 | b + 1 => by
  rw [show a + (b + 1) = (a + b) + 1 from rfl, sm_s, sm_s, sm_add f a b]
  have e : ((a + b : Nat) : Int) = (a : Int) + (b : Int) := by omega
  rw [e]
  show sm a f + sm b (fun i => f (a + i)) + f (a + b) = sm a f + (sm b (fun i => f (a + i)) + f (a + b))
  omega
theorem sm_front (f : Int → Int) : ∀ n : Nat, sm (n + 1) f = f 0 + sm n (fun i => f (i + 1))
 | 0 => by simp [sm]
 | n + 1 => by
  rw [show sm (n + 1 + 1) f = sm (n + 1) f + f ((n + 1 : Nat) : Int) from rfl, sm_front f n]
  rw [show sm (n + 1) (fun i => f (i + 1)) = sm n (fun i => f (i + 1)) + f ((n : Int) + 1) from rfl]
  have e : ((n + 1 : Nat) : Int) = (n : Int) + 1 := by omega
  rw [e]
  omega
def tot (w h : Int) (g : Int → Int → Int) : Int := sm h.toNat (fun y => sm w.toNat (fun x => g x y))
theorem sm_flat (g : Int → Int → Int) (W : Nat) : ∀ H : Nat, sm (W * H) (fun i => g (i % (W : Int)) (i / (W : Int))) = sm H (fun y => sm W (fun x => g x y))
 | 0 => rfl
 | H + 1 => by
  rw [Nat.mul_succ, sm_add, sm_flat g W H]
  rw [show sm (H + 1) (fun y => sm W (fun x => g x y)) = sm H (fun y => sm W (fun x => g x y)) + sm W (fun x => g x (H : Int)) from rfl]
  congr 1
  refine sm_congr (fun i h0 h1 => ?_)
  have e : ((W * H : Nat) : Int) + i = (H : Int) * (W : Int) + i := by rw [Int.natCast_mul, Int.mul_comm]
  rw [e, flat_mod h0 h1, flat_div h0 h1]
theorem sm_tab {w h : Int} (hw : 0 ≤ w) (hh : 0 ≤ h) (g : Int → Int → Int) : sm (tab w h g).length (fun i => rd (tab w h g) i) = tot w h g := by
 have h0 : 0 ≤ w * h := Int.mul_nonneg hw hh
 rw [tab_length]
 have e : (w * h).toNat = w.toNat * h.toNat := by
  have e1 : ((w.toNat * h.toNat : Nat) : Int) = w * h := by rw [Int.natCast_mul, Int.toNat_of_nonneg hw, Int.toNat_of_nonneg hh]
  omega
 have ew : ((w.toNat : Nat) : Int) = w := Int.toNat_of_nonneg hw
 unfold tot
 rw [← sm_flat g w.toNat h.toNat, e, ew]
 refine sm_congr (fun i a b => ?_)
 rw [rd_tab w h g i a (by omega)]
def blk (p : List Int) : Int := sm p.length (fun i => rd p i)
theorem sm_out {f : Int → Int} : ∀ {n : Nat}, (∀ i : Int, 0 ≤ i → i < n → f i = 0) → sm n f = 0
 | 0, _ => rfl
 | n + 1, h => by
  rw [sm_s, sm_out (fun i a b => h i a (by omega)), h n (by omega) (by omega)]
  rfl
theorem sm_mid {f : Int → Int} (l W r : Nat) (hf : ∀ i : Int, i < l ∨ (l : Int) + W ≤ i → f i = 0) : sm (l + (W + r)) f = sm W (fun u => f ((l : Int) + u)) := by
 rw [sm_add, sm_out (n := l) (fun i a b => hf i (.inl b)), sm_add, sm_out (n := r) (fun i a b => hf _ (.inr (by omega)))]
 omega
theorem tot_mid {w h l t W H : Int} {g : Int → Int → Int} (l0 : 0 ≤ l) (t0 : 0 ≤ t) (W0 : 0 ≤ W) (H0 : 0 ≤ H) (hw : l + W ≤ w) (hh : t + H ≤ h) (hg : ∀ x y, ¬ (l ≤ x ∧ x < l + W ∧ t ≤ y ∧ y < t + H) → g x y = 0) : tot w h g = tot W H (fun u v => g (l + u) (t + v)) := by
 unfold tot
 rw [show h.toNat = t.toNat + (H.toNat + (h - t - H).toNat) by omega, sm_mid _ _ _ (fun i hi => sm_out (fun j _ _ => hg j i (by omega)))]
 refine sm_congr (fun v _ _ => ?_)
 rw [show ((t.toNat : Nat) : Int) = t by omega, show w.toNat = l.toNat + (W.toNat + (w - l - W).toNat) by omega, sm_mid _ _ _ (fun i hi => hg i _ (by omega)), show ((l.toNat : Nat) : Int) = l by omega]
section
open Classical
theorem SP_in {w h : Int} {p : List Int} {i x y : Int} (s : SP w h p i x y) : 0 ≤ x ∧ x < w ∧ 0 ≤ y ∧ y < h := s.1
theorem cmp_facts {w h : Int} {p : List Int} (v : Val w h p) {i : Int} (hi : blk8 w h p i) :
  ∃ l t W H, cmpP w h p i = ⟨⟨W, H, tab W H (fun u v => ind (SP w h p i) (l + u) (t + v))⟩, l, t⟩ ∧ 0 ≤ l ∧ 0 ≤ t ∧ 1 ≤ W ∧ 1 ≤ H ∧ l + W ≤ w ∧ t + H ≤ h ∧ Sid W H ∧ TB (SP w h p i) l t (l + W - 1) (t + H - 1) := by
 obtain ⟨hw, hh, hw2, hh2, hm, _⟩ := id v
 obtain ⟨l, t, r, b, tb, e⟩ := cmp_of v hi
 obtain ⟨_, s1⟩ := tb.le
 obtain ⟨_, s2⟩ := tb.tp
 obtain ⟨_, s3⟩ := tb.ri
 obtain ⟨_, s4⟩ := tb.bo
 have a1 := SP_in s1
 have a2 := SP_in s2
 have a3 := SP_in s3
 have a4 := SP_in s4
 have b1 := tb.all _ _ s1
 have b2 := tb.all _ _ s2
 obtain ⟨W, eW⟩ : ∃ W, W = r - l + 1 := ⟨_, rfl⟩
 obtain ⟨H, eH⟩ : ∃ H, H = b - t + 1 := ⟨_, rfl⟩
 have hm1 : W * H ≤ w * h := by
  have c1 := Int.mul_le_mul_of_nonneg_right (show W ≤ w by omega) (show 0 ≤ H by omega)
  have c2 := Int.mul_le_mul_of_nonneg_left (show H ≤ h by omega) hw
  omega
 refine ⟨l, t, W, H, ?_, by omega, by omega, by omega, by omega, by omega, by omega, ⟨by omega, by omega, by omega, by omega, by omega⟩, ?_⟩
 ·rw [e, eW, eH]
  rfl
 ·rw [show l + W - 1 = r by omega, show t + H - 1 = b by omega]
  exact tb
theorem plc_cmp {w h : Int} {p : List Int} (v : Val w h p) {i : Int} (hi : blk8 w h p i) (x y : Int) : plc (cmpP w h p i) x y = ind (SP w h p i) x y := by
 obtain ⟨l, t, W, H, e, _, _, _, _, _, _, _, tb⟩ := cmp_facts v hi
 rw [e]
 unfold plc
 dsimp only
 rw [pix_tab]
 by_cases q : 0 ≤ x - l ∧ x - l < W ∧ 0 ≤ y - t ∧ y - t < H
 ·rw [if_pos q, show l + (x - l) = x by omega, show t + (y - t) = y by omega]
 ·rw [if_neg q]
  have a := ind_01 (SP w h p i) x y
  have b : ¬ ind (SP w h p i) x y = 1 := fun z => by
   have := tb.all _ _ (ind_1.mp z)
   omega
  omega
theorem cmp_ok {w h : Int} {p : List Int} (v : Val w h p) {i : Int} (hi : blk8 w h p i) : VP (cmpP w h p i) ∧ NP (cmpP w h p i) := by
 obtain ⟨hw, hh, hw2, hh2, hm, _⟩ := id v
 obtain ⟨l, t, W, H, e, l0, t0, _, _, l1, t1, sd, tb⟩ := cmp_facts v hi
 rw [e]
 exact ⟨show Val W H (tab W H (fun u v => ind (SP w h p i) (l + u) (t + v))) from val_tab sd (fun x y _ _ _ _ => ind_01 _ _ _), by unfold NP Shf; dsimp only; omega⟩
theorem cmp_blk {w h : Int} {p : List Int} (v : Val w h p) {i : Int} (hi : blk8 w h p i) : blk (cmpP w h p i).f0.f2 = tot w h (ind (SP w h p i)) := by
 obtain ⟨l, t, W, H, e, l0, t0, _, _, l1, t1, sd, tb⟩ := cmp_facts v hi
 rw [e]
 refine (sm_tab sd.1 sd.2.1 _).trans (tot_mid l0 t0 sd.1 sd.2.1 l1 t1 (fun x y q => ?_)).symm
 have a := ind_01 (SP w h p i) x y
 have b : ¬ ind (SP w h p i) x y = 1 := fun z => by
  have := tb.all _ _ (ind_1.mp z)
  omega
 omega
end
theorem FR.all {w h : Int} {p : List Int} {c : Int} {m0 : List Int} {a s : Int} {U : Nat} {m out : List Int} {cor : Bool} (f : FR w h p (DD cor) c m0 a s U m out out.length) (hM : ∀ x y, rd m0 x ≠ 0 → colS w h p c x → adjD w h (DD cor) x y → colS w h p c y → rd m0 y ≠ 0) (j : Int) : j ∈ out ↔ Rch (adjD w h (DD cor)) (colS w h p c) s j := by
 refine flood_all (M := fun j => rd m0 j ≠ 0) (Q := fun j => j ∈ out) adj_symm hM f.beg ?_ ?_ j
 ·intro j hj
  exact ⟨(f.own j hj).2.1, fun z => z (f.own j hj).2.2⟩
 ·intro x y hx xy cy
  obtain ⟨n, hn, he⟩ := List.getElem_of_mem hx
  have e : rd out (n : Int) = x := by rw [rd_get out n hn]; exact he
  have := f.dn (n : Int) (by omega) (by omega) y (by rw [e]; exact xy) cy
  by_cases z : y ∈ out
  ·exact .inr z
  ·rw [(f.mks y cy.1 cy.2.1).2 z] at this
   exact .inl this
theorem inside_is (w h : Int) (p : List Int) (x y : Int) : incunableref05_inside.f w h p x y = some (decide (0 ≤ x ∧ x < w ∧ 0 ≤ y ∧ y < h)) := by
 unfold incunableref05_inside.f
 by_cases a : x ≥ 0
 ·rw [if_pos a]
  by_cases b : y ≥ 0
  ·rw [if_pos b]
   by_cases c : x < w
   ·rw [if_pos c]
    exact congrArg some (decide_eq_decide.mpr ⟨fun q => by omega, fun q => by omega⟩)
   ·rw [if_neg c]
    exact congrArg some (decide_eq_false (by omega)).symm
  ·rw [if_neg b]
   exact congrArg some (decide_eq_false (by omega)).symm
 ·rw [if_neg a]
  exact congrArg some (decide_eq_false (by omega)).symm
theorem At_is {w h : Int} {p : List Int} (v : Val w h p) (x y : Int) : incunableref05_At.f w h p x y = some (pix w h p x y) := by
 unfold incunableref05_At.f
 rw [inside_is, Option.bind_some]
 by_cases hc : 0 ≤ x ∧ x < w ∧ 0 ≤ y ∧ y < h
 ·have hf := flat_lt hc.1 hc.2.1 hc.2.2.1 hc.2.2.2
  have hm := v.2.2.2.2.1
  have hl := v.2.2.2.2.2.1
  have e : wrap64 (y * w) = y * w := w64 (by omega) (by omega)
  have hr := v.2.2.2.2.2.2 _ (rd_mem (l := p) hf.2.1 (by omega))
  rw [if_pos (decide_eq_true hc), e, w64 (by omega) (by omega), if_pos hf.2.1, if_pos (by omega), w64 (by omega) (by omega), pix_in hc.1 hc.2.1 hc.2.2.1 hc.2.2.2]
 ·rw [if_neg (by simpa using hc), pix_out hc]
theorem Put_is {w h : Int} {g : Int → Int → Int} {x y v : Int} (hw : 0 ≤ w) (hh : 0 ≤ h) (hm : w * h ≤ 40000) (hx0 : 0 ≤ x) (hx : x < w) (hy0 : 0 ≤ y) (hy : y < h) :
  incunableref05_Put.f w h (tab w h g) x y v = some (tab w h (upd g x y (v % 256))) := by
 have h0 : 0 ≤ w * h := Int.mul_nonneg hw hh
 have hf := flat_lt hx0 hx hy0 hy
 unfold incunableref05_Put.f
 have e : wrap64 (y * w) = y * w := w64 (by omega) (by omega)
 rw [e, w64 (by omega) (by omega), if_pos hf.2.1, if_pos (by rw [tab_length]; omega), set_tab hw hh hx0 hx hy0 hy]
theorem make2_l0 (w h c : Int) (a b : Int) (hw : 0 ≤ w) (hh : 0 ≤ h) (hw' : w ≤ 200) (hh' : h ≤ 200) : EvP (fun k => incunableref05_make2.l0 k w h c 0 a b []) (· = (a, b, List.replicate (w * h).toNat (c % 256))) := by
 have hm := sid_mul hw hh hw' hh'
 refine EvP.up (L := fun k i (s : List Int) => incunableref05_make2.l0 k w h c i a b s) (fun i s => 0 ≤ i ∧ s = List.replicate i.toNat (c % 256)) (w * h) ?_ 0 [] (by omega) ⟨by omega, rfl⟩
 intro i s ⟨h0, hs⟩ hi ih
 subst hs
 refine EvP.step (fun k => by rw [incunableref05_make2.l0]) ?_
 rw [w64 (x := w * h) (by omega) (by omega)]
 refine EvP.ite (fun h1 => ?_) (fun h1 => ?_)
 ·refine EvP.pos (by rw [List.length_replicate]; omega) ?_
  rw [w64 (by omega) (by omega)]
  refine ih _ h1 ⟨by omega, ?_⟩
  rw [show (i + 1).toNat = i.toNat + 1 by omega, List.replicate_succ']
 ·have : i = w * h := by omega
  subst this
  exact EvP.ret rfl
theorem make2_is (w h c : Int) (hw : 0 ≤ w) (hh : 0 ≤ h) (hw' : w ≤ 200) (hh' : h ≤ 200) : EvP (fun k => incunableref05_make2.f k w h c) (· = (w, h, tab w h (fun _ _ => c % 256))) := by
 unfold incunableref05_make2.f
 refine (make2_l0 w h c w h hw hh hw' hh').mono ?_
 rintro r rfl
 rw [replicate_tab hw hh]
theorem Part_is {w h : Int} {p : List Int} {x y w' h' : Int} (v : Val w h p) (s : 0 ≤ w' ∧ 0 ≤ h' ∧ w' ≤ 200 ∧ h' ≤ 200) (hx : -1000000 ≤ x ∧ x ≤ 1000000) (hy : -1000000 ≤ y ∧ y ≤ 1000000) :
  EvP (fun k => incunableref05_Part.f k w h p x y w' h') (· = (w', h', tab w' h' (partG w h p x y))) := by
 obtain ⟨hw', hh', w200', h200'⟩ := s
 have hm := sid_mul hw' hh' w200' h200'
 unfold incunableref05_Part.f
 refine EvP.bind (make2_is w' h' 0 hw' hh' w200' h200') ?_
 rintro _ rfl
 have e0 : tab w' h' (fun u t => if 0 ≤ u ∧ u < w' ∧ 0 ≤ t ∧ t < h' then partG w h p x y u t else 0 % 256) = tab w' h' (partG w h p x y) := tab_congr hw' hh' (fun u t a b c d => if_pos ⟨a, b, c, d⟩)
 refine EvP.rasterP (L0 := fun k j (l : List Int) => incunableref05_Part.l0 k x y w' h' j w h p w' h' l) (L1 := fun k j i (l : List Int) => incunableref05_Part.l1 k x y w' h' j i w h p w' h' l) (W := w') (H := h')
  (fun i j => i) (fun i j => j) (fun u t => u) (fun u t => t) (fun _ _ => 0 % 256) (partG w h p x y) hw' hh' hw' hh' ?_ ?_ ?_ ?_ ?_ ?_ ?_
 ·intro i j a b c d
  exact ⟨rfl, rfl⟩
 ·intro u t a b c d e f g' h'
  exact ⟨rfl, rfl⟩
 ·intro j l a b hk
  refine EvP.step (fun k => by rw [incunableref05_Part.l0]) ?_
  exact EvP.pos b hk
 ·refine EvP.step (fun k => by rw [incunableref05_Part.l0]) ?_
  refine EvP.neg (by omega) (EvP.ret ?_)
  rw [e0]
 ·intro i j g' a b c d p0 p1 q0 q1 e hk
  refine EvP.step (fun k => by rw [incunableref05_Part.l1]) ?_
  refine EvP.pos b ?_
  rw [w64 (x := x + i) (by omega) (by omega), w64 (x := y + j) (by omega) (by omega)]
  refine EvP.bindv (At_is v _ _) ?_
  refine EvP.bindv (Put_is hw' hh' (by omega) a b c d) ?_
  have e3 := v.pix01 (x + i) (y + j)
  rw [w64 (x := i + 1) (by omega) (by omega), show pix w h p (x + i) (y + j) % 256 = pix w h p (x + i) (y + j) by omega]
  exact hk
 ·intro i j g' a b c d q hk
  exact absurd ⟨a, b, c, d⟩ q
 ·intro j l a b hk
  refine EvP.step (fun k => by rw [incunableref05_Part.l1]) ?_
  refine EvP.neg (by omega) ?_
  rw [w64 (x := j + 1) (by omega) (by omega)]
  exact hk
theorem Sides_is (w h : Int) : incunableref05_Sides.f w h = some (decide (Sid w h)) := by
 unfold incunableref05_Sides.f
 by_cases h1 : 0 ≤ w ∧ 0 ≤ h ∧ w ≤ 200 ∧ h ≤ 200
 ·obtain ⟨a, b, c, d⟩ := h1
  have := sid_mul a b c d
  rw [if_pos (by omega), if_pos (by omega), if_pos c, if_pos d, w64 (by omega) (by omega)]
  simp [Sid, a, b, c, d]
 ·have h2 : ¬ Sid w h := fun s => h1 ⟨s.1, s.2.1, s.2.2.1, s.2.2.2.1⟩
  simp only [h2, decide_false]
  split
  ·split
   ·split
    ·split
     ·omega
     ·rfl
    ·rfl
   ·rfl
  ·rfl
theorem refValid_l0 (w h : Int) (p : List Int) (hl : (p.length : Int) ≤ 9223372036854775807) : EvP (fun k => incunableref05_Valid.l0 k 0 w h p) (· = decide (∀ x ∈ p, x ≤ 1)) := by
 refine EvP.up (L := fun k i (_ : Unit) => incunableref05_Valid.l0 k i w h p) (fun i _ => 0 ≤ i ∧ ∀ j, 0 ≤ j → j < i → rd p j ≤ 1) p.length ?_ 0 () (by omega) ⟨by omega, fun j _ _ => by omega⟩
 intro i _ ⟨h0, hb⟩ hi ih
 refine EvP.step (fun k => by rw [incunableref05_Valid.l0]) ?_
 refine EvP.ite (fun h1 => ?_) (fun h1 => ?_)
 ·refine EvP.pos h0 (EvP.ite (fun h2 => EvP.ret ?_) (fun h2 => ?_))
  ·symm
   rw [decide_eq_false_iff_not]
   intro hall
   have := hall _ (rd_mem h0 h1)
   omega
  ·rw [w64 (by omega) (by omega)]
   refine ih () h1 ⟨by omega, fun j hj hj' => ?_⟩
   rcases Int.lt_or_le j i with hji | hji
   ·exact hb j hj hji
   ·have : j = i := by omega
    subst this
    omega
 ·refine EvP.ret ?_
  symm
  rw [decide_eq_true_iff]
  intro x hx
  obtain ⟨n, hn, rfl⟩ := List.getElem_of_mem hx
  have := hb (n : Int) (by omega) (by omega)
  rwa [rd_get p n hn] at this
theorem refValid_is (w h : Int) (p : List Int) (hp : ∀ x ∈ p, 0 ≤ x) (hl : (p.length : Int) ≤ 9223372036854775807) : EvP (fun k => incunableref05_Valid.f k w h p) (· = decide (Val w h p)) := by
 unfold incunableref05_Valid.f
 refine EvP.bindv (Sides_is w h) ?_
 refine EvP.ite (fun h1 => ?_) (fun h1 => ?_)
 ·rw [decide_eq_true_iff] at h1
  have hm := sid_mul h1.1 h1.2.1 h1.2.2.1 h1.2.2.2.1
  rw [w64 (by omega) (by omega)]
  refine EvP.step (fun k => by rw [incunableref05_Valid.j0]) ?_
  refine EvP.ite (fun h2 => EvP.ret ?_) (fun h2 => ?_)
  ·symm
   rw [decide_eq_false_iff_not]
   intro v
   simp [v.2.2.2.2.2.1] at h2
  ·refine (refValid_l0 w h p hl).mono ?_
   rintro r rfl
   have e : (p.length : Int) = w * h := by simpa using h2
   apply decide_eq_decide.mpr
   constructor
   ·intro hall
    exact ⟨h1.1, h1.2.1, h1.2.2.1, h1.2.2.2.1, h1.2.2.2.2, e, fun x hx => ⟨hp x hx, hall x hx⟩⟩
   ·intro v x hx
    exact (v.2.2.2.2.2.2 x hx).2
 ·refine EvP.step (fun k => by rw [incunableref05_Valid.j0]) ?_
  refine EvP.pos rfl (EvP.ret ?_)
  symm
  rw [decide_eq_false_iff_not]
  intro v
  exact h1 (decide_eq_true v.sid)
theorem refTrim_is (w h : Int) (p : List Int) (hp : ∀ x ∈ p, 0 ≤ x) (hl : (p.length : Int) ≤ 9223372036854775807) : EvP (fun k => incunableref05_Trim.f k w h p) (· = trimR w h p) := by
 unfold incunableref05_Trim.f trimR
 refine EvP.bind (refValid_is w h p hp hl) ?_
 rintro _ rfl
 refine EvP.ite (fun h1 => ?_) (fun h1 => EvP.ret (by rw [if_neg (by simpa using h1)]))
 have v : Val w h p := by simpa using h1
 rw [if_pos v]
 obtain ⟨hw, hh, w200, h200, hm⟩ := v.sid
 have hlen := v.2.2.2.2.2.1
 have h0 : 0 ≤ w * h := Int.mul_nonneg hw hh
 refine EvP.raster (L0 := fun k y (s : Int × Int × Int × Int) => incunableref05_Trim.l0 k s.1 s.2.1 s.2.2.1 s.2.2.2 y w h p) (L1 := fun k y x (s : Int × Int × Int × Int) => incunableref05_Trim.l1 k s.1 s.2.1 s.2.2.1 s.2.2.2 y x w h p)
  (fun y x s => s = trf w h p (y * w + x).toNat) w h hw hh ?_ ?_ ?_ ?_ (w, h, -1, -1) (by rw [Int.zero_mul]; rfl)
 ·intro y s a b _ hk
  refine EvP.step (fun k => by rw [incunableref05_Trim.l0]) ?_
  exact EvP.pos b hk
 ·intro s hs
  have e : s = trb w h p := by
   rw [hs]
   unfold trb
   congr 1
   rw [Int.mul_comm w h]
   omega
  subst e
  have hb := trb_box (p := p) hw hh
  refine EvP.step (fun k => by rw [incunableref05_Trim.l0]) ?_
  refine EvP.neg (by omega) ?_
  unfold trimT
  refine EvP.ite (fun r => EvP.ret (by rw [if_pos r])) (fun r => ?_)
  rw [if_neg r]
  obtain ⟨sd, b1, b2, b3, b4, b5, b6, b7, b8⟩ := box_sid v.sid hb r
  rw [w64 (x := (trb w h p).2.2.1 - (trb w h p).1) (by omega) (by omega), w64 (x := (trb w h p).2.2.2 - (trb w h p).2.1) (by omega) (by omega), w64 (x := (trb w h p).2.2.1 - (trb w h p).1 + 1) (by omega) (by omega), w64 (x := (trb w h p).2.2.2 - (trb w h p).2.1 + 1) (by omega) (by omega)]
  refine EvP.bind (Part_is v ⟨sd.1, sd.2.1, sd.2.2.1, sd.2.2.2.1⟩ (by omega) (by omega)) ?_
  rintro _ rfl
  exact EvP.ret rfl
 ·intro y x s a b c d hs
  have hf := flat_lt c d a b
  have es : trf w h p (y * w + (x + 1)).toNat = stp w p (y * w + x) s := by
   rw [show (y * w + (x + 1)).toNat = (y * w + x).toNat + 1 by omega, hs]
   show stp w p ((y * w + x).toNat : Int) _ = _
   rw [show (((y * w + x).toNat : Nat) : Int) = y * w + x by omega]
  have ep : pix w h p x y = rd p (y * w + x) := pix_in c d a b
  refine ⟨stp w p (y * w + x) s, es.symm, fun hk => ?_⟩
  refine EvP.step (fun k => by rw [incunableref05_Trim.l1]) ?_
  refine EvP.pos d ?_
  refine EvP.bindv (At_is v x y) ?_
  rw [ep, w64 (x := x + 1) (by omega) (by omega)]
  unfold stp at hk
  refine EvP.ite (fun r => ?_) (fun r => ?_)
  ·rw [if_pos r, flat_mod c d, flat_div c d] at hk
   exact hk
  ·rw [if_neg r] at hk
   exact hk
 ·intro y s a b hs
  refine ⟨?_, fun hk => ?_⟩
  ·rw [hs]
   congr 1
   rw [Int.add_mul]
   omega
  ·refine EvP.step (fun k => by rw [incunableref05_Trim.l1]) ?_
   refine EvP.neg (by omega) ?_
   rw [w64 (x := y + 1) (by omega) (by omega)]
   exact hk
theorem Copy_is (w h : Int) (p : List Int) (hl : p.length < 140737488355328) : incunableref05_Copy.f w h p = some (w, h, p) := by
 unfold incunableref05_Copy.f
 simp only [Option.bind_some, List.length_nil, Nat.zero_add, List.nil_append]
 rw [if_pos hl]
theorem Marks_is {w h : Int} {p : List Int} (v : Val w h p) : EvP (fun k => incunableref15_Marks.f k w h p) (fun r => r.2 = ((rts w h p (w * h).toNat).length : Int) ∧ r.1.length = p.length ∧ (∀ j, 0 ≤ j → j < w * h → (rd r.1 j ≠ 0 ↔ ∃ k, 0 ≤ k ∧ k < w * h ∧ R8 w h p k j)) ∧ ∀ s j, rt w h p s → s < w * h → R8 w h p s j → rd r.1 j = ((rts w h p s.toNat).length : Int) + 1) := by
 obtain ⟨hw, hh, hw2, hh2, hm, hp, _⟩ := id v
 have hb : ∀ z ∈ p, 0 ≤ z ∧ z ≤ 255 := val_byt v
 have e0 : ((p.length : Int) : Int).toNat = p.length := by omega
 unfold incunableref15_Marks.f
 refine EvP.pos (by omega) (EvP.pos (by omega) ?_)
 rw [e0]
 refine EvP.up (L := fun k i (s : List Int × Int) => incunableref15_Marks.l0 k s.1 s.2 i w h p) (fun i s => 0 ≤ i ∧ s.2 = ((rts w h p i.toNat).length : Int) ∧ s.1.length = p.length ∧ (∀ j, 0 ≤ j → j < w * h → (rd s.1 j ≠ 0 ↔ ∃ k, 0 ≤ k ∧ k < i ∧ R8 w h p k j)) ∧ ∀ s' j, rt w h p s' → s' < i → R8 w h p s' j → rd s.1 j = ((rts w h p s'.toNat).length : Int) + 1) p.length ?_ 0 (List.replicate p.length 0, 0) (by omega) ⟨by omega, rfl, List.length_replicate, fun j j0 j1 => ?_, fun s j a b c => by have := a.1.1; omega⟩
 ·rintro i ⟨m, n⟩ ⟨i0, hn, hlm, hmk, hv⟩ hi ih
  dsimp only at hn hlm hmk hv
  have ei : ((i.toNat : Nat) : Int) = i := by omega
  have en : (i + 1).toNat = i.toNat + 1 := by omega
  have cb := rts_len w h p i.toNat
  refine EvP.step (fun k => by rw [incunableref15_Marks.l0]) ?_
  refine EvP.ite (fun i1 => ?_) (fun i1 => EvP.ret ?_)
  ·have iw : i < w * h := by omega
   rw [w64 (x := i + 1) (by omega) (by omega)]
   have old : (blk8 w h p i → ∃ k : Int, 0 ≤ k ∧ k < i ∧ R8 w h p k i) → EvP (fun k => incunableref15_Marks.l0 k m n (i + 1) w h p) _ := fun z => by
    refine ih (m, n) i1 ⟨by omega, ?_, hlm, fun j j0 j1 => ?_, fun s j a b c => ?_⟩
    ·dsimp only
     rw [hn, en, rts_s, if_neg]
     rw [ei]
     intro q
     obtain ⟨k, a, b, r⟩ := z q.1
     exact q.2 k a b r
    ·dsimp only
     rw [hmk j j0 j1]
     constructor
     ·rintro ⟨k, a, b, r⟩
      exact ⟨k, a, by omega, r⟩
     ·rintro ⟨k, a, b, r⟩
      by_cases q : k = i
      ·subst q
       obtain ⟨k', a', b', r'⟩ := z r.left
       exact ⟨k', a', b', r'.trans r⟩
      ·exact ⟨k, a, by omega, r⟩
    ·dsimp only
     by_cases q : s = i
     ·subst q
      obtain ⟨k, a', b', r'⟩ := z a.1
      exact absurd r' (a.2 k a' b')
     ·exact hv s j a (by omega) c
   refine EvP.pos i0 ?_
   refine EvP.ite (fun c => EvP.pos (by show i < (m.length : Int); omega) ?_) (fun c => old (fun q => absurd q.2.2 c))
   have wi : blk8 w h p i := ⟨i0, iw, c⟩
   refine EvP.ite (fun mi => ?_) (fun mi => old (fun _ => (hmk i i0 iw).mp mi))
   have isrt : rt w h p i := ⟨wi, fun k k0 k1 z => (hmk i i0 iw).mpr ⟨k, k0, k1, z⟩ mi⟩
   rw [w64 (x := n + 1) (by omega) (by omega)]
   refine EvP.bind (spread_is (cor := true) hw hh (by omega) (by omega) hp (by omega) hb m hlm i (n + 1) 1 (by omega) i0 iw c mi) ?_
   rintro ⟨r1, m'⟩ ⟨out, _, f⟩
   have f : FR w h p (DD true) 1 m (n + 1) i (unz m) m' out out.length := f
   have al : ∀ j, j ∈ out ↔ R8 w h p i j := f.all (fun x y mx cx ab cy => by
    obtain ⟨k, k0, k1, r⟩ := (hmk x cx.1 cx.2.1).mp mx
    exact (hmk y cy.1 cy.2.1).mpr ⟨k, k0, k1, .step r ab cy⟩)
   refine ih (m', n + 1) i1 ⟨by omega, ?_, f.len, fun j j0 j1 => ?_, fun s j a b c' => ?_⟩
   ·dsimp only
    rw [hn, en, rts_s, ei, if_pos isrt, List.length_append]
    rfl
   ·dsimp only
    have hj := f.mks j j0 j1
    by_cases o : j ∈ out
    ·rw [hj.1 o]
     exact ⟨fun _ => ⟨i, i0, by omega, (al j).mp o⟩, fun _ => by omega⟩
    ·rw [hj.2 o, hmk j j0 j1]
     constructor
     ·rintro ⟨k, a, b, r⟩
      exact ⟨k, a, by omega, r⟩
     ·rintro ⟨k, a, b, r⟩
      by_cases q : k = i
      ·subst q
       exact absurd ((al j).mpr r) o
      ·exact ⟨k, a, by omega, r⟩
   ·dsimp only
    have jr := c'.right
    have hj := f.mks j jr.1 jr.2.1
    by_cases q : s = i
    ·subst q
     rw [hj.1 ((al j).mpr c'), hn]
    ·have no : j ∉ out := fun o => isrt.2 s a.1.1 (by omega) (c'.trans (R8_symm ((al j).mp o)))
     rw [hj.2 no]
     exact hv s j a (by omega) c'
  ·have e1 : i = w * h := by omega
   subst e1
   exact ⟨hn, hlm, hmk, hv⟩
 ·dsimp only
  constructor
  ·intro z
   exact absurd (rd_replicate _ _ _ j0 (by omega)) z
  ·rintro ⟨k, a, b, _⟩
   omega
theorem rts_at {w h : Int} {p : List Int} : ∀ (n : Nat) (t : Int), 0 ≤ t → t < ((rts w h p n).length : Int) → ((rts w h p (rd (rts w h p n) t).toNat).length : Int) = t
 | 0, t, a, b => by simp [rts] at b; omega
 | n + 1, t, a, b => by
  rw [rts_s] at b ⊢
  by_cases c : rt w h p n
  ·rw [if_pos c] at b ⊢
   rw [rd_append _ _ _ a]
   by_cases e : t = ((rts w h p n).length : Int)
   ·rw [if_pos e]
    simp [e]
   ·rw [if_neg e]
    rw [List.length_append] at b
    exact rts_at n t a (by simp at b; omega)
  ·rw [if_neg c] at b ⊢
   exact rts_at n t a b
theorem take_rd {l : List Int} {i : Int} (h0 : 0 ≤ i) (h1 : i < (l.length : Int)) : l.take (i + 1).toNat = l.take i.toNat ++ [rd l i] := by
 have h : i.toNat < l.length := by omega
 rw [show (i + 1).toNat = i.toNat + 1 by omega, List.take_add_one]
 simp [rd, List.getD, h]
theorem refComps_is {w h : Int} {p : List Int} (v : Val w h p) {m : List Int} (hlm : m.length = p.length) (hz : ∀ j, 0 ≤ j → j < w * h → (rd m j ≠ 0 ↔ ∃ k, 0 ≤ k ∧ k < w * h ∧ R8 w h p k j)) (hv : ∀ s j, rt w h p s → s < w * h → R8 w h p s j → rd m j = ((rts w h p s.toNat).length : Int) + 1) :
  EvP (fun k => incunableref15_Components.l0 k m ((rts w h p (w * h).toNat).length : Int) [] 1 w h p) (· = (cmpS w h p, 0)) := by
 obtain ⟨hw, hh, hw2, hh2, hm, hp, _⟩ := id v
 have h0 : 0 ≤ w * h := Int.mul_nonneg hw hh
 have cb := rts_len w h p (w * h).toNat
 refine EvP.up (L := fun k i (s : List S35) => incunableref15_Components.l0 k m ((rts w h p (w * h).toNat).length : Int) s i w h p) (fun i s => 1 ≤ i ∧ s = ((rts w h p (w * h).toNat).take (i - 1).toNat).map (cmpP w h p)) (((rts w h p (w * h).toNat).length : Int) + 1) ?_ 1 [] (by omega) ⟨by omega, rfl⟩
 intro i s ⟨i0, hs⟩ hi ih
 refine EvP.step (fun k => by rw [incunableref15_Components.l0]) ?_
 refine EvP.ite (fun i1 => ?_) (fun i1 => EvP.ret ?_)
 ·obtain ⟨r, er⟩ : ∃ r, r = rd (rts w h p (w * h).toNat) (i - 1) := ⟨_, rfl⟩
  have rm : r ∈ rts w h p (w * h).toNat := by rw [er]; exact rd_mem (by omega) (by omega)
  obtain ⟨r0, r1, r2⟩ := (rts_mem r _).mp rm
  have ri : ((rts w h p r.toNat).length : Int) = i - 1 := by rw [er]; exact rts_at _ _ (by omega) (by omega)
  refine EvP.bindv (Copy_is w h p (by omega)) ?_
  have key : ∀ j, 0 ≤ j → j < w * h → (if rd m j = i then rd p j else 0) = rd (mskL w h p r) j := fun j j0 j1 => by
   obtain ⟨_, e1, e2, e3, e4, e5⟩ := flat_of hw j0 j1
   have em : rd (mskL w h p r) j = ind (SP w h p r) (j % w) (j / w) := rd_tab _ _ _ _ j0 j1
   rw [em]
   by_cases q : R8 w h p r j
   ·rw [if_pos (by rw [hv r j r2 (by omega) q, ri]; omega), q.right.2.2]
    exact (ind_1.mpr ⟨⟨e1, e2, e3, e4⟩, by rw [e5]; exact q⟩).symm
   ·have e0 : ind (SP w h p r) (j % w) (j / w) = 0 := by
     have a := ind_01 (SP w h p r) (j % w) (j / w)
     have b : ¬ ind (SP w h p r) (j % w) (j / w) = 1 := fun z => q (by have := (ind_1.mp z).2; rw [e5] at this; exact this)
     omega
    rw [e0, if_neg]
    intro z
    obtain ⟨k, k0, k1, rk⟩ := (hz j j0 j1).mp (by rw [z]; omega)
    obtain ⟨s', a, b, c, d⟩ := rt_of (k.toNat + 1) k j (by omega) rk
    have := hv s' j c (by omega) d
    have e6 : s' = r := rts_inj c r2 (by omega)
    rw [e6] at d
    exact q d
  refine EvP.up (L := fun k j (q : List Int) => incunableref15_Components.l1 k m ((rts w h p (w * h).toNat).length : Int) s i j w h p w h q) (fun j q => 0 ≤ j ∧ q.length = p.length ∧ (∀ x, 0 ≤ x → x < j → rd q x = rd (mskL w h p r) x) ∧ ∀ x, j ≤ x → rd q x = rd p x) m.length ?_ 0 p (by omega) ⟨by omega, rfl, fun x a b => by omega, fun _ _ => rfl⟩
  intro j q ⟨j0, hq, h1, h2⟩ hj ih2
  refine EvP.step (fun k => by rw [incunableref15_Components.l1]) ?_
  refine EvP.ite (fun j1 => ?_) (fun j1 => ?_)
  ·refine EvP.pos j0 ?_
   rw [w64 (x := j + 1) (by omega) (by omega)]
   have kj := key j j0 (by omega)
   refine EvP.ite (fun c => ?_) (fun c => ?_)
   ·rw [if_pos c] at kj
    refine ih2 q j1 ⟨by omega, hq, fun x x0 x1 => ?_, fun x hx => h2 x (by omega)⟩
    by_cases z : x = j
    ·rw [z, h2 j (by omega), kj]
    ·exact h1 x x0 (by omega)
   ·rw [if_neg c] at kj
    refine EvP.pos (by omega) (ih2 (q.set j.toNat 0) j1 ⟨by omega, by rw [List.length_set, hq], fun x x0 x1 => ?_, fun x hx => ?_⟩)
    ·rw [rd_set _ _ _ _ j0 (by omega) x0]
     by_cases z : x = j
     ·rw [if_pos z, z, kj]
     ·rw [if_neg z]
      exact h1 x x0 (by omega)
    ·rw [rd_set _ _ _ _ j0 (by omega) (by omega), if_neg (by omega)]
     exact h2 x (by omega)
  ·have ml : ((mskL w h p r).length : Int) = w * h := by unfold mskL; rw [tab_length]; omega
   have eq : q = mskL w h p r := rd_ext (by omega) (fun x x0 x1 => h1 x x0 (by omega))
   have vm : Val w h (mskL w h p r) := val_tab v.sid (fun x y _ _ _ _ => ind_01 _ x y)
   rw [eq]
   refine EvP.bind (refTrim_is w h (mskL w h p r) (fun z hz => (val_byt vm z hz).1) (by omega)) ?_
   rintro _ rfl
   have ls : s.length ≤ (rts w h p (w * h).toNat).length := by rw [hs, List.length_map, List.length_take]; omega
   refine EvP.pos (by omega) ?_
   rw [w64 (x := i + 1) (by omega) (by omega)]
   refine ih (s ++ [cmpP w h p r]) (by omega) ⟨by omega, ?_⟩
   rw [show (i + 1 - 1).toNat = ((i - 1) + 1).toNat by omega, take_rd (by omega) (by omega), List.map_append, hs, ← er]
   rfl
 ·rw [hs, show (i - 1).toNat = (rts w h p (w * h).toNat).length by omega, List.take_length]
  rfl
theorem refComponents_is (w h : Int) (p : List Int) (hp : ∀ x ∈ p, 0 ≤ x) (hl : (p.length : Int) ≤ 9223372036854775807) : EvP (fun k => incunableref15_Components.f k w h p) (· = cmpR w h p) := by
 unfold incunableref15_Components.f cmpR
 refine EvP.bind (refValid_is w h p hp hl) ?_
 rintro _ rfl
 refine EvP.ite (fun q => ?_) (fun q => EvP.ret (by rw [if_neg (by simpa using q)]))
 have v : Val w h p := by simpa using q
 rw [if_pos v]
 refine EvP.bind (Marks_is v) ?_
 rintro ⟨m, n⟩ ⟨e1, e2, e3, e4⟩
 dsimp only at e1 e2 e3 e4
 subst e1
 exact refComps_is v e2 e3 e4
theorem combine_is {op a b : Int} (h0 : 0 ≤ op) (h1 : op ≤ 4) (a0 : 0 ≤ a) (a1 : a ≤ 1) (b0 : 0 ≤ b) (b1 : b ≤ 1) : bitmap_combine.f a b op = some (mixv op a b) := by
 rcases five h0 h1 with rfl | rfl | rfl | rfl | rfl <;> rcases bit a0 a1 with rfl | rfl <;> rcases bit b0 b1 with rfl | rfl <;> decide +kernel
theorem at_is {w h : Int} {p : List Int} (v : Val w h p) (x y : Int) : bitmap_at.f w h p x y = some (pix w h p x y) := by
 unfold bitmap_at.f
 by_cases hc : 0 ≤ x ∧ x < w ∧ 0 ≤ y ∧ y < h
 ·have hf := flat_lt hc.1 hc.2.1 hc.2.2.1 hc.2.2.2
  have hm := v.2.2.2.2.1
  have hl := v.2.2.2.2.2.1
  rw [if_neg (by omega), if_neg (by omega), if_neg (by omega), if_neg (by omega)]
  have e : wrap64 (y * w) = y * w := w64 (by omega) (by omega)
  rw [e, w64 (by omega) (by omega), if_pos hf.2.1, if_pos (by omega), pix_in hc.1 hc.2.1 hc.2.2.1 hc.2.2.2]
 ·rw [pix_out hc]
  by_cases a : x < 0
  ·rw [if_pos a]
  rw [if_neg a]
  by_cases b : y < 0
  ·rw [if_pos b]
  rw [if_neg b]
  by_cases c : x ≥ w
  ·rw [if_pos c]
  rw [if_neg c, if_pos (by omega)]
theorem clone_is (w h : Int) (p : List Int) (hl : p.length < 140737488355328) : bitmap_clone.f w h p = some (w, h, p) := by
 unfold bitmap_clone.f bytes_Clone.f
 simp only [Option.bind_some, List.length_nil, Nat.zero_add, List.nil_append]
 rw [if_pos hl]
 rfl
theorem isShift_is (x y : Int) : bitmap_isShift.f x y = some (decide (Shf x y)) := by
 unfold bitmap_isShift.f mn mx
 by_cases a : Shf x y
 ·obtain ⟨b, c, d, e⟩ := a
  rw [if_pos (by split <;> omega)]
  refine congrArg some ?_
  rw [decide_eq_true (show Shf x y from ⟨b, c, d, e⟩), decide_eq_true (by split <;> omega)]
 ·rw [decide_eq_false a]
  by_cases q : (if y < x then y else x) ≥ -100000
  ·rw [if_pos q]
   refine congrArg some (decide_eq_false (fun r => a ?_))
   refine ⟨?_, ?_, ?_, ?_⟩ <;> (split at q <;> split at r <;> omega)
  ·rw [if_neg q]
theorem Draw_l0 {w h : Int} {p : List Int} {w' h' : Int} {s : List Int} {x y op : Int} (v : Val w h p) (v' : Val w' h' s) (h0 : 0 ≤ op) (h1 : op ≤ 4) (hs : Shf x y) :
  EvP (fun k => bitmap_Draw.l0 k x y op h' 0 w h p w' h' s w h p) (· = (w, h, tab w h (drawG (pix w h p) w' h' s x y op), 0)) := by
 obtain ⟨hw, hh, w200, h200, hm⟩ := v.sid
 obtain ⟨hw', hh', w200', h200', _⟩ := v'.sid
 obtain ⟨sx0, sx1, sy0, sy1⟩ := hs
 have h00 : 0 ≤ w * h := Int.mul_nonneg hw hh
 have ep : EvP (fun k => bitmap_Draw.l0 k x y op h' 0 w h p w' h' s w h (tab w h (pix w h p))) (· = (w, h, tab w h (drawG (pix w h p) w' h' s x y op), 0)) := by
  refine EvP.rasterP (L0 := fun k j (l : List Int) => bitmap_Draw.l0 k x y op h' j w h p w' h' s w h l) (L1 := fun k j i (l : List Int) => bitmap_Draw.l1 k x y op j h' j w' i w h p w' h' s w h l) (W := w') (H := h')
   (fun i j => x + i) (fun i j => y + j) (fun u t => u - x) (fun u t => t - y) (pix w h p) (fun u t => mixv op (pix w h p u t) (pix w' h' s (u - x) (t - y))) hw' hh' hw hh ?_ ?_ ?_ ?_ ?_ ?_ ?_
  ·intro i j a b c d
   exact ⟨by show x + i - x = i; omega, by show y + j - y = j; omega⟩
  ·intro u t a b c d e f g' h'
   exact ⟨by show x + (u - x) = u; omega, by show y + (t - y) = t; omega⟩
  ·intro j l a b hk
   refine EvP.step (fun k => by rw [bitmap_Draw.l0]) ?_
   exact EvP.pos b hk
  ·refine EvP.step (fun k => by rw [bitmap_Draw.l0]) ?_
   exact EvP.neg (by omega) (EvP.ret rfl)
  ·intro i j g' a b c d p0 p1 q0 q1 e hk
   have p0 : 0 ≤ x + i := p0
   have p1 : x + i < w := p1
   have q0 : 0 ≤ y + j := q0
   have q1 : y + j < h := q1
   have e1 := v.pix01 (x + i) (y + j)
   have hf := flat_lt p0 p1 q0 q1
   refine EvP.step (fun k => by rw [bitmap_Draw.l1]) ?_
   refine EvP.pos b ?_
   rw [w64 (x := x + i) (by omega) (by omega), w64 (x := y + j) (by omega) (by omega)]
   refine EvP.pos p0 (EvP.pos q0 (EvP.pos p1 ?_))
   refine EvP.step (fun k => by rw [bitmap_Draw.j3]) ?_
   refine EvP.pos (decide_eq_true q1) ?_
   rw [w64 (x := (y + j) * w) (by omega) (by omega), w64 (x := (y + j) * w + (x + i)) (by omega) (by omega)]
   refine EvP.pos hf.2.1 (EvP.pos (by rw [tab_length]; omega) ?_)
   refine EvP.bindv (at_is v' i j) ?_
   have e2 : g' (x + i) (y + j) = pix w h p (x + i) (y + j) := e
   rw [rd_tab_at _ _ _ _ _ p0 p1 q0 q1, e2]
   have e3 := v'.pix01 i j
   refine EvP.bindv (combine_is h0 h1 e1.1 e1.2 e3.1 e3.2) ?_
   rw [set_tab hw hh p0 p1 q0 q1, w64 (x := i + 1) (by omega) (by omega)]
   have e5 : x + i - x = i := by omega
   have e6 : y + j - y = j := by omega
   simp only [e5, e6] at hk
   exact hk
  ·intro i j g' a b c d q hk
   have q : ¬ (0 ≤ x + i ∧ x + i < w ∧ 0 ≤ y + j ∧ y + j < h) := q
   have skip : EvP (fun k => bitmap_Draw.j3 k x y op j i (x + i) (y + j) h' j w' i false w h p w' h' s w h (tab w h g')) (· = (w, h, tab w h (drawG (pix w h p) w' h' s x y op), 0)) := by
    refine EvP.step (fun k => by rw [bitmap_Draw.j3]) ?_
    refine EvP.neg (by simp) ?_
    rw [w64 (x := i + 1) (by omega) (by omega)]
    exact hk
   refine EvP.step (fun k => by rw [bitmap_Draw.l1]) ?_
   refine EvP.pos b ?_
   rw [w64 (x := x + i) (by omega) (by omega), w64 (x := y + j) (by omega) (by omega)]
   refine EvP.ite (fun q1 => EvP.ite (fun q2 => EvP.ite (fun q3 => ?_) (fun q3 => skip)) (fun q2 => skip)) (fun q1 => skip)
   rw [decide_eq_false (show ¬ y + j < h by omega)]
   exact skip
  ·intro j l a b hk
   refine EvP.step (fun k => by rw [bitmap_Draw.l1]) ?_
   refine EvP.neg (by omega) ?_
   rw [w64 (x := j + 1) (by omega) (by omega)]
   exact hk
 rw [← v.tab] at ep
 exact ep
theorem Draw_is (w h : Int) (p : List Int) (w' h' : Int) (s : List Int) (x y op : Int) (hp : ∀ x ∈ p, 0 ≤ x) (hl : (p.length : Int) ≤ 9223372036854775807) (hp' : ∀ x ∈ s, 0 ≤ x) (hl' : (s.length : Int) ≤ 9223372036854775807) :
  EvP (fun k => bitmap_Draw.f k w h p w' h' s x y op) (· = drawR w h p w' h' s x y op) := by
 unfold bitmap_Draw.f
 refine EvP.bind (Valid_is w h p hp hl) ?_
 rintro _ rfl
 refine EvP.ite (fun h1 => ?_) (fun h1 => ?_)
 ·refine EvP.bind (Valid_is w' h' s hp' hl') ?_
  rintro _ rfl
  have v : Val w h p := by simpa using h1
  refine EvP.step (fun k => by rw [bitmap_Draw.j0]) ?_
  refine EvP.ite (fun h2 => EvP.ret ?_) (fun h2 => ?_)
  ·unfold drawR
   rw [if_pos (fun q => by simp [q.2] at h2)]
  ·have v' : Val w' h' s := by simpa using h2
   have hlen : (p.length : Int) ≤ 8192 := by rw [v.2.2.2.2.2.1]; exact v.2.2.2.2.1
   unfold drawR
   rw [if_neg (c := ¬ (Val w h p ∧ Val w' h' s)) (fun q => q ⟨v, v'⟩)]
   refine EvP.ite (fun a => EvP.ret (by rw [if_pos (.inl a)])) (fun a => ?_)
   refine EvP.ite (fun b => EvP.ret (by rw [if_pos (.inr (.inl b))])) (fun b => ?_)
   refine EvP.bindv (isShift_is x y) ?_
   refine EvP.ite (fun c => ?_) (fun c => EvP.ret (by rw [if_pos (.inr (.inr (by simpa using c)))]))
   have hs : Shf x y := by simpa using c
   rw [if_neg (fun q => q.elim a (fun q => q.elim b (fun q => q hs)))]
   refine EvP.bindv (clone_is w h p (by omega)) ?_
   exact Draw_l0 v v' (by omega) (by omega) hs
 ·have v : ¬ Val w h p := by simpa using h1
  refine EvP.step (fun k => by rw [bitmap_Draw.j0]) ?_
  refine EvP.pos rfl (EvP.ret ?_)
  unfold drawR
  rw [if_pos (fun q => v q.1)]
theorem near_is (x : Int) : shape_near.f x = some (decide (-100000 ≤ x ∧ x ≤ 100000)) := by
 unfold shape_near.f
 by_cases a : x ≥ -100000
 ·rw [if_pos a]
  exact congrArg some (decide_eq_decide.mpr ⟨fun q => ⟨a, q⟩, fun q => q.2⟩)
 ·rw [if_neg a]
  exact congrArg some (decide_eq_false (fun q => a q.1)).symm
theorem PIndex_is (l : List S35) (hl : (l.length : Int) ≤ 9223372036854775807) (hc : ∀ b ∈ l, CP b) : EvP (fun k => slices_IndexFunc_45.f k l) (fun r => 0 ≤ r ↔ ∃ b ∈ l, ¬ VP b) := by
 unfold slices_IndexFunc_45.f
 refine EvP.up (L := fun k i (_ : Unit) => slices_IndexFunc_45.l0 k l (l.length : Int) i) (fun i _ => 0 ≤ i ∧ ∀ b ∈ l.take i.toNat, VP b) l.length ?_ 0 () (by omega) ⟨by omega, fun b hb => by simp at hb⟩
 intro i s ⟨i0, hs⟩ hi ih
 refine EvP.step (fun k => by rw [slices_IndexFunc_45.l0]) ?_
 refine EvP.ite (fun i1 => ?_) (fun i1 => ?_)
 ·have ci := hc _ (rd48_mem i0 i1)
  have e : EvP (fun k => shape_rightPlaced_1.f k (rd_T35 l i).f0.f0 (rd_T35 l i).f0.f1 (rd_T35 l i).f0.f2 (rd_T35 l i).f1 (rd_T35 l i).f2) (· = !decide (VP (rd_T35 l i))) := by
   unfold shape_rightPlaced_1.f
   refine EvP.bind (Valid_is _ _ _ ci.1 ci.2) ?_
   rintro _ rfl
   exact EvP.ret rfl
  refine EvP.pos i0 (EvP.pos i1 (EvP.bind e ?_))
  rintro _ rfl
  refine EvP.ite (fun c => EvP.ret ?_) (fun c => ?_)
  ·have c : ¬ VP (rd_T35 l i) := by simpa using c
   exact ⟨fun _ => ⟨_, rd48_mem i0 i1, c⟩, fun _ => i0⟩
  ·have c : VP (rd_T35 l i) := by simpa using c
   rw [w64 (by omega) (by omega)]
   refine ih () i1 ⟨by omega, fun b hb => ?_⟩
   rw [take48 i0 i1] at hb
   rcases List.mem_append.mp hb with hb | hb
   ·exact hs b hb
   ·rw [List.mem_singleton.mp hb]; exact c
 ·refine EvP.ret ⟨fun h => by omega, fun ⟨b, a, c⟩ => absurd (hs b ?_) c⟩
  rw [show i.toNat = l.length by omega, List.take_length]
  exact a
theorem right_is (l : List S35) (hl : (l.length : Int) ≤ 9223372036854775807) (hc : ∀ b ∈ l, CP b) : EvP (fun k => shape_rightPlaced.f k l) (· = !decide (∃ b ∈ l, ¬ VP b)) := by
 unfold shape_rightPlaced.f
 have : EvP (fun k => slices_ContainsFunc_45.f k l) (· = decide (∃ b ∈ l, ¬ VP b)) := by
  unfold slices_ContainsFunc_45.f
  refine EvP.bind (PIndex_is l hl hc) (fun r hr => EvP.ret ?_)
  exact decide_eq_decide.mpr hr
 refine EvP.bind this ?_
 rintro _ rfl
 exact EvP.ret rfl
theorem Draw15_l0 {w h : Int} {l : List S35} (s : Sid w h) (hv : ∀ b ∈ l, VP b) (hl : (l.length : Int) ≤ 9223372036854775806) : EvP (fun k => shape_Draw.l0 k l (l.length : Int) 0 w h (tab w h (fun _ _ => 0))) (· = drQ w h l) := by
 have nb : ¬ (¬ Sid w h ∨ ∃ b ∈ l, ¬ VP b) := fun q => q.elim (fun q => q s) (fun ⟨b, hb, q⟩ => q (hv b hb))
 refine EvP.up (L := fun k i (p : List Int) => shape_Draw.l0 k l (l.length : Int) i w h p) (fun i p => 0 ≤ i ∧ p = tab w h (orL (l.take i.toNat)) ∧ ∀ b ∈ l.take i.toNat, NP b) l.length ?_ 0 _ (by omega) ⟨by omega, rfl, fun b hb => by simp at hb⟩
 intro i p ⟨i0, hp, hn⟩ hi ih
 refine EvP.step (fun k => by rw [shape_Draw.l0]) ?_
 refine EvP.ite (fun i1 => ?_) (fun i1 => EvP.ret ?_)
 ·have hm := rd48_mem i0 i1
  have hb := hv _ hm
  have far : ¬ NP (rd_T35 l i) → (0, 0, [], 2) = drQ w h l := fun q => by
   unfold drQ
   rw [if_neg nb, if_pos ⟨_, hm, q⟩]
  refine EvP.pos i0 (EvP.pos i1 (EvP.bindv (near_is _) ?_))
  refine EvP.ite (fun c => ?_) (fun c => EvP.ret (far (fun q => c (decide_eq_true ⟨q.1, q.2.1⟩))))
  have c := of_decide_eq_true c
  refine EvP.bindv (near_is _) ?_
  refine EvP.ite (fun d => ?_) (fun d => EvP.ret (far (fun q => d (decide_eq_true ⟨q.2.2.1, q.2.2.2⟩))))
  have d := of_decide_eq_true d
  have hs : NP (rd_T35 l i) := ⟨c.1, c.2, d.1, d.2⟩
  have vp : Val w h p := by rw [hp]; exact val_tab s (fun u t _ _ _ _ => orL_01 _ u t)
  have lp : (p.length : Int) ≤ 8192 := by rw [vp.2.2.2.2.2.1]; exact vp.2.2.2.2.1
  have lb : ((rd_T35 l i).f0.f2.length : Int) ≤ 8192 := by rw [hb.2.2.2.2.2.1]; exact hb.2.2.2.2.1
  refine EvP.bind (Draw_is w h p _ _ _ _ _ 1 (fun z hz => (val_byt vp z hz).1) (by omega) (fun z hz => (val_byt hb z hz).1) (by omega)) ?_
  rintro _ rfl
  have e : drawR w h p (rd_T35 l i).f0.f0 (rd_T35 l i).f0.f1 (rd_T35 l i).f0.f2 (rd_T35 l i).f1 (rd_T35 l i).f2 1 = (w, h, tab w h (orL (l.take (i + 1).toNat)), 0) := by
   unfold drawR
   rw [if_neg (fun q => q ⟨vp, hb⟩), if_neg (fun q => q.elim (by omega) (fun q => q.elim (by omega) (fun q => q hs))), take48 i0 i1, ← draw_step s hb, hp]
  rw [e, w64 (x := i + 1) (by omega) (by omega)]
  refine ih _ i1 ⟨by omega, rfl, fun b hb => ?_⟩
  rw [take48 i0 i1] at hb
  rcases List.mem_append.mp hb with hb | hb
  ·exact hn b hb
  ·rw [List.mem_singleton.mp hb]; exact hs
 ·have e : l.take i.toNat = l := by rw [show i.toNat = l.length by omega, List.take_length]
  rw [e] at hp hn
  unfold drQ
  rw [if_neg nb, if_neg (fun ⟨b, hb, q⟩ => q (hn b hb)), hp]
theorem Draw15_is (w h : Int) (l : List S35) (hc : ∀ b ∈ l, CP b) (hl : (l.length : Int) ≤ 9223372036854775806) : EvP (fun k => shape_Draw.f k w h l) (· = drQ w h l) := by
 have bad : ¬ Sid w h ∨ (∃ b ∈ l, ¬ VP b) → ∀ x y p, EvP (fun k => shape_Draw.j0 k l true x y p) (· = drQ w h l) := fun q x y p => by
  refine EvP.step (fun k => by rw [shape_Draw.j0]) (EvP.pos rfl (EvP.ret ?_))
  unfold drQ
  rw [if_pos q]
 unfold shape_Draw.f
 refine EvP.bind (New_is w h 0) ?_
 rintro _ rfl
 refine EvP.ite (fun e => ?_) (fun e => bad (.inl (fun s => e ?_)) _ _ _)
 ·have s : Sid w h := by
   refine Classical.not_not.mp (fun q => ?_)
   unfold newR at e
   rw [if_neg q] at e
   split at e <;> exact absurd e (by decide)
  have en := new0 s.1 s.2.1
  rw [if_pos s] at en
  rw [en]
  refine EvP.bind (right_is l (by omega) hc) ?_
  rintro _ rfl
  by_cases q : ∃ b ∈ l, ¬ VP b
  ·rw [decide_eq_true q]
   exact bad (.inr q) _ _ _
  ·rw [decide_eq_false q]
   refine EvP.step (fun k => by rw [shape_Draw.j0]) ?_
   refine EvP.neg (by simp) ?_
   exact Draw15_l0 s (fun b hb => Classical.not_not.mp (fun z => q ⟨b, hb, z⟩)) hl
 ·rw [new0 s.1 s.2.1, if_pos s]
section
open Classical
noncomputable def cov (w h : Int) (p : List Int) (L : List Int) : Int → Int → Prop := fun x y => ∃ r ∈ L, SP w h p r x y
end
section
open Classical
noncomputable def bigL (w h : Int) (p : List Int) (k : Int) (n : Nat) : List Int := (rts w h p n).filter fun r => decide (k < tot w h (ind (SP w h p r)))
noncomputable def spk (w h : Int) (p : List Int) (k : Int) : List Int := tab w h (ind (cov w h p (bigL w h p k (w * h).toNat)))
theorem spk_val {w h k : Int} {p : List Int} (v : Val w h p) : Val w h (spk w h p k) := val_tab v.sid (fun x y _ _ _ _ => ind_01 _ x y)
theorem bigL_mem {w h k : Int} {p : List Int} {n : Nat} {r : Int} : r ∈ bigL w h p k n ↔ (0 ≤ r ∧ r < n ∧ rt w h p r) ∧ k < tot w h (ind (SP w h p r)) := by
 unfold bigL
 rw [List.mem_filter, rts_mem, decide_eq_true_iff]
theorem spk_rd {w h k : Int} {p : List Int} (v : Val w h p) {j : Int} (j0 : 0 ≤ j) (j1 : j < w * h) : rd (spk w h p k) j = 1 ↔ ∃ r ∈ bigL w h p k (w * h).toNat, R8 w h p r j := by
 obtain ⟨_, e1, e2, e3, e4, e5⟩ := flat_of v.1 j0 j1
 unfold spk
 rw [rd_tab _ _ _ _ j0 j1, ind_1]
 constructor
 ·rintro ⟨r, hr, s⟩
  have s2 := s.2
  rw [e5] at s2
  exact ⟨r, hr, s2⟩
 ·rintro ⟨r, hr, s⟩
  exact ⟨r, hr, ⟨e1, e2, e3, e4⟩, by rw [e5]; exact s⟩
theorem spk_blk {w h k : Int} {p : List Int} (v : Val w h p) (j : Int) : blk8 w h (spk w h p k) j ↔ ∃ r ∈ bigL w h p k (w * h).toNat, R8 w h p r j := by
 constructor
 ·rintro ⟨j0, j1, e⟩
  exact (spk_rd v j0 j1).mp e
 ·rintro ⟨r, hr, s⟩
  have c := s.right
  exact ⟨c.1, c.2.1, (spk_rd v c.1 c.2.1).mpr ⟨r, hr, s⟩⟩
theorem spk_sub {w h k : Int} {p : List Int} (v : Val w h p) {j : Int} (b : blk8 w h (spk w h p k) j) : blk8 w h p j := by
 obtain ⟨r, _, s⟩ := (spk_blk v j).mp b
 exact s.right
theorem spk_R8 {w h k : Int} {p : List Int} (v : Val w h p) (i j : Int) : R8 w h (spk w h p k) i j ↔ blk8 w h (spk w h p k) i ∧ R8 w h p i j := by
 constructor
 ·intro s
  refine ⟨s.left, ?_⟩
  induction s with
  | refl c => exact .refl (spk_sub v c)
  | step _ a c ih => exact .step ih a (spk_sub v c)
 ·rintro ⟨b, s⟩
  induction s with
  | refl _ => exact .refl b
  | step s1 a c ih =>
   obtain ⟨r, hr, z⟩ := (spk_blk v _).mp b
   exact .step ih a ((spk_blk v _).mpr ⟨r, hr, z.trans (.step s1 a c)⟩)
theorem spk_SP {w h k : Int} {p : List Int} (v : Val w h p) {i : Int} (b : blk8 w h (spk w h p k) i) : SP w h (spk w h p k) i = SP w h p i := by
 funext x y
 unfold SP
 rw [spk_R8 v]
 exact propext ⟨fun z => ⟨z.1, z.2.2⟩, fun z => ⟨z.1, b, z.2⟩⟩
theorem spk_rt {w h k : Int} {p : List Int} (v : Val w h p) (j : Int) : rt w h (spk w h p k) j ↔ rt w h p j ∧ blk8 w h (spk w h p k) j := by
 constructor
 ·rintro ⟨b, n⟩
  refine ⟨⟨spk_sub v b, fun i i0 i1 s => ?_⟩, b⟩
  exact n i i0 i1 (R8_symm ((spk_R8 v j i).mpr ⟨b, R8_symm s⟩))
 ·rintro ⟨⟨_, n⟩, b⟩
  exact ⟨b, fun i i0 i1 s => n i i0 i1 ((spk_R8 v i j).mp s).2⟩
theorem spk_mem {w h k : Int} {p : List Int} (v : Val w h p) {r : Int} (hr : rt w h p r) : blk8 w h (spk w h p k) r ↔ k < tot w h (ind (SP w h p r)) := by
 rw [spk_blk v]
 constructor
 ·rintro ⟨s, hs, c⟩
  obtain ⟨⟨_, _, t⟩, z⟩ := bigL_mem.mp hs
  rw [← rt_eq t hr c]
  exact z
 ·intro z
  exact ⟨r, bigL_mem.mpr ⟨⟨hr.1.1, by have := hr.1.2.1; omega, hr⟩, z⟩, .refl hr.1⟩
theorem spk_rts {w h k : Int} {p : List Int} (v : Val w h p) : ∀ n : Nat, rts w h (spk w h p k) n = bigL w h p k n
 | 0 => rfl
 | n + 1 => by
  have ih := spk_rts (k := k) v n
  have es : bigL w h p k (n + 1) = (if rt w h p n then rts w h p n ++ [(n : Int)] else rts w h p n).filter fun r => decide (k < tot w h (ind (SP w h p r))) := rfl
  rw [rts_s, ih, es]
  by_cases c : rt w h p n
  ·rw [if_pos c, List.filter_append]
   by_cases q : k < tot w h (ind (SP w h p n))
   ·rw [if_pos ((spk_rt v n).mpr ⟨c, (spk_mem v c).mpr q⟩)]
    simp [bigL, q]
   ·rw [if_neg (fun z => q ((spk_mem v c).mp ((spk_rt v n).mp z).2))]
    simp [bigL, q]
  ·rw [if_neg c, if_neg (fun z => c ((spk_rt v n).mp z).1)]
   rfl
theorem bigL_blk {w h k : Int} {p : List Int} (v : Val w h p) {r : Int} (hr : r ∈ bigL w h p k (w * h).toNat) : blk8 w h (spk w h p k) r := by
 obtain ⟨⟨_, _, t⟩, z⟩ := bigL_mem.mp hr
 exact (spk_mem v t).mpr z
theorem spk_cmpS {w h k : Int} {p : List Int} (v : Val w h p) : cmpS w h (spk w h p k) = (bigL w h p k (w * h).toNat).map (cmpP w h p) := by
 unfold cmpS
 rw [spk_rts v]
 refine List.map_congr_left (fun r hr => ?_)
 unfold cmpP mskL
 rw [spk_SP v (bigL_blk v hr)]
theorem spk_again {w h k : Int} {p : List Int} (v : Val w h p) : spk w h (spk w h p k) k = spk w h p k := by
 have e : bigL w h (spk w h p k) k (w * h).toNat = bigL w h p k (w * h).toNat := by
  have e1 : bigL w h (spk w h p k) k (w * h).toNat = (rts w h (spk w h p k) (w * h).toNat).filter fun r => decide (k < tot w h (ind (SP w h (spk w h p k) r))) := rfl
  rw [e1, spk_rts v]
  refine List.filter_eq_self.mpr (fun r hr => decide_eq_true ?_)
  rw [spk_SP v (bigL_blk v hr)]
  exact (bigL_mem.mp hr).2
 have e2 : cov w h (spk w h p k) (bigL w h p k (w * h).toNat) = cov w h p (bigL w h p k (w * h).toNat) := by
  funext x y
  refine propext ⟨?_, ?_⟩
  ·rintro ⟨r, hr, s⟩
   rw [spk_SP v (bigL_blk v hr)] at s
   exact ⟨r, hr, s⟩
  ·rintro ⟨r, hr, s⟩
   exact ⟨r, hr, by rw [spk_SP v (bigL_blk v hr)]; exact s⟩
 have e3 : spk w h (spk w h p k) k = tab w h (ind (cov w h (spk w h p k) (bigL w h (spk w h p k) k (w * h).toNat))) := rfl
 rw [e3, e, e2]
 rfl
theorem cmp_drawL {w h : Int} {p : List Int} (v : Val w h p) (L : List Int) (hL : ∀ r ∈ L, blk8 w h p r) : drQ w h (L.map (cmpP w h p)) = (w, h, tab w h (ind (cov w h p L)), 0) := by
 have hr : ∀ b ∈ L.map (cmpP w h p), ∃ r, r ∈ L ∧ b = cmpP w h p r ∧ blk8 w h p r := fun b hb => by
  obtain ⟨r, a, rfl⟩ := List.mem_map.mp hb
  exact ⟨r, a, rfl, hL r a⟩
 unfold drQ
 rw [if_neg (by
  rintro (q | ⟨b, hb, q⟩)
  ·exact q v.sid
  ·obtain ⟨r, _, rfl, c⟩ := hr b hb
   exact q (cmp_ok v c).1), if_neg (by
  rintro ⟨b, hb, q⟩
  obtain ⟨r, _, rfl, c⟩ := hr b hb
  exact q (cmp_ok v c).2)]
 have : tab w h (orL (L.map (cmpP w h p))) = tab w h (ind (cov w h p L)) := by
  refine tab_congr v.1 v.2.1 (fun x y x0 x1 y0 y1 => ?_)
  have a := orL_01 (L.map (cmpP w h p)) x y
  have b := ind_01 (cov w h p L) x y
  have c : orL (L.map (cmpP w h p)) x y = 1 ↔ ind (cov w h p L) x y = 1 := by
   rw [ind_1]
   unfold orL
   constructor
   ·intro z
    by_cases q : ((L.map (cmpP w h p)).any fun b => decide (plc b x y = 1)) = true
    ·obtain ⟨b, hb, q⟩ := List.any_eq_true.mp q
     obtain ⟨r, hm, rfl, c⟩ := hr b hb
     rw [plc_cmp v c] at q
     exact ⟨r, hm, ind_1.mp (of_decide_eq_true q)⟩
    ·rw [if_neg q] at z
     omega
   ·rintro ⟨r, hm, s⟩
    rw [if_pos]
    refine List.any_eq_true.mpr ⟨cmpP w h p r, List.mem_map.mpr ⟨r, hm, rfl⟩, decide_eq_true ?_⟩
    rw [plc_cmp v (hL r hm)]
    exact ind_1.mpr s
  omega
 rw [this]
end
theorem count_blk : ∀ l : List Int, (∀ x ∈ l, 0 ≤ x ∧ x ≤ 1) → ((Lib.countByte (Lib.bytesOf l) (1 : Int).toNat.toUInt8 : Nat) : Int) = sm l.length (fun i => rd l i)
 | [], _ => rfl
 | x :: xs, h => by
  have ih := count_blk xs (fun y hy => h y (List.mem_cons_of_mem _ hy))
  have hx := h x (List.mem_cons_self ..)
  have e1 : sm (x :: xs).length (fun i => rd (x :: xs) i) = x + sm xs.length (fun i => rd xs i) := by
   show sm (xs.length + 1) _ = _
   rw [sm_front]
   have e2 : rd (x :: xs) 0 = x := rfl
   rw [e2]
   congr 1
   refine sm_congr (fun i a b => ?_)
   have : (i + 1).toNat = i.toNat + 1 := by omega
   unfold rd
   rw [this]
   rfl
  rw [e1, ← ih]
  have e3 : Lib.countByte (Lib.bytesOf (x :: xs)) (1 : Int).toNat.toUInt8 = Lib.countByte (Lib.bytesOf xs) (1 : Int).toNat.toUInt8 + if (UInt8.ofNat x.toNat == (1 : Int).toNat.toUInt8) = true then 1 else 0 := List.count_cons
  rw [e3]
  rcases (show x = 0 ∨ x = 1 by omega) with rfl | rfl
  ·rw [if_neg (by decide)]
   omega
  ·rw [if_pos (by decide)]
   omega
def cntR (w h : Int) (p : List Int) : Int × Int := if Val w h p then (blk p, 0) else (0, 30)
theorem Count_is (w h : Int) (p : List Int) (hp : ∀ x ∈ p, 0 ≤ x) (hl : (p.length : Int) ≤ 9223372036854775807) : EvP (fun k => bitmap_Count.f k w h p) (· = cntR w h p) := by
 unfold bitmap_Count.f cntR
 refine EvP.bind (Valid_is w h p hp hl) ?_
 rintro _ rfl
 refine EvP.ite (fun q => ?_) (fun q => EvP.ret (by rw [if_neg (by simpa using q)]))
 have v : Val w h p := by simpa using q
 rw [if_pos v]
 have e : bytes_Count.f p [1] = some (blk p) := by
  unfold bytes_Count.f
  rw [if_pos (show ([1] : List Int).length = 1 from rfl)]
  exact congrArg some (count_blk p v.2.2.2.2.2.2)
 exact EvP.bindv e (EvP.ret rfl)
section
open Classical
theorem rd48_set {l : List S35} {v : S35} {i t : Int} (i0 : 0 ≤ i) (i1 : i < (l.length : Int)) (t0 : 0 ≤ t) : rd_T35 (l.set i.toNat v) t = if t = i then v else rd_T35 l t := by
 have hi : i.toNat < l.length := by omega
 unfold rd_T35
 simp only [List.getD, List.getElem?_set]
 by_cases e : t = i
 ·subst e
  simp [hi]
 ·have : ¬ i.toNat = t.toNat := by omega
  simp [this, e]
def bigC (k : Int) (c : S35) : Bool := decide (k < blk c.f0.f2)
theorem gone_is (c : S35) (k : Int) (v : VP c) : EvP (fun n => scan_Despeckle_1.f n c.f0.f0 c.f0.f1 c.f0.f2 c.f1 c.f2 k) (· = !bigC k c) := by
 have lq : (c.f0.f2.length : Int) ≤ 8192 := by have := v.2.2.2.2.2.1; have := v.2.2.2.2.1; omega
 have v' : Val c.f0.f0 c.f0.f1 c.f0.f2 := v
 unfold scan_Despeckle_1.f
 refine EvP.bind (Count_is _ _ c.f0.f2 (fun z hz => (val_byt v' z hz).1) (by omega)) ?_
 rintro _ rfl
 refine EvP.ret ?_
 unfold cntR bigC
 rw [if_pos v']
 by_cases q : blk c.f0.f2 ≤ k
 ·rw [decide_eq_true q, decide_eq_false (by omega)]
  rfl
 ·rw [decide_eq_false q, decide_eq_true (by omega)]
  rfl
theorem index_is (l : List S35) (k : Int) (hl : (l.length : Int) ≤ 1000000) (hv : ∀ c ∈ l, VP c) : EvP (fun n => slices_IndexFunc_15.f n l k) (fun r => (r = -1 ∧ ∀ c ∈ l, bigC k c = true) ∨ (0 ≤ r ∧ r < (l.length : Int) ∧ (∀ c ∈ l.take r.toNat, bigC k c = true) ∧ bigC k (rd_T35 l r) = false)) := by
 unfold slices_IndexFunc_15.f
 refine EvP.up (L := fun n i (_ : Unit) => slices_IndexFunc_15.l0 n l (l.length : Int) i k) (fun i _ => 0 ≤ i ∧ ∀ c ∈ l.take i.toNat, bigC k c = true) l.length ?_ 0 () (by omega) ⟨by omega, fun c hc => by simp at hc⟩
 rintro i _ ⟨i0, hb⟩ hi ih
 refine EvP.step (fun n => by rw [slices_IndexFunc_15.l0]) ?_
 refine EvP.ite (fun i1 => ?_) (fun i1 => EvP.ret ?_)
 ·refine EvP.pos i0 (EvP.pos i1 (EvP.bind (gone_is _ k (hv _ (rd48_mem i0 i1))) ?_))
  rintro _ rfl
  refine EvP.ite (fun c => EvP.ret (.inr ⟨i0, i1, hb, by simpa using c⟩)) (fun c => ?_)
  rw [w64 (x := i + 1) (by omega) (by omega)]
  refine ih () i1 ⟨by omega, fun d hd => ?_⟩
  rw [take48 i0 i1] at hd
  rcases List.mem_append.mp hd with hd | hd
  ·exact hb d hd
  ·rw [List.mem_singleton.mp hd]
   simpa using c
 ·rw [show i.toNat = l.length by omega, List.take_length] at hb
  exact .inl ⟨rfl, hb⟩
theorem delete_is (l : List S35) (k : Int) (hl : (l.length : Int) ≤ 1000000) (hv : ∀ c ∈ l, VP c) : EvP (fun n => slices_DeleteFunc_15.f n l k) (· = l.filter (bigC k)) := by
 unfold slices_DeleteFunc_15.f
 refine EvP.bind (index_is l k hl hv) ?_
 rintro r (⟨rfl, hb⟩ | ⟨r0, r1, hb, hr⟩)
 ·exact EvP.pos rfl (EvP.ret (List.filter_eq_self.mpr hb).symm)
 ·refine EvP.neg (by omega) ?_
  rw [w64 (x := r + 1) (by omega) (by omega)]
  refine EvP.up (L := fun n j (s : List S35 × Int) => slices_DeleteFunc_15.l0 n s.1 s.2 j k) (fun j s => s.1.length = l.length ∧ 0 ≤ s.2 ∧ s.2 < j ∧ (∀ t, j ≤ t → rd_T35 s.1 t = rd_T35 l t) ∧ s.1.take s.2.toNat = (l.take j.toNat).filter (bigC k)) l.length ?_ (r + 1) (l, r) (by omega) ⟨rfl, r0, by omega, fun _ _ => rfl, ?_⟩
  ·rintro j ⟨xs, i⟩ ⟨hx, i0, ij, ht, hf⟩ hj ih
   dsimp only at hx i0 ij ht hf
   refine EvP.step (fun n => by rw [slices_DeleteFunc_15.l0]) ?_
   rw [hx]
   refine EvP.ite (fun j1 => ?_) (fun j1 => ?_)
   ·refine EvP.pos (by omega) ?_
    rw [ht j (Int.le_refl j)]
    refine EvP.bind (gone_is _ k (hv _ (rd48_mem (by omega) j1))) ?_
    rintro _ rfl
    rw [w64 (x := j + 1) (by omega) (by omega)]
    refine EvP.ite (fun c => ?_) (fun c => ?_)
    ·have c : bigC k (rd_T35 l j) = false := by simpa using c
     refine ih (xs, i) j1 ⟨hx, i0, by omega, fun t h => ht t (by omega), ?_⟩
     dsimp only
     rw [take48 (by omega) j1, List.filter_append, hf]
     simp [c]
    ·have c : bigC k (rd_T35 l j) = true := by simpa using c
     refine EvP.pos i0 (EvP.pos (by omega) ?_)
     rw [w64 (x := i + 1) (by omega) (by omega)]
     refine ih (xs.set i.toNat (rd_T35 l j), i + 1) j1 ⟨by rw [List.length_set]; exact hx, by omega, by omega, fun t h => ?_, ?_⟩
     ·dsimp only
      rw [rd48_set i0 (by omega) (by omega), if_neg (by omega)]
      exact ht t (by omega)
     ·dsimp only
      rw [take48 i0 (by rw [List.length_set]; omega), rd48_set i0 (by omega) i0, if_pos rfl, List.take_set, List.set_eq_of_length_le (by rw [List.length_take]; omega), hf, take48 (by omega) j1, List.filter_append]
      simp [c]
   ·refine EvP.pos i0 (EvP.pos (by omega) (EvP.ret ?_))
    rw [hf, show j.toNat = l.length by omega, List.take_length]
  ·dsimp only
   rw [take48 r0 r1, List.filter_append, List.filter_eq_self.mpr hb]
   simp [hr]
noncomputable def spkR (w h : Int) (p : List Int) (k : Int) : Int × Int × List Int × Int := if Val w h p then (if k < 0 then (0, 0, [], 2) else (w, h, spk w h p k, 0)) else (0, 0, [], 30)
theorem cmp_filter {w h k : Int} {p : List Int} (v : Val w h p) : (cmpS w h p).filter (bigC k) = (bigL w h p k (w * h).toNat).map (cmpP w h p) := by
 unfold cmpS bigL
 rw [List.filter_map]
 refine congrArg _ (List.filter_congr (fun r hr => ?_))
 have c := ((rts_mem r _).mp hr).2.2.1
 show decide (k < blk (cmpP w h p r).f0.f2) = _
 rw [cmp_blk v c]
theorem Despeckle_is (w h : Int) (p : List Int) (k : Int) (hp : ∀ x ∈ p, 0 ≤ x) (hl : (p.length : Int) ≤ 9223372036854775807) : EvP (fun n => scan_Despeckle.f n w h p k) (· = spkR w h p k) := by
 unfold scan_Despeckle.f spkR
 refine EvP.bind (Components_is w h p hp hl) ?_
 rintro _ rfl
 unfold cmpR
 by_cases v : Val w h p
 ·rw [if_pos v, if_pos v]
  refine EvP.pos rfl ?_
  by_cases c : k < 0
  ·rw [if_pos c]
   exact EvP.pos c (EvP.ret rfl)
  ·rw [if_neg c]
   refine EvP.neg c ?_
   obtain ⟨hw, hh, hw2, hh2, hm, hl2, _⟩ := id v
   have cb := rts_len w h p (w * h).toNat
   have lc : (cmpS w h p).length = (rts w h p (w * h).toNat).length := by unfold cmpS; rw [List.length_map]
   have h00 : 0 ≤ w * h := Int.mul_nonneg hw hh
   refine EvP.bind (delete_is (cmpS w h p) k (by rw [lc]; omega) (fun b hb => ?_)) ?_
   ·obtain ⟨r, a, rfl⟩ := List.mem_map.mp hb
    exact (cmp_ok v ((rts_mem r _).mp a).2.2.1).1
   rintro _ rfl
   rw [cmp_filter v]
   have hB : ∀ r ∈ bigL w h p k (w * h).toNat, blk8 w h p r := fun r hr => (bigL_mem.mp hr).1.2.2.1
   have lb : (bigL w h p k (w * h).toNat).length ≤ (rts w h p (w * h).toNat).length := List.length_filter_le _ _
   refine EvP.bind (Draw15_is w h _ (fun b hb => ?_) (by rw [List.length_map]; omega)) ?_
   ·obtain ⟨r, a, rfl⟩ := List.mem_map.mp hb
    have vc : VP (cmpP w h p r) := (cmp_ok v (hB r a)).1
    exact ⟨fun z hz => (val_byt vc z hz).1, by have := vc.2.2.2.2.2.1; have := vc.2.2.2.2.1; omega⟩
   rintro _ rfl
   rw [cmp_drawL v _ hB]
   exact EvP.ret rfl
 ·rw [if_neg v, if_neg v]
  exact EvP.neg (by simp) (EvP.ret rfl)
end
section
open Classical
theorem ix_lt {w h : Int} {p : List Int} {s : Int} (a : rt w h p s) (hs : s < w * h) : (rts w h p s.toNat).length < (rts w h p (w * h).toNat).length := by
 have r0 := a.1.1
 have e := rts_mono (w := w) (h := h) (p := p) (a := s.toNat + 1) ((w * h).toNat - (s.toNat + 1))
 rw [show s.toNat + 1 + ((w * h).toNat - (s.toNat + 1)) = (w * h).toNat by omega, rts_s, if_pos (by rw [show ((s.toNat : Nat) : Int) = s by omega]; exact a), List.length_append] at e
 simp at e
 omega
theorem refDespeckle_is (w h : Int) (p : List Int) (k : Int) (hp : ∀ x ∈ p, 0 ≤ x) (hl : (p.length : Int) ≤ 1000000) : EvP (fun n => incunableref29_Despeckle.f n w h p k) (· = spkR w h p k) := by
 unfold incunableref29_Despeckle.f spkR
 refine EvP.bind (refValid_is w h p hp (by omega)) ?_
 rintro _ rfl
 by_cases v : Val w h p
 ·rw [if_pos v, decide_eq_true v]
  refine EvP.pos rfl ?_
  by_cases c : k < 0
  ·rw [if_pos c]
   exact EvP.pos c (EvP.ret rfl)
  rw [if_neg c]
  refine EvP.neg c ?_
  obtain ⟨hw, hh, hw2, hh2, hm, hl2, h01⟩ := id v
  refine EvP.bind (Marks_is v) ?_
  rintro ⟨m, n⟩ ⟨e1, e2, e3, e4⟩
  dsimp only at e1 e2 e3 e4 ⊢
  subst e1
  have h00 : 0 ≤ w * h := Int.mul_nonneg hw hh
  have cb := rts_len w h p (w * h).toNat
  have mk : ∀ j, 0 ≤ j → j < w * h → (rd m j = 0 ∧ rd p j ≠ 1) ∨ ∃ s, rt w h p s ∧ s < w * h ∧ R8 w h p s j ∧ rd m j = ((rts w h p s.toNat).length : Int) + 1 ∧ rd p j = 1 := fun j j0 j1 => by
   by_cases z : rd m j = 0
   ·exact .inl ⟨z, fun y => (e3 j j0 j1).mpr ⟨j, j0, j1, .refl ⟨j0, j1, y⟩⟩ z⟩
   ·obtain ⟨i, i0, i1, r⟩ := (e3 j j0 j1).mp z
    obtain ⟨s, s0, s1, s2, s3⟩ := rt_of (i.toNat + 1) i j (by omega) r
    exact .inr ⟨s, s2, by omega, s3, e4 s j s2 (by omega) s3, s3.right.2.2⟩
  have mb : ∀ j, 0 ≤ j → j < w * h → 0 ≤ rd m j ∧ rd m j ≤ ((rts w h p (w * h).toNat).length : Int) := fun j j0 j1 => by
   rcases mk j j0 j1 with ⟨z, _⟩ | ⟨s, s1, s2, _, z, _⟩
   ·omega
   ·have := ix_lt s1 s2
    omega
  rw [w64 (x := ((rts w h p (w * h).toNat).length : Int) + 1) (by omega) (by omega)]
  refine EvP.pos (by omega) (EvP.pos (by omega) ?_)
  have eN : (((rts w h p (w * h).toNat).length : Int) + 1).toNat = (rts w h p (w * h).toNat).length + 1 := by omega
  rw [eN]
  refine EvP.up (L := fun n i (s : List Int) => incunableref29_Despeckle.l0 n k m s i w h p) (fun i s => 0 ≤ i ∧ s.length = (rts w h p (w * h).toNat).length + 1 ∧ ∀ c, 0 ≤ c → c ≤ ((rts w h p (w * h).toNat).length : Int) → rd s c = sm i.toNat (fun t => if rd m t = c then 1 else 0)) m.length ?_ 0 _ (by omega) ⟨by omega, List.length_replicate, fun c c0 c1 => rd_replicate _ _ _ c0 (by omega)⟩
  rintro i s ⟨i0, hs, hc⟩ hi ih
  refine EvP.step (fun n => by rw [incunableref29_Despeckle.l0]) ?_
  refine EvP.ite (fun i1 => ?_) (fun i1 => ?_)
  ·obtain ⟨b0, b1⟩ := mb i i0 (by omega)
   refine EvP.pos i0 (EvP.pos b0 (EvP.pos (by omega) ?_))
   have hsm := sm_bound (n := i.toNat) (f := fun t => if rd m t = rd m i then 1 else 0) (c := 1) (by omega) (fun t _ _ => by split <;> omega)
   rw [hc _ b0 b1, w64 (x := sm i.toNat (fun t => if rd m t = rd m i then 1 else 0) + 1) (by omega) (by omega), w64 (x := i + 1) (by omega) (by omega)]
   refine ih _ i1 ⟨by omega, by rw [List.length_set]; exact hs, fun c c0 c1 => ?_⟩
   rw [rd_set _ _ _ _ b0 (by omega) c0, show (i + 1).toNat = i.toNat + 1 by omega, sm_s, show ((i.toNat : Nat) : Int) = i by omega]
   by_cases z : c = rd m i
   ·subst z
    rw [if_pos rfl, if_pos rfl]
   ·rw [if_neg z, if_neg (fun y => z y.symm), hc c c0 c1]
    omega
  ·refine EvP.bindv (Copy_is w h p (by omega)) ?_
   have eM : i.toNat = (w * h).toNat := by omega
   have cnt : ∀ t, rt w h p t → t < w * h → rd s (((rts w h p t.toNat).length : Int) + 1) = tot w h (ind (SP w h p t)) := fun t ht t1 => by
    have := ix_lt ht t1
    rw [hc _ (by omega) (by omega), ← sm_tab hw hh (ind (SP w h p t)), tab_length, eM]
    refine sm_congr (fun j j0 j1 => ?_)
    have j1 : j < w * h := by omega
    obtain ⟨_, f1, f2, f3, f4, f5⟩ := flat_of hw j0 j1
    rw [rd_tab _ _ _ _ j0 j1]
    by_cases q : R8 w h p t j
    ·rw [if_pos (e4 t j ht t1 q)]
     exact (ind_1.mpr ⟨⟨f1, f2, f3, f4⟩, by rw [f5]; exact q⟩).symm
    ·have a := ind_01 (SP w h p t) (j % w) (j / w)
     have b : ¬ ind (SP w h p t) (j % w) (j / w) = 1 := fun z => q (by have := (ind_1.mp z).2; rw [f5] at this; exact this)
     rw [if_neg]
     ·omega
     ·intro z
      rcases mk j j0 j1 with ⟨y, _⟩ | ⟨s', s1, s2, s3, y, _⟩
      ·omega
      ·have e6 : s' = t := rts_inj s1 ht (by omega)
       rw [e6] at s3
       exact q s3
   have key : ∀ j, 0 ≤ j → j < w * h → (rd m j > 0 → rd s (rd m j) ≤ k → rd (spk w h p k) j = 0) ∧ ((rd m j > 0 → ¬ rd s (rd m j) ≤ k) → rd (spk w h p k) j = rd p j) := fun j j0 j1 => by
    have sv := spk_val (k := k) v
    have s01 := sv.2.2.2.2.2.2 _ (rd_mem (l := spk w h p k) j0 (by have := sv.2.2.2.2.2.1; omega))
    have p01 := h01 _ (rd_mem (l := p) j0 (by omega))
    have sj := spk_rd (k := k) v j0 j1
    rcases mk j j0 j1 with ⟨y, pj⟩ | ⟨t, t1, t2, t3, y, pj⟩
    ·refine ⟨fun a => by omega, fun _ => ?_⟩
     have : ¬ rd (spk w h p k) j = 1 := fun z => by
      obtain ⟨r, _, c⟩ := sj.mp z
      exact pj c.right.2.2
     omega
    ·rw [y, cnt t t1 t2]
     have one : rd (spk w h p k) j = 1 ↔ k < tot w h (ind (SP w h p t)) := by
      rw [sj]
      constructor
      ·rintro ⟨r, hr, c⟩
       obtain ⟨⟨_, _, a⟩, b⟩ := bigL_mem.mp hr
       rw [← rt_eq a t1 (c.trans (R8_symm t3))]
       exact b
      ·intro z
       exact ⟨t, bigL_mem.mpr ⟨⟨t1.1.1, by omega, t1⟩, z⟩, t3⟩
     constructor
     ·intro _ z
      have : ¬ rd (spk w h p k) j = 1 := fun y => by have := one.mp y; omega
      omega
     ·intro z
      have := z (by omega)
      rw [one.mpr (by omega), pj]
   refine EvP.up (L := fun n j (q : List Int) => incunableref29_Despeckle.l1 n k m s j w h q) (fun j q => 0 ≤ j ∧ q.length = p.length ∧ (∀ x, 0 ≤ x → x < j → rd q x = rd (spk w h p k) x) ∧ ∀ x, j ≤ x → rd q x = rd p x) m.length ?_ 0 p (by omega) ⟨by omega, rfl, fun x a b => by omega, fun _ _ => rfl⟩
   intro j q ⟨j0, hq, h1, h2⟩ hj ih2
   refine EvP.step (fun n => by rw [incunableref29_Despeckle.l1]) ?_
   refine EvP.ite (fun j1 => ?_) (fun j1 => EvP.ret ?_)
   ·obtain ⟨k1, k2⟩ := key j j0 (by omega)
    obtain ⟨b0, b1⟩ := mb j j0 (by omega)
    have stay : rd (spk w h p k) j = rd p j → EvP (fun n => incunableref29_Despeckle.l1 n k m s (j + 1) w h q) (· = (w, h, spk w h p k, 0)) := fun e => by
     refine ih2 q j1 ⟨by omega, hq, fun x x0 x1 => ?_, fun x hx => h2 x (by omega)⟩
     by_cases z : x = j
     ·rw [z, h2 j (by omega), e]
     ·exact h1 x x0 (by omega)
    refine EvP.pos j0 ?_
    rw [w64 (x := j + 1) (by omega) (by omega)]
    refine EvP.ite (fun a => EvP.pos b0 (EvP.pos (by omega) ?_)) (fun a => stay (k2 (fun z => absurd z a)))
    refine EvP.ite (fun b => EvP.pos (by omega) ?_) (fun b => stay (k2 (fun _ => b)))
    refine ih2 (q.set j.toNat 0) j1 ⟨by omega, by rw [List.length_set, hq], fun x x0 x1 => ?_, fun x hx => ?_⟩
    ·rw [rd_set _ _ _ _ j0 (by omega) x0]
     by_cases z : x = j
     ·rw [if_pos z, z, k1 a b]
     ·rw [if_neg z]
      exact h1 x x0 (by omega)
    ·rw [rd_set _ _ _ _ j0 (by omega) (by omega), if_neg (by omega)]
     exact h2 x (by omega)
   ·have sv := (spk_val (k := k) v).2.2.2.2.2.1
    have eq : q = spk w h p k := rd_ext (by omega) (fun x x0 x1 => h1 x x0 (by omega))
    rw [eq]
 ·rw [if_neg v, decide_eq_false v]
  exact EvP.neg (by simp) (EvP.ret rfl)
end
theorem qm {q n : Int} (hn : 0 < n) (hn' : n ≤ 4000000000000000000) (h0 : -9223372036854775808 ≤ q) (h1 : q ≤ 9223372036854775807) : Int.tmod (wrap64 (Int.tmod q n + n)) n = q % n := by
 rcases Int.lt_or_le q 0 with h | h
 ·have e : Int.tmod q n = -((-q) % n) := by
   rw [show q = -(-q) by omega, Int.neg_tmod, tmod_pos (by omega)]
   simp
  have r0 := Int.emod_nonneg (-q) (show n ≠ 0 by omega)
  have r1 := Int.emod_lt_of_pos (-q) hn
  rw [e, w64 (by omega) (by omega), tmod_pos (by omega)]
  have e2 := Int.emod_add_mul_ediv (-q) n
  have e3 : -(-q % n) + n = q + n * (1 + -q / n) := by rw [Int.mul_add]; omega
  rw [e3, Int.add_mul_emod_self_left]
 ·have r0 := Int.emod_nonneg q (show n ≠ 0 by omega)
  have r1 := Int.emod_lt_of_pos q hn
  rw [tmod_pos h, w64 (by omega) (by omega), tmod_pos (by omega), Int.add_emod_right, Int.emod_emod_of_dvd _ (Int.dvd_refl n)]
def stc (x : Int) : Int := (x * 48271) % 2147483647
def itc : Nat → Int → Int
 | 0, x => x
 | n + 1, x => stc (itc n x)
def bgn (s : Int) : Int := if s % 2147483647 = 0 then 1 else s % 2147483647
def chl (n : Nat) (s : Int) : List Int := lmap n (fun i => itc (i.toNat + 1) (bgn s))
theorem bgn_in (s : Int) : 0 ≤ bgn s ∧ bgn s ≤ 2147483646 := by
 unfold bgn
 split <;> omega
theorem stc_in (x : Int) : 0 ≤ stc x ∧ stc x ≤ 2147483646 := by
 unfold stc
 omega
theorem itc_in (n : Nat) {x : Int} (h0 : 0 ≤ x) (h1 : x ≤ 2147483646) : 0 ≤ itc n x ∧ itc n x ≤ 2147483646 := by
 cases n with
 | zero => exact ⟨h0, h1⟩
 | succ n => exact stc_in _
theorem stc_is {x : Int} (h0 : 0 ≤ x) (h1 : x ≤ 2147483646) : Int.tmod (wrap64 (x * 48271)) 2147483647 = stc x := by
 rw [w64 (by omega) (by omega), tmod_pos (by omega)]
 rfl
theorem lmap_snoc (n : Nat) (f : Int → Int) : lmap (n + 1) f = lmap n f ++ [f n] := by
 unfold lmap
 rw [List.range_succ, List.map_append]
 rfl
theorem begin_is (s : Int) (h0 : -9223372036854775808 ≤ s) (h1 : s ≤ 9223372036854775807) : scan_begin.f s = some (bgn s) := by
 unfold scan_begin.f bgn
 rw [qm (by omega) (by omega) h0 h1]
 split <;> rfl
theorem next_is {x : Int} (h0 : 0 ≤ x) (h1 : x ≤ 2147483646) : scan_chance_next.f x = some (stc x, stc x) := by
 unfold scan_chance_next.f
 rw [stc_is h0 h1]
def chanceR (s n : Int) : List Int × Int := if n < 0 ∨ n > 8192 then ([], 2) else (chl n.toNat s, 0)
theorem Chance_j0 (s n : Int) (h0 : -9223372036854775808 ≤ s) (h1 : s ≤ 9223372036854775807) (b : Bool) (hb : b = true ↔ (n < 0 ∨ n > 8192)) : EvP (fun k => scan_Chance.j0 k s n b) (· = chanceR s n) := by
 unfold chanceR
 refine EvP.step (fun k => by rw [scan_Chance.j0]) ?_
 refine EvP.ite (fun a => EvP.ret (by rw [if_pos (hb.mp a)])) (fun a => ?_)
 have a : ¬ (n < 0 ∨ n > 8192) := fun x => a (hb.mpr x)
 rw [if_neg a]
 refine EvP.bindv (begin_is s h0 h1) ?_
 have b0 := bgn_in s
 refine EvP.up (L := fun k i (x : List Int × Int) => scan_Chance.l0 k x.1 n i x.2) (fun i x => 0 ≤ i ∧ x = (chl i.toNat s, itc i.toNat (bgn s))) n ?_ 0 ([], bgn s) (by omega) ⟨by omega, rfl⟩
 intro i x ⟨i0, hx⟩ hi ih
 subst hx
 refine EvP.step (fun k => by rw [scan_Chance.l0]) ?_
 refine EvP.ite (fun c => ?_) (fun c => ?_)
 ·have bi := itc_in i.toNat b0.1 b0.2
  refine EvP.bindv (next_is bi.1 bi.2) ?_
  refine EvP.pos (by show (chl i.toNat s).length < _; unfold chl; rw [lmap_length]; omega) ?_
  rw [w64 (x := i + 1) (by omega) (by omega)]
  refine ih (chl i.toNat s ++ [stc (itc i.toNat (bgn s))], stc (itc i.toNat (bgn s))) c ⟨by omega, ?_⟩
  rw [show (i + 1).toNat = i.toNat + 1 by omega]
  unfold chl
  rw [lmap_snoc]
  rfl
 ·have : i = n := by omega
  subst this
  exact EvP.ret rfl
theorem Chance_is (s n : Int) (h0 : -9223372036854775808 ≤ s) (h1 : s ≤ 9223372036854775807) : EvP (fun k => scan_Chance.f k s n) (· = chanceR s n) := by
 unfold scan_Chance.f
 exact EvP.ite (fun a => Chance_j0 s n h0 h1 true (by simp [a])) (fun a => Chance_j0 s n h0 h1 _ (by simp; omega))
theorem SameInts_self (l : List Int) (hl : (l.length : Int) ≤ 9223372036854775806) : EvP (fun k => incunableref01_SameInts.f k l l) (· = true) := by
 unfold incunableref01_SameInts.f
 refine EvP.pos rfl ?_
 refine EvP.up (L := fun k i (_ : Unit) => incunableref01_SameInts.l0 k l l i) (fun i _ => 0 ≤ i) l.length ?_ 0 () (by omega) (by omega)
 intro i _ i0 hi ih
 refine EvP.step (fun k => by rw [incunableref01_SameInts.l0]) ?_
 refine EvP.ite (fun c => ?_) (fun c => EvP.ret rfl)
 refine EvP.pos i0 (EvP.pos c (EvP.pos rfl ?_))
 rw [w64 (x := i + 1) (by omega) (by omega)]
 exact ih () c (by omega)
theorem Sane29_is : EvP (fun k => incunablelaw29_Sane.f k) (· = true) := by
 unfold incunablelaw29_Sane.f
 refine EvP.bind (Chance_is 1 2 (by omega) (by omega)) ?_
 rintro _ rfl
 have e : chanceR 1 2 = ([48271, 182605794], 0) := by decide +kernel
 rw [e]
 refine EvP.pos rfl ?_
 refine EvP.bind (SameInts_self _ (by simp)) ?_
 rintro _ rfl
 exact EvP.ret rfl
theorem Blacks_is (w h : Int) (p : List Int) (hp : Byt p) (hl : (p.length : Int) ≤ 1000000000) : EvP (fun k => incunableref05_Blacks.f k w h p) (· = blk p) := by
 unfold incunableref05_Blacks.f
 refine EvP.up (L := fun k i (s : Int) => incunableref05_Blacks.l0 k s i w h p) (fun i s => 0 ≤ i ∧ s = sm i.toNat (fun j => rd p j)) p.length ?_ 0 0 (by omega) ⟨by omega, rfl⟩
 intro i s ⟨h0, hs⟩ hi ih
 refine EvP.step (fun k => by rw [incunableref05_Blacks.l0]) ?_
 refine EvP.ite (fun h1 => ?_) (fun h1 => ?_)
 ·refine EvP.pos h0 ?_
  have hb := hp _ (rd_mem h0 h1)
  have hsm := sm_bound (n := i.toNat) (f := fun j => rd p j) (c := 255) (by omega) (fun j a b => hp _ (rd_mem a (by omega)))
  rw [w64 (x := rd p i) (by omega) (by omega), w64 (x := s + rd p i) (by omega) (by omega), w64 (x := i + 1) (by omega) (by omega)]
  refine ih _ h1 ⟨by omega, ?_⟩
  rw [hs, show (i + 1).toNat = i.toNat + 1 by omega, sm_s, show ((i.toNat : Nat) : Int) = i by omega]
 ·refine EvP.ret ?_
  have : i.toNat = p.length := by omega
  rw [hs, this]
  rfl
theorem SameP_self (l : List S35) (hl : (l.length : Int) ≤ 1000000) (hb : ∀ b ∈ l, Byt b.f0.f2) : EvP (fun k => incunableref15_SamePlaced.f k l l) (· = true) := by
 unfold incunableref15_SamePlaced.f
 refine EvP.pos rfl ?_
 refine EvP.up (L := fun k i (_ : Unit) => incunableref15_SamePlaced.l0 k l l i) (fun i _ => 0 ≤ i) l.length ?_ 0 () (by omega) (by omega)
 intro i _ i0 hi ih
 refine EvP.step (fun k => by rw [incunableref15_SamePlaced.l0]) ?_
 refine EvP.ite (fun i1 => ?_) (fun i1 => EvP.ret rfl)
 have hm := hb _ (rd48_mem i0 i1)
 refine EvP.pos i0 (EvP.pos i1 (EvP.pos rfl (EvP.pos rfl ?_)))
 refine EvP.bindv (refSame_is _ _ _ _ _ _ hm hm) ?_
 refine EvP.pos (by simp) ?_
 rw [w64 (x := i + 1) (by omega) (by omega)]
 exact ih () i1 (by omega)
section
open Classical
theorem specks_l0 {w h k : Int} {p : List Int} (v : Val w h p) : EvP (fun n => incunablelaw29_ScanSpecks.l0 n k (cmpS w h p) (cmpS w h (spk w h p k)) [] 0) (· = true) := by
 obtain ⟨hw, hh, hw2, hh2, hm, hl2, _⟩ := id v
 have cb := rts_len w h p (w * h).toNat
 have lc : (cmpS w h p).length = (rts w h p (w * h).toNat).length := by unfold cmpS; rw [List.length_map]
 have h00 : 0 ≤ w * h := Int.mul_nonneg hw hh
 have hv : ∀ b ∈ cmpS w h p, VP b := fun b hb => by
  obtain ⟨r, a, rfl⟩ := List.mem_map.mp hb
  exact (cmp_ok v ((rts_mem r _).mp a).2.2.1).1
 refine EvP.up (L := fun n i (s : List S35) => incunablelaw29_ScanSpecks.l0 n k (cmpS w h p) (cmpS w h (spk w h p k)) s i) (fun i s => 0 ≤ i ∧ s = ((cmpS w h p).take i.toNat).filter (bigC k)) (cmpS w h p).length ?_ 0 [] (by omega) ⟨by omega, rfl⟩
 rintro i s ⟨i0, hs⟩ hi ih
 refine EvP.step (fun n => by rw [incunablelaw29_ScanSpecks.l0]) ?_
 refine EvP.ite (fun i1 => ?_) (fun i1 => ?_)
 ·have vc := hv _ (rd48_mem i0 i1)
  have v' : Val (rd_T35 (cmpS w h p) i).f0.f0 (rd_T35 (cmpS w h p) i).f0.f1 (rd_T35 (cmpS w h p) i).f0.f2 := vc
  have lq : ((rd_T35 (cmpS w h p) i).f0.f2.length : Int) ≤ 8192 := by have := vc.2.2.2.2.2.1; have := vc.2.2.2.2.1; omega
  refine EvP.pos i0 (EvP.bind (Blacks_is _ _ _ (val_byt v') (by omega)) ?_)
  rintro _ rfl
  rw [w64 (x := i + 1) (by omega) (by omega)]
  refine EvP.ite (fun c => ?_) (fun c => ?_)
  ·have ls : s.length ≤ (cmpS w h p).length := by
    rw [hs]
    refine Nat.le_trans (List.length_filter_le _ _) ?_
    rw [List.length_take]
    omega
   refine EvP.pos (by omega) (ih _ i1 ⟨by omega, ?_⟩)
   rw [take48 i0 i1, List.filter_append, hs]
   have e : bigC k (rd_T35 (cmpS w h p) i) = true := decide_eq_true c
   simp [e]
  ·refine ih s i1 ⟨by omega, ?_⟩
   rw [take48 i0 i1, List.filter_append, hs]
   have e : bigC k (rd_T35 (cmpS w h p) i) = false := decide_eq_false c
   simp [e]
 ·rw [hs, show i.toNat = (cmpS w h p).length by omega, List.take_length, cmp_filter v, ← spk_cmpS v]
  have hb : ∀ b ∈ cmpS w h (spk w h p k), Byt b.f0.f2 := fun b hb => by
   obtain ⟨r, a, rfl⟩ := List.mem_map.mp hb
   exact val_byt (cmp_ok (spk_val v) ((rts_mem r _).mp a).2.2.1).1
  have lb := rts_len w h (spk w h p k) (w * h).toNat
  refine EvP.bind (SameP_self _ (by unfold cmpS; rw [List.length_map]; omega) hb) ?_
  rintro _ rfl
  refine EvP.pos rfl (EvP.bind Sane29_is ?_)
  rintro _ rfl
  exact EvP.ret rfl
theorem ScanSpecks : incunablelaw29_ScanSpecks.Pure := by
 intro w h p k _ _ hp _
 have hb := wf_byt hp.2.2
 have hb0 : ∀ z ∈ p, 0 ≤ z := fun z hz => (hb z hz).1
 have sane : EvP (fun n => (incunablelaw29_Sane.f n).bind fun t => some t) (· = true) := by
  refine EvP.bind Sane29_is ?_
  rintro _ rfl
  exact EvP.ret rfl
 refine EvP.rounds ?_
 unfold incunablelaw29_ScanSpecks.f
 refine EvP.ite (fun _ => sane) (fun a => ?_)
 refine EvP.bind (Despeckle_is w h p k hb0 (by omega)) ?_
 rintro _ rfl
 refine EvP.bind (refDespeckle_is w h p k hb0 (by omega)) ?_
 rintro _ rfl
 refine EvP.pos rfl ?_
 have hB : Byt (spkR w h p k).2.2.1 := by
  unfold spkR
  split
  ·rename_i v
   split
   ·intro x hx; cases hx
   ·exact val_byt (spk_val v)
  ·intro x hx; cases hx
 refine EvP.bindv (refSame_is _ _ _ _ _ _ hB hB) ?_
 refine EvP.step (fun n => by rw [incunablelaw29_ScanSpecks.j0]) ?_
 refine EvP.neg (by simp) ?_
 unfold spkR
 by_cases v : Val w h p
 ·rw [if_pos v]
  by_cases c : k < 0
  ·rw [if_pos c]
   exact EvP.neg (by decide) sane
  ·rw [if_neg c]
   have sv := spk_val (k := k) v
   obtain ⟨hw, hh, hw2, hh2, hm, hl2, _⟩ := id v
   have sl := sv.2.2.2.2.2.1
   refine EvP.pos rfl ?_
   dsimp only
   refine EvP.bind (Despeckle_is w h (spk w h p k) k (fun z hz => (val_byt sv z hz).1) (by omega)) ?_
   rintro _ rfl
   unfold spkR
   rw [if_pos sv, if_neg c, spk_again v]
   refine EvP.pos rfl ?_
   refine EvP.bindv (refSame_is _ _ _ _ _ _ (val_byt sv) (val_byt sv)) ?_
   refine EvP.step (fun n => by rw [incunablelaw29_ScanSpecks.j1]) ?_
   refine EvP.neg (by simp) ?_
   refine EvP.bind (refComponents_is w h p hb0 (by omega)) ?_
   rintro _ rfl
   refine EvP.bind (refComponents_is w h (spk w h p k) (fun z hz => (val_byt sv z hz).1) (by omega)) ?_
   rintro _ rfl
   unfold cmpR
   rw [if_pos v, if_pos sv]
   exact specks_l0 v
 ·rw [if_neg v]
  exact EvP.neg (by decide) sane
end
end Go.Proofs.Ytnnbfkmmjclhaaa.Pure
