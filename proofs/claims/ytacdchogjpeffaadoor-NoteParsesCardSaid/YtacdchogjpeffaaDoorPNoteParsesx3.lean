-- printed (wip/tools/myprint.py)
import Derived.Test.YtacdchogjpeffaaDoorPNoteParsesx0
import Derived.Test.YtacdchogjpeffaaDoorPNoteParsesx2
namespace Go.Proofs.YtacdchogjpeffaaDoor.PNoteParses
open Go.RowKit Go.Proofs.YtacdchogjpeffaaDoorW.PrintWords Go.Proofs.YtacdchogjpeffaaDoorW.PrintLast Go.Proofs.YtacdchogjpeffaaDoorW.PrintMore
attribute [local go_sem] max2_int min2_int max_two min_two max_three min_three max_four min_four
set_option linter.unusedVariables false
set_option linter.unusedSimpArgs false
def kv : Kd Value where
 sz := 4
 E := []
 K := fun _ v cs => cs = [.int .i64 0, .string ⟨#[]⟩, .int .i64 0, v] ∧ v.oneCell' = true
 M := fun _ _ _ v cs => cs = [.int .i64 0, .string ⟨#[]⟩, .int .i64 0, v] ∧ v.oneCell' = true
 K_len := by rintro _ _ _ ⟨rfl, _⟩; rfl
 K_one := by
  rintro _ _ _ ⟨rfl, h⟩ u hu
  simp only [List.mem_cons, List.not_mem_nil, or_false] at hu
  rcases hu with rfl | rfl | rfl | rfl
  ·rfl
  ·rfl
  ·rfl
  ·exact h
 K_below := fun _ h => h
 K_of_M := fun h => h
 M_mono := fun _ h => h
 M_bound := fun h => h
 M_move := fun _ h => h
 M_lower := fun _ h => h
theorem addr_add0 (b k : Nat) : (⟨b, 0, none⟩ : Addr).add k = ⟨b, k, none⟩ := by
 unfold Addr.add
 split <;> simp_all
def SkV (col : Nat → Nat) (w0 W : World) (vo : Value) (vs : List Value) (os : List (List S33)) : Prop :=
 vs.length = os.length ∧ kv.R 33 W w0.heap.size (fun k => col k = 0) vo vs ∧ ∀ (i : Nat) (v : Value) (xs : List S33), vs[i]? = some v → os[i]? = some xs → Kd.R k33 33 W w0.heap.size (fun k => col k = i + 2) v xs
theorem k33_q {w W : World} {e : Nat} {base : Nat} {ok : Nat → Prop} {v : Value} {xs : List S33} (h : Kd.R k33 33 W base ok v xs) {W1 : World} (hm : ∀ k, k < W.heap.size → ok k → (∃ cells, W.heap[k]? = some (.cells cells 33 (0, 0))) → W1.heap[k]? = W.heap[k]?) : Kd.R k33 33 W1 base ok v xs :=
 Kd.R_mono (Kd.R_move (Kd.R_bound h) (fun k hk => hm k hk.2.2.1 hk.1 (by
   obtain ⟨q, hq, cells, hc⟩ := hk.2.2.2
   refine ⟨cells, ?_⟩
   have : q = 33 := by
    rcases List.mem_cons.1 hq with rfl | hq
    ·rfl
    ·exact List.mem_singleton.1 hq
   rw [← this]; exact hc))) (fun k hk => hk.1)
theorem kv_q {W : World} {base : Nat} {ok : Nat → Prop} {v : Value} {xs : List Value} (h : kv.R 33 W base ok v xs) {W1 : World} (hm : ∀ k, k < W.heap.size → ok k → W1.heap[k]? = W.heap[k]?) : kv.R 33 W1 base ok v xs :=
 Kd.R_mono (Kd.R_move (Kd.R_bound h) (fun k hk => hm k hk.2.2.1 hk.1)) (fun k hk => hk.1)
section
variable {col col' : Nat → Nat} {w0 W W1 : World} {vo : Value} {vs : List Value} {os : List (List S33)}
theorem SkV.nil (col : Nat → Nat) (w0 W : World) : SkV col w0 W (.slice none 0 0) [] [] := ⟨rfl, Kd.R_nil _ _ _ _ _, fun i v xs h => by simp at h⟩
theorem SkV.step (h : SkV col w0 W vo vs os) (hm : ∀ k, k < W.heap.size → (∃ cells, W.heap[k]? = some (.cells cells 33 (0, 0))) → W1.heap[k]? = W.heap[k]?) : SkV col w0 W1 vo vs os := by
 obtain ⟨hl, h1, h2⟩ := h
 refine ⟨hl, ?_, fun i v xs a b => k33_q (w := W) (e := 0) (h2 i v xs a b) (fun k a _ c => hm k a c)⟩
 exact Kd.R_mono (Kd.R_move (Kd.R_bound h1) (fun k hk => hm k hk.2.2.1 (by
   obtain ⟨q, hq, cells, hc⟩ := hk.2.2.2
   refine ⟨cells, ?_⟩
   have : q = 33 := by
    rcases List.mem_cons.1 hq with rfl | hq
    ·rfl
    ·exact absurd hq (by simp [kv])
   rw [← this]; exact hc))) (fun k hk => hk.1)
theorem SkV.below (h : SkV col w0 W vo vs os) (hb : Below W.heap.size W W1) : SkV col w0 W1 vo vs os := h.step (fun k hk _ => hb.block k hk)
theorem not_type {g t k : Nat} {cs cells : Array Value} (hb : W.heap[g]? = some (.cells cs t (0, 0))) (ht : t ≠ 33) (hc : W.heap[k]? = some (.cells cells 33 (0, 0))) : k ≠ g := fun e => by
 subst e
 rw [hc] at hb
 injection hb with hb
 injection hb with _ hb
 exact ht hb.symm
theorem SkV.keep (h : SkV col w0 W vo vs os) {g : Nat} {cs : Array Value} {t : TypeId} (hb : W.heap[g]? = some (.cells cs t (0, 0))) (ht : t ≠ 33) (hk : KeepBut W W1 g none) : SkV col w0 W1 vo vs os :=
 h.step (fun k hlt ⟨cells, hc⟩ => hk.2 k hlt (not_type hb ht hc) (by simp))
theorem SkV.recol (h : SkV col w0 W vo vs os) (hc : ∀ k, k < W.heap.size → col k < os.length + 2 → col k ≠ 1 → col' k = col k) : SkV col' w0 W vo vs os := by
 obtain ⟨hl, h1, h2⟩ := h
 refine ⟨hl, Kd.R_mono (Kd.R_bound h1) (fun k hk => (hc k hk.2.2.1 (by have := hk.1; omega) (by have := hk.1; omega)).trans hk.1), fun i v xs a b => Kd.R_mono (Kd.R_bound (h2 i v xs a b)) (fun k hk => (hc k hk.2.2.1 ?_ (by have := hk.1; omega)).trans hk.1)⟩
 have := hk.1
 have hi := (List.getElem?_eq_some_iff.1 b).1
 omega
end
section
variable {col col' : Nat → Nat} {w0 W w1 : World} {vo v v1 : Value} {vs : List Value} {init : List (List S33)} {kids kids' : List S33} {b n c : Nat}
theorem SkV.len (h : SkV col w0 W vo (vs ++ [v]) (init ++ [kids])) : vs.length = init.length := by have := h.1; simp only [List.length_append, List.length_singleton] at this; omega
theorem SkV.low (h : SkV col w0 W vo (vs ++ [v]) (init ++ [kids])) {i : Nat} {u : Value} {xs : List S33} (hu : vs[i]? = some u) (hx : init[i]? = some xs) : Kd.R k33 33 W w0.heap.size (fun k => col k = i + 2) u xs := by
 have h1 := (List.getElem?_eq_some_iff.1 hu).1
 have h2 := (List.getElem?_eq_some_iff.1 hx).1
 exact h.2.2 i u xs (by rw [List.getElem?_append_left h1]; exact hu) (by rw [List.getElem?_append_left h2]; exact hx)
theorem SkV.high (h : SkV col w0 W vo (vs ++ [v]) (init ++ [kids])) : Kd.R k33 33 W w0.heap.size (fun k => col k = init.length + 2) v kids :=
 h.2.2 init.length v kids (by rw [← h.len]; simp) (by simp)
theorem SkV.top (h : SkV col w0 W vo (vs ++ [v]) (init ++ [kids])) : ∃ b c, vo = .slice (some ⟨b, 0, none⟩) (init.length + 1) c ∧ W.cell? ⟨b, init.length * 4 + 3, none⟩ = some v ∧ (∃ cells, W.heap[b]? = some (.cells cells 33 (0, 0))) ∧ col b = 0 ∧ init.length + 1 ≤ c := by
 have hlen := h.len
 obtain ⟨A, c, e, hl, hC⟩ := Kd.R_reads h.2.1
 have hn : (vs ++ [v]).length = init.length + 1 := by rw [List.length_append, List.length_singleton, hlen]
 obtain ⟨h0, inner, ho, hr⟩ := h.2.1
 rcases ho.2 with ⟨rfl, hx⟩ | ⟨g, cap, cur, rfl, hg, hh, _⟩
 ·injection e with e1 e2 e3
  rw [hn] at e2
  omega
 ·injection e with e1 e2 e3
  subst e1
  have hlt : (init.length : Int) < ((vs ++ [v]).length : Int) := by rw [hn]; omega
  obtain ⟨ad, c', e4, _, hK, hc0⟩ := Kd.C_get hC v (init.length : Int) (by omega) hlt
  injection e4 with e4
  subst e4
  have hv : (vs ++ [v]).getD (init.length : Int).toNat v = v := by
   rw [Int.toNat_natCast, ← hlen]
   simp
  rw [hv] at hK
  have := hc0 3 v (by rw [hK.1]; rfl)
  refine ⟨g, cap, by rw [hn], ?_, ⟨cur, hh⟩, h0 g (by simp [Value.ownBlock]), by rw [← hn]; omega⟩
  rw [Int.toNat_natCast] at this
  simpa [Addr.add, kv] using this
theorem SkV.put (h : SkV col w0 W (.slice (some ⟨b, 0, none⟩) n c) (vs ++ [v]) (init ++ [kids])) (hm : ∀ k, k < W.heap.size → col k ≠ init.length + 2 → (∃ cells, W.heap[k]? = some (.cells cells 33 (0, 0))) → w1.heap[k]? = W.heap[k]?)
  (h1 : Kd.R k33 33 w1 w0.heap.size (fun k => col' k = init.length + 2) v1 kids') (hs : v1.oneCell' = true) (hc : ∀ k, k < W.heap.size → col k < init.length + 2 → col' k = col k) (hx : col' b = 0) :
  SkV col' w0 (w1.setCell ⟨b, init.length * 4 + 3, none⟩ v1) (.slice (some ⟨b, 0, none⟩) n c) (vs ++ [v1]) (init ++ [kids']) := by
 have hlen := h.len
 have hn : n = init.length + 1 := by
  obtain ⟨b', c', e, _⟩ := h.top
  injection e
 have t33 : ∀ k, k < W.heap.size → col k = 0 → (∃ cells, W.heap[k]? = some (.cells cells 33 (0, 0))) → w1.heap[k]? = W.heap[k]? := fun k a b c => hm k a (by omega) c
 refine ⟨by simp [hlen], ?_, ?_⟩
 ·have a1 : kv.R 33 w1 w0.heap.size (fun k => col' k = 0) (.slice (some ⟨b, 0, none⟩) n c) (vs ++ [v]) := by
   refine Kd.R_mono (Kd.R_move (Kd.R_bound h.2.1) (fun k hk => t33 k hk.2.2.1 hk.1 (by
    obtain ⟨q, hq, cells, hcc⟩ := hk.2.2.2
    refine ⟨cells, ?_⟩
    have : q = 33 := by
     rcases List.mem_cons.1 hq with rfl | hq
     ·rfl
     ·exact absurd hq (by simp [kv])
    rw [← this]; exact hcc))) (fun k hk => ?_)
   have h1 := hk.1
   exact (hc k hk.2.2.1 (by omega)).trans h1
  obtain ⟨A, c2, e, hl, hC⟩ := Kd.R_reads a1
  injection e with e1 e2 e3
  subst e1
  have hn2 : (vs ++ [v]).length = init.length + 1 := by rw [List.length_append, List.length_singleton, hlen]
  obtain ⟨ad, c', e4, hcl, hK, hc0⟩ := Kd.C_get hC v (init.length : Int) (by omega) (by rw [hn2]; omega)
  injection e4 with e4
  subst e4
  have hv : (vs ++ [v]).getD (init.length : Int).toNat v = v := by
   rw [Int.toNat_natCast, ← hlen]
   simp
  rw [hv] at hK
  have hK1 := hK.1
  subst hK1
  have r := (Kd.R_seg (okp := fun _ => False) (seg := [v1]) (j := 3) (x' := v1) a1 (init.length : Int) (by omega) (by rw [hn]; omega) (c := [.int .i64 0, .string ⟨#[]⟩, .int .i64 0, v]) rfl (fun j u hu => by have := hc0 j u hu; rw [addr_add0, Int.toNat_natCast] at this; rw [Int.toNat_natCast]; exact this) (by simp [kv]) ⟨rfl, hs⟩ (fun _ h => h.elim)).1
  rw [Int.toNat_natCast, ← hlen] at r
  have e5 : (vs ++ [v]).set vs.length v1 = vs ++ [v1] := by simp
  rw [e5, hlen] at r
  exact r
 ·intro i u xs hu hx2
  have far : ∀ (k : Nat), col' k ≠ 0 → (w1.setCell ⟨b, init.length * 4 + 3, none⟩ v1).heap[k]? = w1.heap[k]? := fun k hk => Below.heap_setCell w1 ⟨b, init.length * 4 + 3, none⟩ v1 k (fun e => hk (by rw [e]; exact hx))
  rcases Nat.lt_or_ge i init.length with hi | hi
  ·rw [List.getElem?_append_left (by omega)] at hu
   rw [List.getElem?_append_left hi] at hx2
   have r1 := h.low hu hx2
   have r2 : Kd.R k33 33 W w0.heap.size (fun k => col k = i + 2 ∧ col' k = i + 2) u xs := Kd.R_mono (Kd.R_bound r1) (fun k hk => ⟨hk.1, (hc k hk.2.2.1 (by have := hk.1; omega)).trans hk.1⟩)
   have r3 := k33_q (w := W) (e := 0) r2 (W1 := w1.setCell ⟨b, init.length * 4 + 3, none⟩ v1) (fun k a o t => (far k (by omega)).trans (hm k a (by omega) t))
   exact Kd.R_mono r3 (fun _ h => h.2)
  ·have hi2 : i = init.length := by
    have := (List.getElem?_eq_some_iff.1 hx2).1
    simp only [List.length_append, List.length_singleton] at this
    omega
   subst hi2
   have e1 : u = v1 := by
    rw [← hlen] at hu
    simpa using hu.symm
   have e2 : xs = kids' := by simpa using hx2.symm
   subst e1; subst e2
   exact k33_q (w := w1) (e := 0) h1 (fun k a o t => far k (by omega))
end
def Pk (col : Nat → Nat) (w0 W : World) (g : Nat) (p : Pz) (vs : List Value) (os : List (List S33)) (x : List S33) : Prop :=
 (W.heap[g]? = some (.cells p.cells 93 (0, 0)) ∧ Below w0.heap.size w0 W ∧ w0.heap.size ≤ g) ∧ SkV col w0 W p.vo vs os ∧ Kd.R k33 33 W w0.heap.size (fun k => col k = 1) p.xv x
section
variable {col col' : Nat → Nat} {w0 W W1 : World} {g : Nat} {p q : Pz} {vs : List Value} {os : List (List S33)} {x : List S33}
theorem Pk.pt (h : Pk col w0 W g p vs os x) : Pt w0 W g p W := ⟨h.1.1, KeepBut.refl _ _ _, h.1.2.1, h.1.2.2⟩
theorem Pk.below (h : Pk col w0 W g p vs os x) (hb : Below W.heap.size W W1) : Pk col w0 W1 g p vs os x :=
 ⟨⟨blk_below h.1.1 hb, below_step h.1.2.1 hb, h.1.2.2⟩, h.2.1.below hb, Kd.R_below h.2.2 hb⟩
theorem Pk.of_pt (h : Pk col w0 W g p vs os x) (hp : Pt w0 W g q W1) (hv : q.vo = p.vo) (hx : q.xv = p.xv) : Pk col w0 W1 g q vs os x :=
 ⟨⟨hp.1, hp.2.2.1, hp.2.2.2⟩, by rw [hv]; exact h.2.1.keep h.1.1 (by decide) hp.2.1, by
  rw [hx]
  exact k33_q (w := W) (e := 0) h.2.2 (fun k hk _ ⟨cells, hc⟩ => hp.2.1.2 k hk (not_type h.1.1 (by decide) hc) (by simp))⟩
end
section
variable {col : Nat → Nat} {w0 W w1 : World} {g : Nat} {p : Pz} {v v1 : Value} {vs : List Value} {init : List (List S33)} {kids kids' x : List S33} {b n c : Nat}
theorem SkV.col0 (h : SkV col w0 W (.slice (some ⟨b, 0, none⟩) n c) vs init) : col b = 0 ∧ w0.heap.size ≤ b ∧ b < W.heap.size ∧ ∃ cells, W.heap[b]? = some (.cells cells 33 (0, 0)) := by
 have h1 := (Kd.R_bound h.2.1).1 b (by simp [Value.ownBlock])
 obtain ⟨h2, h3, h4, q, hq, cells, hc⟩ := h1
 have : q = 33 := by
  rcases List.mem_cons.1 hq with rfl | hq
  ·rfl
  ·exact absurd hq (by simp [kv])
 subst this
 exact ⟨h2, h3, h4, cells, hc⟩
theorem Pk.ne (h : Pk col w0 W g p (vs ++ [v]) (init ++ [kids]) x) : ∀ k, v.ownBlock = some k → col k = init.length + 2 ∧ w0.heap.size ≤ k ∧ k < W.heap.size ∧ k ≠ g := fun k hk => by
 have h1 := (Kd.R_bound h.2.1.high).1 k hk
 obtain ⟨h2, h3, h4, q, hq, cells, hc⟩ := h1
 have : q = 33 := by
  rcases List.mem_cons.1 hq with rfl | hq
  ·rfl
  ·exact List.mem_singleton.1 hq
 subst this
 exact ⟨h2, h3, h4, not_type h.1.1 (by decide) hc⟩
theorem Pk.more (h : Pk col w0 W g p (vs ++ [v]) (init ++ [kids]) x) (hvo : p.vo = .slice (some ⟨b, 0, none⟩) n c) (hg : W.grownBy w1 v.ownBlock) (hB : Below w0.heap.size w0 w1)
  (ho : Kd.R k33 33 w1 w0.heap.size (fun k => col k = init.length + 2 ∨ col k = init.length + 3 ∨ W.heap.size ≤ k) v1 kids') :
  Pk (fun k => if col k = init.length + 3 ∨ W.heap.size ≤ k then init.length + 2 else col k) w0 (w1.setCell ⟨b, init.length * 4 + 3, none⟩ v1) g p (vs ++ [v1]) (init ++ [kids']) x := by
 have hS := h.2.1
 rw [hvo] at hS
 obtain ⟨hb0, hb1, hb2, cells, hb3⟩ := hS.col0
 have hv := h.ne
 have hgl := blk_lt h.1.1
 have hbg : b ≠ g := not_type h.1.1 (by decide) hb3
 have hs1 : v1.oneCell' = true := by
  obtain ⟨A, c', e⟩ := Kd.R_slice ho
  rw [e]
  rfl
 have same : ∀ k, k < W.heap.size → col k ≠ init.length + 2 → w1.heap[k]? = W.heap[k]? := fun k hk hc => hg.block k hk (fun e => hc (hv k e.symm).1)
 have gv : some g ≠ v.ownBlock := fun e => (hv g e.symm).2.2.2 rfl
 refine ⟨⟨(Below.heap_setCell w1 ⟨b, init.length * 4 + 3, none⟩ v1 g (fun e => hbg e.symm)).trans ((hg.block g hgl gv).trans h.1.1), below_set hB hb1, h.1.2.2⟩, ?_, ?_⟩
 ·rw [hvo]
  refine SkV.put hS (fun k hk hc _ => same k hk hc) (Kd.R_mono ho (fun k hk => ?_)) hs1 (fun k hk hc => ?_) ?_
  ·show (if col k = init.length + 3 ∨ W.heap.size ≤ k then init.length + 2 else col k) = init.length + 2
   split <;> omega
  ·rw [if_neg (by omega)]
  ·rw [if_neg (by omega)]
   exact hb0
 ·have h2 : Kd.R k33 33 W w0.heap.size (fun k => col k = 1 ∧ k < W.heap.size) p.xv x := Kd.R_mono (Kd.R_bound h.2.2) (fun k hk => ⟨hk.1, hk.2.2.1⟩)
  have h3 := k33_q (w := W) (e := 0) h2 (W1 := w1.setCell ⟨b, init.length * 4 + 3, none⟩ v1) (fun k hk ho _ => (Below.heap_setCell w1 ⟨b, init.length * 4 + 3, none⟩ v1 k (fun e => by
   subst e
   exact absurd (hb0.symm.trans ho.1) (by decide))).trans (same k hk (by have := ho.1; omega)))
  exact Kd.R_mono h3 (fun k hk => by
   show (if col k = init.length + 3 ∨ W.heap.size ≤ k then init.length + 2 else col k) = 1
   rw [if_neg (by omega)]
   exact hk.1)
theorem Pk.poke {gv : Nat} (h : Pk col w0 W g p (vs ++ [v]) (init ++ [kids]) x) (hv : v.ownBlock = some gv) (hg : W.grownBy w1 (some gv)) (hB : Below w0.heap.size w0 w1) (ho : Kd.R k33 33 w1 w0.heap.size (fun k => col k = init.length + 2) v kids') :
  Pk col w0 w1 g p (vs ++ [v]) (init ++ [kids']) x := by
 obtain ⟨v0, v1, v2, v3⟩ := h.ne gv hv
 have same : ∀ k, k < W.heap.size → col k ≠ init.length + 2 → w1.heap[k]? = W.heap[k]? := fun k hk hc => hg.block k hk (fun e => hc (by injection e with e; rw [e]; exact v0))
 refine ⟨⟨(hg.block g (blk_lt h.1.1) (fun e => v3 (by injection e with e; exact e.symm))).trans h.1.1, hB, h.1.2.2⟩, ?_, k33_q (w := W) (e := 0) h.2.2 (fun k hk ho _ => same k hk (by omega))⟩
 obtain ⟨s0, s1, s2⟩ := h.2.1
 refine ⟨by have := s0; simp only [List.length_append, List.length_singleton] at this ⊢; exact this, kv_q s1 (fun k hk ho => same k hk (by omega)), fun i u xs hu hx => ?_⟩
 have hlen := h.2.1.len
 rcases Nat.lt_or_ge i init.length with hi | hi
 ·rw [List.getElem?_append_left (by omega)] at hu
  rw [List.getElem?_append_left hi] at hx
  exact k33_q (w := W) (e := 0) (h.2.1.low hu hx) (fun k hk ho _ => same k hk (by omega))
 ·have hi2 : i = init.length := by
   have := (List.getElem?_eq_some_iff.1 hx).1
   simp only [List.length_append, List.length_singleton] at this
   omega
  subst hi2
  have e1 : u = v := by
   rw [← hlen] at hu
   simpa using hu.symm
  have e2 : xs = kids' := by simpa using hx.symm
  subst e1; subst e2
  exact ho
end
theorem cell_grown {w w1 : World} {row : Option Nat} {a : Addr} {v : Value} (hg : w.grownBy w1 row) (hne : some a.block ≠ row) (h : w.cell? a = some v) : w1.cell? a = some v :=
 (World.cell?_of_block (hg.block a.block (World.block_lt_of_cell? w _ h) hne)).trans h
theorem R_ptr {α : Type} {d : Kd α} {e : Nat} {W : World} {base : Nat} {ok : Nat → Prop} {v : Value} {xs : List α} (h : d.R e W base ok v xs) (hx : xs ≠ []) : ∃ b c, v = .slice (some ⟨b, 0, none⟩) xs.length c := by
 obtain ⟨_, inner, ho, _⟩ := h
 rcases ho.2 with ⟨rfl, _⟩ | ⟨g, cap, cur, rfl, _⟩
 ·obtain ⟨A, c, e⟩ := own_slice ho
  injection e with e1 e2 e3
  exact absurd (List.length_eq_zero_iff.1 e2.symm) hx
 ·exact ⟨g, cap, rfl⟩
structure Ps where
 at_ : Int
 rs : List (List S33)
 deep : Int
 many : Int
 done : Bool
 x : S33
def Ps.pz (st : Ps) (s : ByteArray) (vo xv : Value) : Pz := ⟨s, st.at_, vo, st.deep, st.many, st.done, st.x.f0, st.x.f1, st.x.f2, xv⟩
def Ip (w0 W : World) (g : Nat) (s : ByteArray) (st : Ps) : Prop := ∃ col vo vs xv, Pk col w0 W g (st.pz s vo xv) vs st.rs.reverse st.x.f3
section
variable {col : Nat → Nat} {w0 W W1 : World} {g : Nat} {s : ByteArray} {st : Ps} {p : Pz} {vo xv v : Value} {vs : List Value} {os init : List (List S33)} {kids x : List S33} {b n c : Nat}
theorem Ps.cz (h : Pk col w0 W g (st.pz s vo xv) vs os x) : W.cell? ⟨g, 0, none⟩ = some (.string s) ∧ W.cell? ⟨g, 1, none⟩ = some (.int .i64 st.at_) ∧ W.cell? ⟨g, 2, none⟩ = some vo ∧ W.cell? ⟨g, 3, none⟩ = some (.int .i64 st.deep) ∧ W.cell? ⟨g, 4, none⟩ = some (.int .i64 st.many) ∧ W.cell? ⟨g, 5, none⟩ = some (.bool st.done) := by
 obtain ⟨z0, z1, z2, z3, z4, z5, _⟩ := h.pt.cz
 exact ⟨z0, z1, z2, z3, z4, z5⟩
theorem Ps.cf (h : Pk col w0 W g (st.pz s vo xv) vs os x) : W.frozen? ⟨g, 1, none⟩ = false ∧ W.frozen? ⟨g, 2, none⟩ = false := by
 obtain ⟨_, y1, y2, _⟩ := h.pt.cf
 exact ⟨y1, y2⟩
theorem SkV.top4 (h : SkV col w0 W vo (vs ++ [v]) (init ++ [kids])) : ∃ b c, vo = .slice (some ⟨b, 0, none⟩) (init.length + 1) c ∧ W.cell? ⟨b, init.length * 4, none⟩ = some (.int .i64 0) ∧ W.cell? ⟨b, init.length * 4 + 1, none⟩ = some (.string ⟨#[]⟩) ∧ W.cell? ⟨b, init.length * 4 + 2, none⟩ = some (.int .i64 0) ∧ W.cell? ⟨b, init.length * 4 + 3, none⟩ = some v ∧ (∃ cells, W.heap[b]? = some (.cells cells 33 (0, 0))) ∧ init.length + 1 ≤ c := by
 obtain ⟨b, c, rfl, _, hb, _, hc⟩ := h.top
 have hlen := h.len
 obtain ⟨A, c', e, hl, hC⟩ := Kd.R_reads h.2.1
 injection e with e1 e2 e3
 subst e1
 have hn : (vs ++ [v]).length = init.length + 1 := by rw [List.length_append, List.length_singleton, hlen]
 obtain ⟨ad, cs, e4, _, hK, hc0⟩ := Kd.C_get hC v (init.length : Int) (by omega) (by rw [hn]; omega)
 injection e4 with e4
 subst e4
 have hv : (vs ++ [v]).getD (init.length : Int).toNat v = v := by
  rw [Int.toNat_natCast, ← hlen]
  simp
 rw [hv] at hK
 obtain ⟨hK, _⟩ := hK
 subst hK
 have one : ∀ j u, ([.int .i64 0, .string ⟨#[]⟩, .int .i64 0, v] : List Value)[j]? = some u → W.cell? ⟨b, init.length * 4 + j, none⟩ = some u := fun j u hu => by
  have := hc0 j u hu
  rw [addr_add0, Int.toNat_natCast] at this
  exact this
 exact ⟨b, c, rfl, one 0 _ rfl, one 1 _ rfl, one 2 _ rfl, one 3 _ rfl, hb, hc⟩
theorem Pk.pop (h : Pk col w0 W g p (vs ++ [v]) (init ++ [kids]) x) (hvo : p.vo = .slice (some ⟨b, 0, none⟩) n c) : Pk col w0 (W.setCell ⟨g, 2, none⟩ (.slice (some ⟨b, 0, none⟩) init.length c)) g { p with vo := .slice (some ⟨b, 0, none⟩) init.length c } vs init x := by
 have hq := h.pt.voS (.slice (some ⟨b, 0, none⟩) init.length c)
 have hk := hq.2.1
 have hS := h.2.1.keep h.1.1 (by decide) hk
 rw [hvo] at hS
 have hlen := hS.len
 refine ⟨⟨hq.1, hq.2.2.1, hq.2.2.2⟩, ⟨hlen, ?_, fun i u xs hu hx => hS.low hu hx⟩, k33_q (w := W) (e := 0) h.2.2 (fun k hlt _ ⟨cells, hc⟩ => hk.2 k hlt (not_type h.1.1 (by decide) hc) (by simp))⟩
 have := Kd.R_take hS.2.1 (m := init.length) (by simp [hlen])
 rw [← hlen, List.take_left' rfl] at this
 rw [← hlen]
 exact this
theorem Pk.vs_concat (h : Pk col w0 W g p vs (init ++ [kids]) x) : ∃ vs0 v, vs = vs0 ++ [v] := by
 rcases List.eq_nil_or_concat vs with rfl | ⟨vs0, v, rfl⟩
 ·have := h.2.1.1
  simp at this
 ·exact ⟨vs0, v, by simp⟩
def Pj (col : Nat → Nat) (w0 W : World) (g : Nat) (p : Pz) (vo : Value) (vs : List Value) (os : List (List S33)) (x : List S33) : Prop :=
 (W.heap[g]? = some (.cells p.cells 93 (0, 0)) ∧ Below w0.heap.size w0 W ∧ w0.heap.size ≤ g) ∧ SkV col w0 W vo vs os ∧ Kd.R k33 33 W w0.heap.size (fun k => col k = 1) p.xv x
theorem Pj.open_ (h : Pj col w0 W g p vo vs os x) : Pj col w0 (W.setCell ⟨g, 2, none⟩ vo) g { p with vo := vo } vo vs os x := by
 have hq := (show Pt w0 W g p W from ⟨h.1.1, KeepBut.refl _ _ _, h.1.2.1, h.1.2.2⟩).voS vo
 exact ⟨⟨hq.1, hq.2.2.1, hq.2.2.2⟩, h.2.1.keep h.1.1 (by decide) hq.2.1, k33_q (w := W) (e := 0) h.2.2 (fun k hlt _ ⟨cells, hc⟩ => hq.2.1.2 k hlt (not_type h.1.1 (by decide) hc) (by simp))⟩
theorem Pj.zero (h : Pj col w0 W g p (.slice (some ⟨b, 0, none⟩) n c) (vs ++ [v]) (init ++ [[]]) x) (hs : v.oneCell' = true) :
  Pj col w0 ((((W.setCell ⟨b, init.length * 4, none⟩ (.int .i64 0)).setCell ⟨b, init.length * 4 + 1, none⟩ (.string ⟨#[]⟩)).setCell ⟨b, init.length * 4 + 2, none⟩ (.int .i64 0)).setCell ⟨b, init.length * 4 + 3, none⟩ v) g p (.slice (some ⟨b, 0, none⟩) n c) (vs ++ [v]) (init ++ [[]]) x := by
 obtain ⟨hb0, hb1, hb2, cells, hb3⟩ := h.2.1.col0
 have hlen := h.2.1.len
 have hbg : b ≠ g := not_type h.1.1 (by decide) hb3
 have hn2 : (vs ++ [v]).length = init.length + 1 := by rw [List.length_append, List.length_singleton, hlen]
 have hn : n = init.length + 1 := by
  obtain ⟨b', c', e, _⟩ := h.2.1.top
  injection e
 subst hn
 obtain ⟨A, c2, e, hl, hC⟩ := Kd.R_reads h.2.1.2.1
 have e1 : some (⟨b, 0, none⟩ : Addr) = A := (Value.slice.inj e).1
 subst e1
 clear e
 obtain ⟨ad, c', e4, hcl, hK, hc0⟩ := Kd.C_get hC v (init.length : Int) (by omega) (by rw [hn2]; omega)
 obtain rfl := Option.some.inj e4
 have hcl4 : c'.length = 4 := hcl
 have r := Kd.R_seg (okp := fun _ => False) (seg := [.int .i64 0, .string ⟨#[]⟩, .int .i64 0, v]) (j := 0) (x' := v) h.2.1.2.1 (init.length : Int) (by omega) (by omega) (c := c') hcl (fun j u hu => by have := hc0 j u hu; rw [addr_add0, Int.toNat_natCast] at this; rw [Int.toNat_natCast]; exact this) (by simp [kv]) (by
  rw [List.take_zero, List.nil_append, List.drop_eq_nil_of_le (by simp [hcl4])]
  exact ⟨rfl, hs⟩) (fun _ h => h.elim)
 rw [Int.toNat_natCast, ← hlen] at r
 have e5 : (vs ++ [v]).set vs.length v = vs ++ [v] := by simp
 rw [e5, hlen] at r
 obtain ⟨r1, r2⟩ := r
 have far : ∀ k, k ≠ b → (W.setCells b (init.length * kv.sz + 0) [.int .i64 0, .string ⟨#[]⟩, .int .i64 0, v]).heap[k]? = W.heap[k]? := fun k hk => setCells_far _ _ k hk
 have e6 : W.setCells b (init.length * kv.sz + 0) [.int .i64 0, .string ⟨#[]⟩, .int .i64 0, v] = (((W.setCell ⟨b, init.length * 4, none⟩ (.int .i64 0)).setCell ⟨b, init.length * 4 + 1, none⟩ (.string ⟨#[]⟩)).setCell ⟨b, init.length * 4 + 2, none⟩ (.int .i64 0)).setCell ⟨b, init.length * 4 + 3, none⟩ v := by
  rw [show kv.sz = 4 from rfl]
  simp only [World.setCells, Nat.add_zero, Nat.add_assoc, Nat.reduceAdd]
 rw [← e6]
 refine ⟨⟨(far g (fun e => hbg e.symm)).trans h.1.1, h.1.2.1.grown r2 h.1.2.1.size (fun k e => by injection e with e; omega), h.1.2.2⟩, ⟨h.2.1.1, r1, fun i u xs hu hx => ?_⟩, ?_⟩
 ·exact k33_q (w := W) (e := 0) (h.2.1.2.2 i u xs hu hx) (fun k _ ho _ => far k (fun e => by subst e; omega))
 ·exact k33_q (w := W) (e := 0) h.2.2 (fun k _ ho _ => far k (fun e => by subst e; omega))
theorem Pk.push (h : Pk col w0 W g p vs os x) {w1 : World} {vo1 : Value} (hg : W.grownBy w1 p.vo.ownBlock) (hB : Below w0.heap.size w0 w1) (ho : kv.R 33 w1 w0.heap.size (fun k => col k = 0 ∨ W.heap.size ≤ k) vo1 (vs ++ [.slice none 0 0])) :
  Pj (fun k => if W.heap.size ≤ k then 0 else col k) w0 w1 g p vo1 (vs ++ [.slice none 0 0]) (os ++ [[]]) x := by
 have h0 : ∀ k, p.vo.ownBlock = some k → col k = 0 ∧ k ≠ g := fun k hk => by
  obtain ⟨h2, _, _, q, hq, cells, hc⟩ := (Kd.R_bound h.2.1.2.1).1 k hk
  have : q = 33 := by
   rcases List.mem_cons.1 hq with rfl | hq
   ·rfl
   ·exact absurd hq (by simp [kv])
  subst this
  exact ⟨h2, not_type h.1.1 (by decide) hc⟩
 have same : ∀ k, k < W.heap.size → col k ≠ 0 → w1.heap[k]? = W.heap[k]? := fun k hk hc => hg.block k hk (fun e => hc (h0 k e.symm).1)
 refine ⟨⟨(hg.block g (blk_lt h.1.1) (fun e => (h0 g e.symm).2 rfl)).trans h.1.1, hB, h.1.2.2⟩, ⟨?_, ?_, fun i u xs hu hx => ?_⟩, ?_⟩
 ·have := h.2.1.1
  simp only [List.length_append, List.length_singleton]
  omega
 ·refine Kd.R_mono ho (fun k hk => ?_)
  show (if W.heap.size ≤ k then 0 else col k) = 0
  split
  ·rfl
  ·rcases hk with hk | hk
   ·exact hk
   ·omega
 ·have hlen := h.2.1.1
  rcases Nat.lt_or_ge i os.length with hi | hi
  ·rw [List.getElem?_append_left (by omega)] at hu
   rw [List.getElem?_append_left hi] at hx
   have r2 := Kd.R_mono (ok' := fun k => col k = i + 2 ∧ k < W.heap.size) (Kd.R_bound (h.2.1.2.2 i u xs hu hx)) (fun k hk => ⟨hk.1, hk.2.2.1⟩)
   refine Kd.R_mono (k33_q (w := W) (e := 0) r2 (fun k hk ho _ => same k hk (by have := ho.1; omega))) (fun k hk => ?_)
   show (if W.heap.size ≤ k then 0 else col k) = i + 2
   rw [if_neg (by omega)]
   exact hk.1
  ·have hi2 : i = os.length := by
    have := (List.getElem?_eq_some_iff.1 hx).1
    simp only [List.length_append, List.length_singleton] at this
    omega
   subst hi2
   have e1 : u = .slice none 0 0 := by
    rw [← hlen] at hu
    simpa using hu.symm
   have e2 : xs = [] := by simpa using hx.symm
   subst e1; subst e2
   exact Kd.R_nil _ _ _ _ _
 ·have r2 := Kd.R_mono (ok' := fun k => col k = 1 ∧ k < W.heap.size) (Kd.R_bound h.2.2) (fun k hk => ⟨hk.1, hk.2.2.1⟩)
  refine Kd.R_mono (k33_q (w := W) (e := 0) r2 (fun k hk ho _ => same k hk (by have := ho.1; omega))) (fun k hk => ?_)
  show (if W.heap.size ≤ k then 0 else col k) = 1
  rw [if_neg (by omega)]
  exact hk.1
end
theorem Pk.atS {col : Nat → Nat} {w0 W : World} {g : Nat} {s : ByteArray} {st : Ps} {vo xv : Value} {vs : List Value} {os : List (List S33)} {x : List S33} (h : Pk col w0 W g (st.pz s vo xv) vs os x) (i : Int) : Pk col w0 (W.setCell ⟨g, 1, none⟩ (.int .i64 i)) g (({ st with at_ := i } : Ps).pz s vo xv) vs os x :=
 h.of_pt (h.pt.at_S i) rfl rfl
theorem R_setg {col : Nat → Nat} {w0 W : World} {g : Nat} {p : Pz} {vs : List Value} {os : List (List S33)} {x : List S33} (h : Pk col w0 W g p vs os x) {ok : Nat → Prop} {v : Value} {xs : List S33} (hr : Kd.R k33 33 W w0.heap.size ok v xs) (j : Nat) (u : Value) : Kd.R k33 33 (W.setCell ⟨g, j, none⟩ u) w0.heap.size ok v xs :=
 k33_q (w := W) (e := 0) hr (fun k _ _ ⟨cells, hc⟩ => Below.heap_setCell W ⟨g, j, none⟩ u k (not_type h.1.1 (by decide) hc))
theorem below4 {w W : World} {b : Nat} (h : Below w.heap.size w W) (hb : w.heap.size ≤ b) (u0 u1 u2 u3 : Value) : Below w.heap.size w ((((W.setCell ⟨b, 0, none⟩ u0).setCell ⟨b, 1, none⟩ u1).setCell ⟨b, 2, none⟩ u2).setCell ⟨b, 3, none⟩ u3) :=
 below_set (below_set (below_set (below_set h hb) hb) hb) hb
def note_parser_ends.T3 : Bool × List (List Nat × List Nat) := (true, [([], []), ([0], [0]), ([0], [0]), ([0, 0, 1, 2], [0])])
def note_parser_ends.B3 : List Nat := [0, 1, 1, 7]
theorem note_parser_ends.tab3 : rtab .any (opsOf Tryd.f84 3) = note_parser_ends.T3 := by kernel_rfl
theorem note_parser_ends.bits3 : waitsOk note_parser_ends.T3.2 note_parser_ends.B3 = true := by kernel_rfl
def note_parser_ends.T4 : Bool × List (List Nat × List Nat) := (true, [([], []), ([0], [0]), ([1], [1]), ([2], [2]), ([], []), ([4], [4]), ([], []), ([6], [6]), ([7], [7]), ([8], [8]), ([], []), ([10], [10]), ([9, 11], [9, 11]), ([12], [12]), ([13], [13]), ([], []), ([14], [14]), ([], []), ([14, 17, 0, 1, 2, 3, 4, 5, 6, 7, 8, 9, 10, 11, 12, 13, 14, 15, 16, 17], [14, 17]), ([3, 5, 0, 1, 2, 3, 4, 5, 6, 7, 8, 9, 10, 11, 12, 13, 14, 15, 16, 17, 18], [3, 5]), ([19, 0, 1, 2, 3, 4, 5, 6, 7, 8, 9, 10, 11, 12, 13, 14, 15, 16, 17, 18], [19]), ([20, 18, 18, 0, 1, 2, 3, 4, 5, 6, 7, 8, 9, 10, 11, 12, 13, 14, 15, 16, 17, 18], [18, 20])])
def note_parser_ends.B4 : List Nat := [0, 1, 3, 7, 0, 16, 0, 64, 192, 448, 0, 1024, 4032, 8128, 16320, 0, 32704, 0, 262143, 524287, 1048575, 2097151]
theorem note_parser_ends.tab4 : rtab .any (opsOf Tryd.f84 4) = note_parser_ends.T4 := by kernel_rfl
theorem note_parser_ends.bits4 : waitsOk note_parser_ends.T4.2 note_parser_ends.B4 = true := by kernel_rfl
def note_parser_ends.T6 : Bool × List (List Nat × List Nat) := (true, [([], []), ([0], [0]), ([1], [1]), ([2], [2]), ([], []), ([4], [4]), ([], []), ([6], [6]), ([7], [7]), ([8], [8]), ([], []), ([10], [10]), ([9, 11], [9, 11]), ([12], [12]), ([13], [13]), ([], []), ([15], [15]), ([14, 16], [14, 16]), ([3, 5, 0, 1, 2, 3, 4, 5, 6, 7, 8, 9, 10, 11, 12, 13, 14, 15, 16, 17], [3, 5]), ([18, 0, 1, 2, 3, 4, 5, 6, 7, 8, 9, 10, 11, 12, 13, 14, 15, 16, 17], [18]), ([19, 17, 17, 0, 1, 2, 3, 4, 5, 6, 7, 8, 9, 10, 11, 12, 13, 14, 15, 16, 17], [17, 19])])
def note_parser_ends.B6 : List Nat := [0, 1, 3, 7, 0, 16, 0, 64, 192, 448, 0, 1024, 4032, 8128, 16320, 0, 32768, 131008, 262143, 524287, 1048575]
theorem note_parser_ends.tab6 : rtab .any (opsOf Tryd.f84 6) = note_parser_ends.T6 := by kernel_rfl
theorem note_parser_ends.bits6 : waitsOk note_parser_ends.T6.2 note_parser_ends.B6 = true := by kernel_rfl
set_option maxHeartbeats 8000000 in
set_option maxRecDepth 100000 in
theorem note_parser_ends.cons (col : Nat → Nat) (g : Nat) (p : Pz) (vs : List Value) (v : Value) (init : List (List S33)) (kids x : List S33) (e : S33) (ev : Value) (w0 w : World) (hI : Pk col w0 w g p (vs ++ [v]) (init ++ [kids]) x)
  (he : Kd.R k33 33 w w0.heap.size (fun k => col k = init.length + 3) ev e.f3) (hl : (kids.length + 1) * 56 ≤ 140737488355328) (hn : init.length ≤ 1000000) :
  Calls Tryd.prog 84 #[.pointer (some ⟨g, 0, none⟩), .agg #[.int .i64 e.f0, .string e.f1, .int .i64 e.f2, ev]] w fun r w' => r = .returned (.tuple #[]) ∧ ∃ (col' : Nat → Nat) (v1 : Value), Pk col' w0 w' g p (vs ++ [v1]) (init ++ [kids ++ [e]]) x := by
 have hu := Tryd.underlying93
 have hu33 := Tryd.underlying33
 obtain ⟨Ae, ce, rfl⟩ := Kd.R_slice he
 obtain ⟨Av, cv, rfl⟩ := Kd.R_slice hI.2.1.high
 have VB := aE (fun k (hk : (Value.slice Av kids.length cv).ownBlock = some k) => (hI.ne k hk).2.2.1)
 have LM := aE hl
 obtain ⟨b, c, hvo, _⟩ := hI.2.1.top
 have HVO := Aside0.mk hvo
 have HI := Aside0.mk hI
 have HE := Aside0.mk he
 clear hI he hvo hl
 go_enter Tryd.func84, Tryd.ntmps84
 go_wp2_with (first | ((with_reducible refine gd 3 rfl ?_); refine bx 3 #[.int .i64 e.f0, .string e.f1, .int .i64 e.f2, .slice Ae e.f3.length ce] 33 rfl rfl ?_; intro gb hg_ w1 hbox hb; have n_ := aC (HI.out.below hb) (aC (Kd.R_below HE.out hb) (aE hbox)); have GB := aE (show w.heap.size ≤ gb by omega); clear HI HE; obtain ⟨HI, HE, BK⟩ := n_; clear hb hbox hg_; have HP := Aside0.mk HI.out.pt; obtain ⟨z0, z1, z2, z3, z4, z5, z6, z7, z8, z9⟩ := HP.out.cz; obtain ⟨y0, y1, y2, y3, y4, y5, y6, y7, y8, y9⟩ := HP.out.cf; rw [HVO.out] at z2))
 have HQ := aC HI.out (aC HE.out (aE BK.out))
 refine st 4 (fun w' => True) [] (bv 4 0) note_parser_ends.tab3 note_parser_ends.bits3 trivial (fun hHeld HT_ HW_ => ?_)
 have n_ := aC (HI.out.below (below_drew1 (Below.refl _ _))) (aC (Kd.R_below HE.out (below_drew1 (Below.refl _ _))) (aE (blk_below BK.out (below_drew1 (Below.refl _ _)))))
 clear HI HE BK HP HQ z0 z1 z2 z3 z4 z5 z6 z7 z8 z9 y0 y1 y2 y3 y4 y5 y6 y7 y8 y9
 obtain ⟨HI, HE, BK⟩ := n_
 generalize w1.drew = w2 at HI HE BK ⊢
 refine one_ (i := 0) (N := some 12) (bv 4 1) rfl rfl (one_of HT_.out (by kernel_rfl)) (by decide) (fun K hK => ?_)
 refine value_ (w1 := ?_) (v := ?_) (by rfl) rfl ?_ ?_
 rotate_left 2
 ·go_simp
  constructor
  ·rfl
  ·rfl
 refine hK.out _ _ trivial (fun hHeld => ?_)
 clear hK K
 refine nm (some 12) ?_
 have BC0 : (w2.alloc (.cells #[.bool false] 4)).heap[w2.heap.size]? = some (.cells #[.bool false] 4 (0, 0)) := by simpa using heap_alloc_new w2 _
 have hb0 : Below w2.heap.size w2 (w2.alloc (.cells #[.bool false] 4)) := below_alloc (Below.refl _ _) _
 generalize World.alloc w2 _ = w3 at BC0 hb0 ⊢
 have c0 : w3.cell? ⟨w2.heap.size, 0, none⟩ = some (.bool false) := (blk_cell BC0 0).trans rfl
 have d0 : w3.frozen? ⟨w2.heap.size, 0, none⟩ = false := blk_frozen BC0 0
 refine two_ (i := 1) (j := 2) (Ni := none) (Nj := none) (bv 4 3) (bv 4 5) rfl rfl rfl rfl (two_of HT_.out (by kernel_rfl)) (by decide) (by decide) (fun K hK => ?_) (fun K hK => ?_)
 ·refine want_ (by rfl) ?_
  unfold Oper.wp
  go_simp
  refine hK.out _ _ trivial (fun hHeld => ?_)
  clear hK K hHeld
  have BC1 := blk_put (cs := #[.bool false]) BC0 0 (.bool true) rfl
  have hb1 := show Below w2.heap.size w2 (w3.setCell ⟨w2.heap.size, 0, none⟩ (.bool true)) from below_set hb0 (Nat.le_refl _)
  clear BC0 hb0 c0 d0
  generalize World.setCell w3 _ _ = w4 at BC1 hb1 ⊢
  have c0 : w4.cell? ⟨w2.heap.size, 0, none⟩ = some (.bool true) := (blk_cell BC1 0).trans rfl
  have d0 : w4.frozen? ⟨w2.heap.size, 0, none⟩ = false := blk_frozen BC1 0
  refine one_ (i := 2) (N := none) (bv 4 7) rfl rfl (one_of HT_.out (by kernel_rfl)) (by decide) (fun K hK => ?_)
  refine want_ (by rfl) ?_
  unfold Oper.wp
  go_simp
  refine hK.out _ _ trivial (fun hHeld => ?_)
  clear hK K
  have BC2 := blk_put (cs := #[.bool true]) BC1 0 (.bool false) rfl
  have hb2 := show Below w2.heap.size w2 (w4.setCell ⟨w2.heap.size, 0, none⟩ (.bool false)) from below_set hb1 (Nat.le_refl _)
  clear BC1 hb1 c0 d0
  generalize World.setCell w4 _ _ = w5 at BC2 hb2 ⊢
  have c0 : w5.cell? ⟨w2.heap.size, 0, none⟩ = some (.bool false) := (blk_cell BC2 0).trans rfl
  refine ld 3 13 (bv 4 15) HT_ rfl rfl trivial (by go_simp; with_reducible rfl) ?_
  refine done_ (done_of HT_.out (by kernel_rfl)) ?_
  clear hHeld HT_ HW_ c0 BC2
  have n_ := aC (HI.out.below hb2) (aC (Kd.R_below HE.out hb2) (aE (blk_below BK.out hb2)))
  clear HI HE BK hb2
  obtain ⟨HI, HE, BK⟩ := n_
  have HP := Aside0.mk HI.out.pt
  obtain ⟨z0, z1, z2, z3, z4, z5, z6, z7, z8, z9⟩ := HP.out.cz
  obtain ⟨y0, y1, y2, y3, y4, y5, y6, y7, y8, y9⟩ := HP.out.cf
  rw [HVO.out] at z2
  obtain ⟨q0, q1, q2, q3, _⟩ := cz4f BK.out
  go_wp2
  have ew : wrap64 (init.length : Int) = (init.length : Int) := by unfold wrap64; omega
  have ez := Int.toNat_natCast init.length
  have el : ((init.length : Int) < (init.length : Int) + 1) = True := eq_true (by omega)
  obtain ⟨b_, c_, hvo_, hcell, hbk, hcol, hcap⟩ := HI.out.2.1.top
  rw [HVO.out] at hvo_
  injection hvo_ with e1_ e2_ e3_
  injection e1_ with e1_
  injection e1_ with e1_
  subst e1_; subst e3_
  clear e2_
  have HQ := aC HI.out.2.1.high (aC hbk (aC hcol (aE hcap)))
  clear hbk hcol hcap
  refine st 21 (fun w' => w'.cell? ⟨g, 2, none⟩ = some (.slice (some ⟨b, 0, none⟩) (init.length + 1) c) ∧ w'.cell? ⟨b, init.length * 4 + 3, none⟩ = some (.slice Av kids.length cv) ∧ w'.cell? ⟨gb, 0, none⟩ = some (.int .i64 e.f0) ∧ w'.cell? ⟨gb, 1, none⟩ = some (.string e.f1) ∧ w'.cell? ⟨gb, 2, none⟩ = some (.int .i64 e.f2) ∧ w'.cell? ⟨gb, 3, none⟩ = some (.slice Ae e.f3.length ce)) [20] (bv 21 0) note_parser_ends.tab6 note_parser_ends.bits6 ⟨z2, hcell, q0, q1, q2, q3⟩ (fun hHeld HT_ HW_ => ?_)
  have n_ := aC (HI.out.below (below_drew1 (Below.refl _ _))) (aC (Kd.R_below HE.out (below_drew1 (Below.refl _ _))) (aE (blk_below BK.out (below_drew1 (Below.refl _ _)))))
  clear HI HE BK HP HQ hcell z0 z1 z2 z3 z4 z5 z6 z7 z8 z9 y0 y1 y2 y3 y4 y5 y6 y7 y8 y9 q0 q1 q2 q3
  obtain ⟨HI, HE, BK⟩ := n_
  generalize w5.drew = w6 at HI HE BK hHeld ⊢
  have HH := aE hHeld
  have hS := HI.out.2.1
  rw [HVO.out] at hS
  have HC0 := aE hS.col0
  clear hS
  refine pu 0 36 (bv 21 1) HT_ rfl rfl ?_
  refine pu 1 37 (bv 21 3) HT_ rfl rfl ?_
  refine pu 2 38 (bv 21 7) HT_ rfl rfl ?_
  refine tk 3 39 (bv 21 15) HT_ HW_ hHeld rfl rfl (by rintro w' ⟨s2, sK, t0, t1, t2, t3⟩; exact yl) ?_
  refine pu 4 40 (bv 21 31) HT_ rfl rfl ?_
  refine pu 5 41 (bv 21 63) HT_ rfl rfl ?_
  refine pu 6 42 (bv 21 127) HT_ rfl rfl ?_
  refine pu 7 43 (bv 21 255) HT_ rfl rfl ?_
  refine pu 8 44 (bv 21 511) HT_ rfl rfl ?_
  refine tk 9 45 (bv 21 1023) HT_ HW_ hHeld rfl rfl (by rintro w' ⟨s2, sK, t0, t1, t2, t3⟩; exact yl) ?_
  refine pu 10 46 (bv 21 2047) HT_ rfl rfl ?_
  refine pu 11 47 (bv 21 4095) HT_ rfl rfl ?_
  refine pu 12 48 (bv 21 8191) HT_ rfl rfl ?_
  refine pu 13 49 (bv 21 16383) HT_ rfl rfl ?_
  refine tk 14 50 (bv 21 32767) HT_ HW_ hHeld rfl rfl (by rintro w' ⟨s2, sK, t0, t1, t2, t3⟩; exact yl) ?_
  refine tk 15 51 (bv 21 65535) HT_ HW_ hHeld rfl rfl (by rintro w' ⟨s2, sK, t0, t1, t2, t3⟩; exact yl) ?_
  refine one_ (i := 16) (N := some 52) (bv 21 131071) rfl rfl (one_of HT_.out (by kernel_rfl)) (by decide) (fun K hK => ?_)
  refine value_ (w1 := ?_) (v := ?_) (by rfl) rfl ?_ ?_
  rotate_left 2
  ·go_simp
   constructor
   ·rfl
   ·rfl
  refine hK.out _ _ ⟨hcB (below_alloc (Below.refl _ _) _) HH.out.1, hcB (below_alloc (Below.refl _ _) _) HH.out.2.1, hcB (below_alloc (Below.refl _ _) _) HH.out.2.2.1, hcB (below_alloc (Below.refl _ _) _) HH.out.2.2.2.1, hcB (below_alloc (Below.refl _ _) _) HH.out.2.2.2.2.1, hcB (below_alloc (Below.refl _ _) _) HH.out.2.2.2.2.2⟩ (fun hHeld => ?_)
  clear hK K
  refine nm (some 52) ?_
  refine one_ (i := 17) (N := some 53) (bv 21 262143) rfl rfl (one_of HT_.out (by kernel_rfl)) (by decide) (fun K hK => ?_)
  refine Kd.R_append_step k33 (w0 := w0) w0.heap.size (by rfl) (.tmp 50) (.tmp 52) 31 33 (.agg #[(.int .i64 0), (.string ⟨#[]⟩), (.int .i64 0), (.slice none 0 0)]) 56 rfl Tryd.underlying31 info33 rfl (by decide) (by omega) (.slice Av kids.length cv) kids e [.int .i64 e.f0, .string e.f1, .int .i64 e.f2, .slice Ae e.f3.length ce] (fun k => col k = init.length + 2 ∨ col k = init.length + 3 ∨ w6.heap.size ≤ k) (fun k => col k = init.length + 3) rfl rfl ?aP ?aK ?aF ?aO ?aB ?aS ?aL ?_
  case aP => exact k33_mkM _ _ _ e HE.out
  case aK => exact fun k hk => ⟨.inr (.inl hk), fun e_ => by have := (HI.out.ne k e_.symm).1; omega⟩
  case aF => exact fun k hk => .inr (.inr hk)
  case aO => exact Kd.R_mono HI.out.2.1.high (fun k hk => .inl hk)
  case aB => exact HI.out.1.2.1
  case aS => exact HI.out.1.2.1.size
  case aL => exact LM.out
  intro v1 w7 ho hb hg hat
  obtain ⟨g1, c1, rfl⟩ := R_ptr ho (by simp)
  have gp : some g ≠ (Value.slice Av kids.length cv).ownBlock := fun e_ => (HI.out.ne g e_.symm).2.2.2 rfl
  have bp : some b ≠ (Value.slice Av kids.length cv).ownBlock := fun e_ => by have := (HI.out.ne b e_.symm).1; have := HC0.out.1; omega
  have gbp : some gb ≠ (Value.slice Av kids.length cv).ownBlock := fun e_ => by have := VB.out gb e_.symm; have := GB.out; omega
  have HF := aE (HI.out.more HVO.out hg hb ho)
  have zK := cell_grown hg bp HH.out.2.1
  have zF : w7.frozen? ⟨b, init.length * 4 + 3, none⟩ = false := by
   obtain ⟨cells, hc⟩ := HC0.out.2.2.2
   exact blk_frozen (blk_grown hc hg bp) _
  refine hK.out _ _ ⟨cell_grown hg gp HH.out.1, zK, cell_grown hg gbp HH.out.2.2.1, cell_grown hg gbp HH.out.2.2.2.1, cell_grown hg gbp HH.out.2.2.2.2.1, cell_grown hg gbp HH.out.2.2.2.2.2⟩ (fun hHeld => ?_)
  clear hK K
  refine nm (some 53) ?_
  refine pu 18 54 (bv 21 524287) HT_ rfl rfl ?_
  refine pu 19 55 (bv 21 1048575) HT_ rfl rfl ?_
  refine last_ (i := 20) (N := none) (bv 21 2097151) rfl rfl (one_of HT_.out (by kernel_rfl)) (by decide) (fun K hK => ?_)
  refine want_ (by rfl) ?_
  unfold Oper.wp
  go_simp
  refine hK.out _ _ ?_
  clear hK K
  refine done_ (done_of HT_.out (by kernel_rfl)) ?_
  clear hHeld HT_ HW_
  go_wp2
  refine bodyPost_ret (results_none rfl _ _ _) rfl ?_
  have hh := HF.out
  simp only [List.length_append, List.length_singleton] at hh
  exact ⟨rfl, _, _, hh⟩
 ·refine want_ (by rfl) ?_
  unfold Oper.wp
  go_simp
  refine hK.out _ _ trivial (fun hHeld => ?_)
  clear hK K hHeld
  have BC1 := blk_put (cs := #[.bool false]) BC0 0 (.bool false) rfl
  have hb1 := show Below w2.heap.size w2 (w3.setCell ⟨w2.heap.size, 0, none⟩ (.bool false)) from below_set hb0 (Nat.le_refl _)
  clear BC0 hb0 c0 d0
  generalize World.setCell w3 _ _ = w4 at BC1 hb1 ⊢
  have c0 : w4.cell? ⟨w2.heap.size, 0, none⟩ = some (.bool false) := (blk_cell BC1 0).trans rfl
  have d0 : w4.frozen? ⟨w2.heap.size, 0, none⟩ = false := blk_frozen BC1 0
  refine one_ (i := 1) (N := none) (bv 4 7) rfl rfl (one_of HT_.out (by kernel_rfl)) (by decide) (fun K hK => ?_)
  refine want_ (by rfl) ?_
  unfold Oper.wp
  go_simp
  refine hK.out _ _ trivial (fun hHeld => ?_)
  clear hK K
  have BC2 := blk_put (cs := #[.bool false]) BC1 0 (.bool true) rfl
  have hb2 := show Below w2.heap.size w2 (w4.setCell ⟨w2.heap.size, 0, none⟩ (.bool true)) from below_set hb1 (Nat.le_refl _)
  clear BC1 hb1 c0 d0
  generalize World.setCell w4 _ _ = w5 at BC2 hb2 ⊢
  have c0 : w5.cell? ⟨w2.heap.size, 0, none⟩ = some (.bool true) := (blk_cell BC2 0).trans rfl
  refine ld 3 13 (bv 4 15) HT_ rfl rfl trivial (by go_simp; with_reducible rfl) ?_
  refine done_ (done_of HT_.out (by kernel_rfl)) ?_
  clear hHeld HT_ HW_ c0 BC2
  have n_ := aC (HI.out.below hb2) (aC (Kd.R_below HE.out hb2) (aE (blk_below BK.out hb2)))
  clear HI HE BK hb2
  obtain ⟨HI, HE, BK⟩ := n_
  have HP := Aside0.mk HI.out.pt
  obtain ⟨z0, z1, z2, z3, z4, z5, z6, z7, z8, z9⟩ := HP.out.cz
  obtain ⟨y0, y1, y2, y3, y4, y5, y6, y7, y8, y9⟩ := HP.out.cf
  rw [HVO.out] at z2
  obtain ⟨q0, q1, q2, q3, _⟩ := cz4f BK.out
  go_wp2
  have ew : wrap64 (init.length : Int) = (init.length : Int) := by unfold wrap64; omega
  have ez := Int.toNat_natCast init.length
  have el : ((init.length : Int) < (init.length : Int) + 1) = True := eq_true (by omega)
  obtain ⟨b_, c_, hvo_, hcell, hbk, hcol, hcap⟩ := HI.out.2.1.top
  rw [HVO.out] at hvo_
  injection hvo_ with e1_ e2_ e3_
  injection e1_ with e1_
  injection e1_ with e1_
  subst e1_; subst e3_
  clear e2_
  have HQ := aC HI.out.2.1.high (aC hbk (aC hcol (aE hcap)))
  clear hbk hcol hcap
  refine st 22 (fun w' => w'.cell? ⟨g, 2, none⟩ = some (.slice (some ⟨b, 0, none⟩) (init.length + 1) c) ∧ w'.cell? ⟨b, init.length * 4 + 3, none⟩ = some (.slice Av kids.length cv) ∧ w'.cell? ⟨gb, 0, none⟩ = some (.int .i64 e.f0) ∧ w'.cell? ⟨gb, 1, none⟩ = some (.string e.f1) ∧ w'.cell? ⟨gb, 2, none⟩ = some (.int .i64 e.f2) ∧ w'.cell? ⟨gb, 3, none⟩ = some (.slice Ae e.f3.length ce)) [21] (bv 22 0) note_parser_ends.tab4 note_parser_ends.bits4 ⟨z2, hcell, q0, q1, q2, q3⟩ (fun hHeld HT_ HW_ => ?_)
  have n_ := aC (HI.out.below (below_drew1 (Below.refl _ _))) (aC (Kd.R_below HE.out (below_drew1 (Below.refl _ _))) (aE (blk_below BK.out (below_drew1 (Below.refl _ _)))))
  clear HI HE BK HP HQ hcell z0 z1 z2 z3 z4 z5 z6 z7 z8 z9 y0 y1 y2 y3 y4 y5 y6 y7 y8 y9 q0 q1 q2 q3
  obtain ⟨HI, HE, BK⟩ := n_
  generalize w5.drew = w6 at HI HE BK hHeld ⊢
  have HH := aE hHeld
  have hS := HI.out.2.1
  rw [HVO.out] at hS
  have HC0 := aE hS.col0
  clear hS
  refine pu 0 14 (bv 22 1) HT_ rfl rfl ?_
  refine pu 1 15 (bv 22 3) HT_ rfl rfl ?_
  refine pu 2 16 (bv 22 7) HT_ rfl rfl ?_
  refine tk 3 17 (bv 22 15) HT_ HW_ hHeld rfl rfl (by rintro w' ⟨s2, sK, t0, t1, t2, t3⟩; exact yl) ?_
  refine pu 4 18 (bv 22 31) HT_ rfl rfl ?_
  refine pu 5 19 (bv 22 63) HT_ rfl rfl ?_
  refine pu 6 20 (bv 22 127) HT_ rfl rfl ?_
  refine pu 7 21 (bv 22 255) HT_ rfl rfl ?_
  refine pu 8 22 (bv 22 511) HT_ rfl rfl ?_
  refine tk 9 23 (bv 22 1023) HT_ HW_ hHeld rfl rfl (by rintro w' ⟨s2, sK, t0, t1, t2, t3⟩; exact yl) ?_
  refine pu 10 24 (bv 22 2047) HT_ rfl rfl ?_
  refine pu 11 25 (bv 22 4095) HT_ rfl rfl ?_
  refine pu 12 26 (bv 22 8191) HT_ rfl rfl ?_
  refine pu 13 27 (bv 22 16383) HT_ rfl rfl ?_
  refine tk 14 28 (bv 22 32767) HT_ HW_ hHeld rfl rfl (by rintro w' ⟨s2, sK, t0, t1, t2, t3⟩; exact yl) ?_
  refine tk 15 29 (bv 22 65535) HT_ HW_ hHeld rfl rfl (by rintro w' ⟨s2, sK, t0, t1, t2, t3⟩; exact yl) ?_
  refine pu 16 30 (bv 22 131071) HT_ rfl rfl ?_
  refine one_ (i := 17) (N := some 31) (bv 22 262143) rfl rfl (one_of HT_.out (by kernel_rfl)) (by decide) (fun K hK => ?_)
  refine value_ (w1 := ?_) (v := ?_) (by rfl) rfl ?_ ?_
  rotate_left 2
  ·go_simp
   constructor
   ·rfl
   ·rfl
  refine hK.out _ _ ⟨hcB (below_alloc (Below.refl _ _) _) HH.out.1, hcB (below_alloc (Below.refl _ _) _) HH.out.2.1, hcB (below_alloc (Below.refl _ _) _) HH.out.2.2.1, hcB (below_alloc (Below.refl _ _) _) HH.out.2.2.2.1, hcB (below_alloc (Below.refl _ _) _) HH.out.2.2.2.2.1, hcB (below_alloc (Below.refl _ _) _) HH.out.2.2.2.2.2⟩ (fun hHeld => ?_)
  clear hK K
  refine nm (some 31) ?_
  refine one_ (i := 18) (N := some 32) (bv 22 524287) rfl rfl (one_of HT_.out (by kernel_rfl)) (by decide) (fun K hK => ?_)
  refine Kd.R_append_step k33 (w0 := w0) w0.heap.size (by rfl) (.tmp 28) (.tmp 31) 31 33 (.agg #[(.int .i64 0), (.string ⟨#[]⟩), (.int .i64 0), (.slice none 0 0)]) 56 rfl Tryd.underlying31 info33 rfl (by decide) (by omega) (.slice Av kids.length cv) kids z33 [.int .i64 0, .string (⟨#[]⟩ : ByteArray), .int .i64 0, .slice none 0 0] (fun k => col k = init.length + 2 ∨ col k = init.length + 3 ∨ w6.heap.size ≤ k) (fun _ => False) rfl rfl ?aP ?aK ?aF ?aO ?aB ?aS ?aL ?_
  case aP => exact k33_mkM _ _ _ z33 (Kd.R_nil _ _ _ _ _)
  case aK => exact fun k hk => hk.elim
  case aF => exact fun k hk => .inr (.inr hk)
  case aO => exact Kd.R_mono HI.out.2.1.high (fun k hk => .inl hk)
  case aB => exact HI.out.1.2.1
  case aS => exact HI.out.1.2.1.size
  case aL => exact LM.out
  intro v1 w7 ho hb hg hat
  obtain ⟨g1, c1, rfl⟩ := R_ptr ho (by simp)
  have gp : some g ≠ (Value.slice Av kids.length cv).ownBlock := fun e_ => (HI.out.ne g e_.symm).2.2.2 rfl
  have bp : some b ≠ (Value.slice Av kids.length cv).ownBlock := fun e_ => by have := (HI.out.ne b e_.symm).1; have := HC0.out.1; omega
  have gbp : some gb ≠ (Value.slice Av kids.length cv).ownBlock := fun e_ => by have := VB.out gb e_.symm; have := GB.out; omega
  have HF := aE (HI.out.more HVO.out hg hb ho)
  have zK := cell_grown hg bp HH.out.2.1
  have zF : w7.frozen? ⟨b, init.length * 4 + 3, none⟩ = false := by
   obtain ⟨cells, hc⟩ := HC0.out.2.2.2
   exact blk_frozen (blk_grown hc hg bp) _
  refine hK.out _ _ ⟨cell_grown hg gp HH.out.1, zK, cell_grown hg gbp HH.out.2.2.1, cell_grown hg gbp HH.out.2.2.2.1, cell_grown hg gbp HH.out.2.2.2.2.1, cell_grown hg gbp HH.out.2.2.2.2.2⟩ (fun hHeld => ?_)
  clear hK K
  refine nm (some 32) ?_
  refine pu 19 33 (bv 22 1048575) HT_ rfl rfl ?_
  refine pu 20 34 (bv 22 2097151) HT_ rfl rfl ?_
  refine last_ (i := 21) (N := none) (bv 22 4194303) rfl rfl (one_of HT_.out (by kernel_rfl)) (by decide) (fun K hK => ?_)
  refine want_ (by rfl) ?_
  unfold Oper.wp
  go_simp
  refine hK.out _ _ ?_
  clear hK K
  refine done_ (done_of HT_.out (by kernel_rfl)) ?_
  clear hHeld HT_ HW_
  have hz := HF.out.2.1.high
  obtain ⟨A2, c2, e2, hl2, hC2⟩ := Kd.R_reads hz
  injection e2 with e2 e3 e4
  subst e2
  have hkl : (kids ++ [z33]).length = kids.length + 1 := by simp
  obtain ⟨ad, cz, e5, hcl, hK, hcc⟩ := Kd.C_get hC2 z33 (kids.length : Int) (by omega) (by rw [hkl]; omega)
  injection e5 with e5
  subst e5
  have ekl := Int.toNat_natCast kids.length
  have HCC := aC hcl (aE (fun j u (hu : cz[j]? = some u) => by have h_ := hcc j u hu; rw [addr_add0] at h_; exact h_))
  clear hcc hK hcl hC2 hl2 e3 e4
  have HZ := aE hz
  clear hz
  have HM := aE (show Kd.M k33 (w7.setCell ⟨b, init.length * 4 + 3, none⟩ (.slice (some ⟨g1, 0, none⟩) (kids ++ [z33]).length c1)) w0.heap.size (fun k => col k = init.length + 3 ∧ k < w6.heap.size) e (cz.take 0 ++ [.int .i64 e.f0, .string e.f1, .int .i64 e.f2, .slice Ae e.f3.length ce] ++ cz.drop (0 + 4)) from by
   rw [List.take_zero, List.nil_append, List.drop_eq_nil_of_le (by have := HCC.1.out; exact Nat.le_of_eq this), List.append_nil]
   refine k33_mkM _ _ _ e ?_
   have h2 : Kd.R k33 33 w6 w0.heap.size (fun k => col k = init.length + 3 ∧ k < w6.heap.size) (.slice Ae e.f3.length ce) e.f3 := Kd.R_mono (Kd.R_bound HE.out) (fun k hk => ⟨hk.1, hk.2.2.1⟩)
   exact k33_q (w := w6) (e := 0) h2 (fun k hk ho_ _ => (Below.heap_setCell w7 ⟨b, init.length * 4 + 3, none⟩ _ k (fun e_ => by have := HC0.out.1; have := ho_.1; subst e_; omega)).trans (hg.block k hk (fun e_ => by have := (HI.out.ne k e_.symm).1; have := ho_.1; omega))))
  have HNE := aE (show ¬ (col g1 = init.length + 3 ∧ g1 < w6.heap.size) from fun h_ => by
   rcases hat with hat | ⟨b2, hb2, hb3⟩
   ·have := (HI.out.ne g1 hat.symm).1
    omega
   ·have hb4 : g1 = b2 := by injection hb2
    omega)
  rw [hkl] at HF HZ HCC HM
  have ell : ((kids.length : Int) < (kids.length : Int) + 1) = True := eq_true (by omega)
  go_wp2_with (first | ((with_reducible refine gate_ (.store 33 (.tmp 35) (.tmp 29)) rfl ?_); refine Kd.R_store k33 (w0 := w0) w0.heap.size rfl rfl 33 (.tmp 35) (.tmp 29) rfl 33 (kids.length : Int) 0 (kids ++ [z33]) e (.agg #[.int .i64 e.f0, .string e.f1, .int .i64 e.f2, .slice Ae e.f3.length ce]) [.int .i64 e.f0, .string e.f1, .int .i64 e.f2, .slice Ae e.f3.length ce] cz (fun k => (if col k = init.length + 3 ∨ w6.heap.size ≤ k then init.length + 2 else col k) = init.length + 2) (fun k => col k = init.length + 3 ∧ k < w6.heap.size) rfl rfl rfl rfl (by kernel_rfl) (by simp [Value.oneCell']) HZ.out (by omega) (by omega) HCC.1.out HCC.2.out (Nat.le_of_eq rfl) ?aM ?aK HF.out.1.2.1 ?_; (case aM => exact HM.out); (case aK => exact fun k hk => ⟨if_pos (.inl hk.1), fun e_ => HNE.out (e_ ▸ hk)⟩); intro w9 ho9 hb9 hg9; have HF9 := aE (HF.out.poke rfl hg9 hb9 ho9); clear ho9 hb9 hg9))
  refine bodyPost_ret (results_none rfl _ _ _) rfl ?_
  have hh := HF9.out
  rw [Int.toNat_natCast, show (kids ++ [z33]).set kids.length e = kids ++ [e] by simp] at hh
  exact ⟨rfl, _, _, hh⟩
set_option maxHeartbeats 8000000 in
set_option maxRecDepth 100000 in
theorem note_parser_ends.nil (col : Nat → Nat) (g : Nat) (p : Pz) (x : List S33) (e : S33) (ev : Value) (w0 w : World) (hI : Pk col w0 w g p [] [] x)
  (he : Kd.R k33 33 w w0.heap.size (fun k => col k = 2) ev e.f3) :
  Calls Tryd.prog 84 #[.pointer (some ⟨g, 0, none⟩), .agg #[.int .i64 e.f0, .string e.f1, .int .i64 e.f2, ev]] w fun r w' => r = .returned (.tuple #[]) ∧ ∃ (col' : Nat → Nat), Pk col' w0 w' g { p with done := true, xk := e.f0, xt := e.f1, xn := e.f2, xv := ev } [] [] e.f3 := by
 have hu := Tryd.underlying93
 have hu33 := Tryd.underlying33
 obtain ⟨Ae, ce, rfl⟩ := Kd.R_slice he
 obtain ⟨A, c, hvo, _⟩ := Kd.R_reads hI.2.1.2.1
 have HVO := Aside0.mk hvo
 have HI := Aside0.mk hI
 have HE := Aside0.mk he
 clear hI he hvo
 go_enter Tryd.func84, Tryd.ntmps84
 go_wp2_with (first | ((with_reducible refine gd 3 rfl ?_); refine bx 3 #[.int .i64 e.f0, .string e.f1, .int .i64 e.f2, .slice Ae e.f3.length ce] 33 rfl rfl ?_; intro gb hg_ w1 hbox hb; have n_ := aC (HI.out.below hb) (aC (Kd.R_below HE.out hb) (aE hbox)); have GB := aE (show g ≠ gb from fun e_ => by have := blk_lt HI.out.1.1; omega); clear HI HE; obtain ⟨HI, HE, BK⟩ := n_; clear hb hbox hg_; have HP := Aside0.mk HI.out.pt; obtain ⟨z0, z1, z2, z3, z4, z5, z6, z7, z8, z9⟩ := HP.out.cz; obtain ⟨y0, y1, y2, y3, y4, y5, y6, y7, y8, y9⟩ := HP.out.cf; rw [HVO.out] at z2; obtain ⟨q0, q1, q2, q3, _⟩ := cz4f BK.out))
 go_end0
 have hp := HP.out
 have h2 := hp.xkS e.f0
 have h3 := h2.xtS e.f1
 have h4 := h3.xnS e.f2
 have h5 := h4.xvS (.slice Ae e.f3.length ce)
 have h6 := h5.doneS true
 refine ⟨rfl, fun k => if col k = 2 then 1 else if col k = 1 then 3 else col k, ?_⟩
 have h7 := HI.out
 refine ⟨⟨h6.1, h6.2.2.1, h6.2.2.2⟩, ?_, ?_⟩
 ·refine SkV.recol (col := col) (h7.2.1.keep h7.1.1 (by decide) h6.2.1) (fun k _ hc hc1 => ?_)
  show (if col k = 2 then 1 else if col k = 1 then 3 else col k) = col k
  simp only [List.length_nil] at hc
  rw [if_neg (by omega), if_neg hc1]
 ·refine Kd.R_mono (k33_q (w := w) (e := 0) HE.out (fun k hk _ ⟨cells, hc⟩ => h6.2.1.2 k hk (not_type h7.1.1 (by decide) hc) (by simp))) (fun k hk => ?_)
  show (if col k = 2 then 1 else if col k = 1 then 3 else col k) = 1
  rw [if_pos hk]
def note_parser_ends.f (st : Ps) (e : S33) : Option Ps := match st.rs with
 | [] => some { st with done := true, x := e }
 | kids :: rs => if (kids.length + 1) * 56 ≤ 140737488355328 ∧ rs.length ≤ 1000000 then some { st with rs := (kids ++ [e]) :: rs } else none
theorem note_parser_ends.calls (st st' : Ps) (s : ByteArray) (g : Nat) (col : Nat → Nat) (vo xv : Value) (vs : List Value) (e : S33) (ev : Value) (w0 w : World) (hI : Pk col w0 w g (st.pz s vo xv) vs st.rs.reverse st.x.f3)
  (he : Kd.R k33 33 w w0.heap.size (fun k => col k = st.rs.length + 2) ev e.f3) (h : note_parser_ends.f st e = some st') :
  Calls Tryd.prog 84 #[.pointer (some ⟨g, 0, none⟩), .agg #[.int .i64 e.f0, .string e.f1, .int .i64 e.f2, ev]] w fun r w' => r = .returned (.tuple #[]) ∧ Ip w0 w' g s st' := by
 obtain ⟨at_, rs, deep, many, done, x⟩ := st
 unfold note_parser_ends.f at h
 cases rs with
 | nil =>
  obtain rfl := Option.some.inj h
  have h1 := hI.2.1.1
  simp only [List.reverse_nil, List.length_nil] at h1
  obtain rfl := List.length_eq_zero_iff.1 h1
  refine (note_parser_ends.nil col g _ x.f3 e ev w0 w hI he).mono ?_
  rintro r w' ⟨rfl, col', h2⟩
  exact ⟨rfl, col', _, [], ev, h2⟩
 | cons kids rs =>
  have h : (if (kids.length + 1) * 56 ≤ 140737488355328 ∧ rs.length ≤ 1000000 then some _ else none) = some st' := h
  by_cases c : (kids.length + 1) * 56 ≤ 140737488355328 ∧ rs.length ≤ 1000000
  ·rw [if_pos c] at h
   obtain rfl := Option.some.inj h
   have hI2 : Pk col w0 w g ((⟨at_, kids :: rs, deep, many, done, x⟩ : Ps).pz s vo xv) vs (rs.reverse ++ [kids]) x.f3 := by
    rw [← List.reverse_cons]
    exact hI
   obtain ⟨vs0, v, rfl⟩ := hI2.vs_concat
   refine (note_parser_ends.cons col g _ vs0 v rs.reverse kids x.f3 e ev w0 w hI2 (by rw [List.length_reverse]; exact he) c.1 (by rw [List.length_reverse]; exact c.2)).mono ?_
   rintro r w' ⟨rfl, col', v1, h2⟩
   refine ⟨rfl, col', vo, vs0 ++ [v1], xv, ?_⟩
   show Pk col' w0 w' g ((⟨at_, (kids ++ [e]) :: rs, deep, many, done, x⟩ : Ps).pz s vo xv) (vs0 ++ [v1]) ((kids ++ [e]) :: rs).reverse x.f3
   rw [List.reverse_cons]
   exact h2
  ·rw [if_neg c] at h
   cases h
end Go.Proofs.YtacdchogjpeffaaDoor.PNoteParses
