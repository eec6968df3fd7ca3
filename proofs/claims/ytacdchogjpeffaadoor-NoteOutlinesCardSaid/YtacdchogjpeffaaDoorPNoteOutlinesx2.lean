-- printed (wip/tools/myprint.py)
import Derived.Test.YtacdchogjpeffaaDoorPNoteOutlinesx0
import Derived.Test.YtacdchogjpeffaaDoorPNoteOutlinesx1
namespace Go.Proofs.YtacdchogjpeffaaDoor.PNoteOutlines
open Go.RowKit Go.Proofs.YtacdchogjpeffaaDoorW.PrintWords Go.Proofs.YtacdchogjpeffaaDoorW.PrintLast Go.Proofs.YtacdchogjpeffaaDoorW.PrintMore
attribute [local go_sem] max2_int min2_int max_two min_two max_three min_three max_four min_four
set_option linter.unusedVariables false
set_option linter.unusedSimpArgs false
theorem at_T33f {w W : World} {g : Nat} {A : Option Addr} {n : Nat} {xs : List S33} (h : ∀ W_, KeepBut w W_ g none → Kd.C k33 W_ A n xs) (hk : KeepBut w W g none) (i : Int) (h0 : 0 ≤ i) (h1 : i < n) : ∃ ad A2 c2, A = some ad ∧ W.cell? (ad.add (i.toNat * 4)) = some (.int .i64 (rd_T33 xs i).f0) ∧ W.cell? ⟨(ad.add (i.toNat * 4)).block, (ad.add (i.toNat * 4)).off + 1, none⟩ = some (.string (rd_T33 xs i).f1) ∧ W.cell? ⟨(ad.add (i.toNat * 4)).block, (ad.add (i.toNat * 4)).off + 2, none⟩ = some (.int .i64 (rd_T33 xs i).f2) ∧ W.cell? ⟨(ad.add (i.toNat * 4)).block, (ad.add (i.toNat * 4)).off + 3, none⟩ = some (.slice A2 (rd_T33 xs i).f3.length c2) ∧ (rd_T33 xs i).f3.length ≤ c2 ∧ k33.C W A2 (rd_T33 xs i).f3.length (rd_T33 xs i).f3 ∧ (∀ W_, KeepBut w W_ g none → k33.C W_ A2 (rd_T33 xs i).f3.length (rd_T33 xs i).f3) := by
 obtain ⟨ad, A2, c2, rfl, x0, x1, x2, x3, hl, hi⟩ := at_T33 (h W hk) i h0 h1
 refine ⟨ad, A2, c2, rfl, x0, x1, x2, x3, hl, hi, fun W_ k_ => ?_⟩
 have ne := Kd.foot_ne h (by omega) (show 0 < k33.sz by decide)
 have lt := Kd.foot_lt h (by omega) (show 0 < k33.sz by decide)
 obtain ⟨ad', B2, d2, e', y0, y1, y2, y3, hl', hj⟩ := at_T33 (h W_ k_) i h0 h1
 obtain rfl := Option.some.inj e'
 have e1 := (k_.2 ad.block lt ne (by simp)).trans (hk.2 ad.block lt ne (by simp)).symm
 have e2 : W_.cell? ⟨(ad.add (i.toNat * 4)).block, (ad.add (i.toNat * 4)).off + 3, none⟩ = W.cell? ⟨(ad.add (i.toNat * 4)).block, (ad.add (i.toNat * 4)).off + 3, none⟩ := by
  unfold World.cell?
  rw [add_block, e1]
 rw [e2, x3] at y3
 injection y3 with y
 injection y with z1 z2 z3
 rw [z1]
 exact hj
def IsS73 (w0 W : World) (g : Nat) (f0 : Int) : Prop := W.heap[g]? = some (.cells #[.int .i64 f0] 73 (0, 0)) ∧ w0.heap.size ≤ g
theorem IsS73.grown {w0 W : World} {g : Nat} {f0 : Int} {W1 : World} {row : Option Nat} (h : IsS73 w0 W g f0) (hw : W.grownBy W1 row) (hne : some g ≠ row) : IsS73 w0 W1 g f0 := by
 obtain ⟨hb, hg⟩ := h
 exact ⟨blk_grown hb hw hne, hg⟩
theorem IsS73.own_neN {w0 W : World} {g : Nat} {f0 : Int} {α : Type} {d : Kd α} {e : Nat} {base : Nat} {ok : Nat → Prop} {v : Value} {xs : List α} (h : IsS73 w0 W g f0) (ho : Kd.N d e W base ok v xs) (ht : e ≠ 73) : some g ≠ v.ownBlock := by
 obtain ⟨hb, hg⟩ := h
 exact Kd.N_ne ho hb ht
theorem IsS73.fresh {w0 W : World} {g : Nat} {f0 : Int} (h : IsS73 w0 W g f0) : ∀ k, W.heap.size ≤ k → k ≠ g := by
 obtain ⟨hb, hg⟩ := h
 exact Kd.freshB hb
theorem IsS73.kept {w0 W : World} {g : Nat} {f0 : Int} {W1 : World} {S : Nat → Prop} (h : IsS73 w0 W g f0) (hk : Kept W W1 S) (hne : ¬ S g) : IsS73 w0 W1 g f0 := by
 obtain ⟨hb, hg⟩ := h
 exact ⟨blk_kept hb hk hne, hg⟩
theorem IsS73.below {w0 W : World} {g : Nat} {f0 : Int} {W1 : World} (h : IsS73 w0 W g f0) (hw : Below W.heap.size W W1) : IsS73 w0 W1 g f0 := h.grown (grown_of_below hw none) (by simp)
theorem IsS73.alloc {w0 W : World} {g : Nat} {f0 : Int} (h : IsS73 w0 W g f0) (o : Obj) : IsS73 w0 (W.alloc o) g f0 := h.below (below_alloc (Below.refl _ _) o)
theorem IsS73.drewN {w0 W : World} {g : Nat} {f0 : Int} (h : IsS73 w0 W g f0) (m : Nat) : IsS73 w0 (W.drewN m) g f0 := h
theorem IsS73.drew {w0 W : World} {g : Nat} {f0 : Int} (h : IsS73 w0 W g f0) : IsS73 w0 W.drew g f0 := h
theorem IsS73.at_ {w0 W : World} {g : Nat} {f0 : Int} {w' : World} {m : Nat} (hq : W.drewN m = w') (h : IsS73 w0 W g f0) : IsS73 w0 w' g f0 := by subst hq; exact IsS73.drewN h m
theorem IsS73.apart {w0 W : World} {g : Nat} {f0 : Int} {α : Type} {d : Kd α} {e : Nat} {base : Nat} {ok : Nat → Prop} {v : Value} {xs : List α} (h : IsS73 w0 W g f0) (ho : d.R e W base ok v xs) (ht : ∀ q, q ∈ e :: d.E → q ≠ 73) : d.R e W base (fun k => ok k ∧ k ≠ g) v xs := by
 obtain ⟨hb, hg⟩ := h
 exact Kd.R_types ho hb ht
theorem IsS73.own_ne {w0 W : World} {g : Nat} {f0 : Int} {α : Type} {d : Kd α} {e : Nat} {base : Nat} {ok : Nat → Prop} {v : Value} {xs : List α} (h : IsS73 w0 W g f0) (ho : d.R e W base ok v xs) (ht : e ≠ 73) : some g ≠ v.ownBlock := by
 obtain ⟨hb, hg⟩ := h
 exact Kd.R_ne ho hb ht
theorem IsS73.apartQ {w0 W : World} {g : Nat} {f0 : Int} {α : Type} {d : Kd α} {e : Nat} {base : Nat} {ok : Nat → Prop} {v : Value} {xs : List α} (h : IsS73 w0 W g f0) (ho : d.Q e W base ok v xs) (ht : ∀ q, q ∈ e :: d.E → q ≠ 73) : d.Q e W base (fun k => ok k ∧ k ≠ g) v xs := by
 obtain ⟨hb, hg⟩ := h
 exact Kd.Q_types ho hb ht
theorem IsS73.own_neQ {w0 W : World} {g : Nat} {f0 : Int} {α : Type} {d : Kd α} {e : Nat} {base : Nat} {ok : Nat → Prop} {v : Value} {xs : List α} (h : IsS73 w0 W g f0) (ho : d.Q e W base ok v xs) (ht : e ≠ 73) : some g ≠ v.ownBlock := by
 obtain ⟨hb, hg⟩ := h
 exact Kd.Q_ne ho hb ht
theorem IsS73.apartS {w0 W : World} {g : Nat} {f0 : Int} {α : Type} {d : Kd α} {e : Nat} {base : Nat} {ok : Nat → Prop} {v : Value} {xs : List α} (h : IsS73 w0 W g f0) (ho : d.S e W base ok v xs) (ht : ∀ q, q ∈ e :: d.E → q ≠ 73) : d.S e W base (fun k => ok k ∧ k ≠ g) v xs := by
 obtain ⟨hb, hg⟩ := h
 exact Kd.S_types ho hb ht
theorem IsS73.own_neS {w0 W : World} {g : Nat} {f0 : Int} {α : Type} {d : Kd α} {e : Nat} {base : Nat} {ok : Nat → Prop} {v : Value} {xs : List α} (h : IsS73 w0 W g f0) (ho : d.S e W base ok v xs) (ht : e ≠ 73) : some g ≠ v.ownBlock := by
 obtain ⟨hb, hg⟩ := h
 exact Kd.S_ne ho hb ht
theorem IsS73.lt {w0 W : World} {g : Nat} {f0 : Int} (h : IsS73 w0 W g f0) : g < W.heap.size := by
 obtain ⟨hb, hg⟩ := h
 exact blk_lt hb
theorem IsS73.ge {w0 W : World} {g : Nat} {f0 : Int} (h : IsS73 w0 W g f0) : w0.heap.size ≤ g := by
 obtain ⟨hb, hg⟩ := h
 exact hg
theorem IsS73.ne_blk {w0 W : World} {g : Nat} {f0 : Int} {a : Nat} {cs : Array Value} {t : TypeId} {fr : Nat × Nat} (h : IsS73 w0 W g f0) (hb2 : W.heap[a]? = some (.cells cs t fr)) (ht : t ≠ 73) : g ≠ a := by
 obtain ⟨hb, hg⟩ := h
 rintro rfl
 rw [hb] at hb2
 injection hb2 with hb2
 injection hb2 with _ ht2
 exact ht ht2.symm
theorem IsS73.far {w0 W : World} {g : Nat} {f0 : Int} {p : Addr} (h : IsS73 w0 W g f0) (hne : g ≠ p.block) (u : Value) : IsS73 w0 (W.setCell p u) g f0 := by
 obtain ⟨hb, hg⟩ := h
 exact ⟨blk_far hb hne u, hg⟩
theorem cellS73_0 {W : World} {g : Nat} {f0 : Int} (h : W.heap[g]? = some (.cells #[.int .i64 f0] 73 (0, 0))) : W.cell? ⟨g, 0, none⟩ = some (.int .i64 f0) := (blk_cell h 0).trans rfl
theorem IsS73.set_0 {w0 W : World} {g : Nat} {f0 : Int} (h : IsS73 w0 W g f0) (x : Int) : IsS73 w0 (W.setCell ⟨g, 0, none⟩ (.int .i64 x)) g x := by
 obtain ⟨hb, hg⟩ := h
 exact ⟨by simpa using blk_set hb 0 (.int .i64 x), hg⟩
theorem IsS73.new (w0 W : World) (f0 : Int) (hB : Below w0.heap.size w0 W) : IsS73 w0 (W.alloc (.cells #[.int .i64 f0] 73)) W.heap.size f0 := ⟨by simpa using heap_alloc_new W _, hB.size⟩
mutual
def note_looks_right.j0 : Nat → Int → Bool → Int → Int → ByteArray → Int → List (S33) → Option (Bool × Int)
 | 0, _, _, _, _, _, _, _ => none
 | k + 1, x2, x29, x1000, x109000, x109001, x109002, x109003 => if x29 = true then (some (false, x1000)) else (note_looks_right.l0 k x2 x109003 (x109003.length : Int) 0 x1000)
def note_looks_right.l0 : Nat → Int → List (S33) → Int → Int → Int → Option (Bool × Int)
 | 0, _, _, _, _, _ => none
 | k + 1, x2, x31, x32, x33, x1000 => if x33 < x32 then (if 0 ≤ x33 then (if x33 < (x31.length : Int) then ((note_looks_right.f k x1000 ((rd_T33 x31 x33).f0) ((rd_T33 x31 x33).f1) ((rd_T33 x31 x33).f2) ((rd_T33 x31 x33).f3) (wrap64 (x2 + 1))).bind fun bt112 => (if bt112.1 = true then (note_looks_right.l0 k x2 x31 x32 (wrap64 (x33 + 1)) bt112.2) else (some (false, bt112.2)))) else (none)) else (none)) else (some (true, x1000))
def note_looks_right.f : Nat → Int → Int → ByteArray → Int → List (S33) → Int → Option (Bool × Int)
 | 0, _, _, _, _, _, _ => none
 | k + 1, s0_0, a1_0, a1_1, a1_2, l1_3, a2 => if (wrap64 (s0_0 + 1)) > 400 then (note_looks_right.j0 k a2 true (wrap64 (s0_0 + 1)) a1_0 a1_1 a1_2 l1_3) else (if a2 > 20 then (note_looks_right.j0 k a2 true (wrap64 (s0_0 + 1)) a1_0 a1_1 a1_2 l1_3) else ((note_isExpr.f a1_0 a1_1 a1_2 l1_3).bind fun t109 => (note_looks_right.j0 k a2 (!t109) (wrap64 (s0_0 + 1)) a1_0 a1_1 a1_2 l1_3)))
end
theorem note_looks_right.mono_l : ∀ k, (∀ y0 y1 y2 y3 y4 y5, LeO (note_looks_right.f k y0 y1 y2 y3 y4 y5) (note_looks_right.f (k + 1) y0 y1 y2 y3 y4 y5)) ∧ (∀ y0 y1 y2 y3 y4 y5 y6, LeO (note_looks_right.j0 k y0 y1 y2 y3 y4 y5 y6) (note_looks_right.j0 (k + 1) y0 y1 y2 y3 y4 y5 y6)) ∧ (∀ y0 y1 y2 y3 y4, LeO (note_looks_right.l0 k y0 y1 y2 y3 y4) (note_looks_right.l0 (k + 1) y0 y1 y2 y3 y4))
 | 0 => ⟨fun _ _ _ _ _ _ r h => by simp [note_looks_right.f] at h, fun _ _ _ _ _ _ _ r h => by simp [note_looks_right.j0] at h, fun _ _ _ _ _ r h => by simp [note_looks_right.l0] at h⟩
 | k + 1 => by
  obtain ⟨ih0, ih1, ih2⟩ := note_looks_right.mono_l k
  refine ⟨?_, ?_, ?_⟩
  ·intro y0 y1 y2 y3 y4 y5
   unfold note_looks_right.f
   repeat' first
   | (with_reducible exact ih0 _ _ _ _ _ _)
   | (with_reducible exact ih1 _ _ _ _ _ _ _)
   | (with_reducible exact ih2 _ _ _ _ _)
   | (with_reducible first | exact LeO.refl _ | exact LeO.none _ | refine LeO.ite ?_ ?_ | refine LeO.bind ?_ (fun _ => ?_))
  ·intro y0 y1 y2 y3 y4 y5 y6
   unfold note_looks_right.j0
   repeat' first
   | (with_reducible exact ih0 _ _ _ _ _ _)
   | (with_reducible exact ih1 _ _ _ _ _ _ _)
   | (with_reducible exact ih2 _ _ _ _ _)
   | (with_reducible first | exact LeO.refl _ | exact LeO.none _ | refine LeO.ite ?_ ?_ | refine LeO.bind ?_ (fun _ => ?_))
  ·intro y0 y1 y2 y3 y4
   unfold note_looks_right.l0
   repeat' first
   | (with_reducible exact ih0 _ _ _ _ _ _)
   | (with_reducible exact ih1 _ _ _ _ _ _ _)
   | (with_reducible exact ih2 _ _ _ _ _)
   | (with_reducible first | exact LeO.refl _ | exact LeO.none _ | refine LeO.ite ?_ ?_ | refine LeO.bind ?_ (fun _ => ?_))
theorem note_looks_right.mono : ∀ a0 a1 a2 a3 a4 a5 k, LeO (note_looks_right.f k a0 a1 a2 a3 a4 a5) (note_looks_right.f (k + 1) a0 a1 a2 a3 a4 a5) := by
 intro a0 a1 a2 a3 a4 a5 k
 obtain ⟨ih0, ih1, ih2⟩ := note_looks_right.mono_l k
 exact ih0 a0 a1 a2 a3 a4 a5
theorem IsS73.farG {w0 W : World} {g b j : Nat} {f0 : Int} (hne : g ≠ b) (h : IsS73 w0 W g f0) (u : Value) : IsS73 w0 (W.setCell ⟨b, j, none⟩ u) g f0 := IsS73.far (p := ⟨b, j, none⟩) h hne u
set_option maxHeartbeats 8000000 in
set_option maxRecDepth 100000 in
theorem note_looks_right.calls (k : Nat) : ∀ (g : Nat) (s0_0 : Int) (a1_0 : Int) (a1_1 : ByteArray) (a1_2 : Int) (A1_3 : Option Addr) (c1_3 : Nat) (l1_3 : List (S33)) (a2 : Int) (r1 : Bool) (r2 : Int) (w0 w : World) (hI : IsS73 w0 w g s0_0) (hB : Below w0.heap.size w0 w) (hr1_3 : ∀ W_, KeepBut w W_ g none → Kd.C k33 W_ A1_3 l1_3.length l1_3) (hc1_3 : l1_3.length ≤ c1_3) (h : note_looks_right.f k s0_0 a1_0 a1_1 a1_2 l1_3 a2 = some (r1, r2)),
  Calls Tryd.prog 59 #[.pointer (some ⟨g, 0, none⟩), .agg #[.int .i64 a1_0, .string a1_1, .int .i64 a1_2, .slice A1_3 l1_3.length c1_3], .int .i64 a2] w fun e w' => e = .returned (.bool r1) ∧ IsS73 w0 w' g r2 ∧ Below w0.heap.size w0 w' ∧ KeepBut w w' g none := by
 induction k using Nat.strongRecOn with
 | _ k ih =>
 intro g s0_0 a1_0 a1_1 a1_2 A1_3 c1_3 l1_3 a2 r1 r2 w0 w hI hB hr1_3 hc1_3 h
 cases k with
 | zero => exact absurd h (by simp [note_looks_right.f])
 | succ k =>
 simp only [note_looks_right.f] at h
 have hu33 := Tryd.underlying33
 have HR1_3 := Aside0.mk hr1_3
 have HC1_3 := Aside0.mk hc1_3
 clear hr1_3 hc1_3
 have HI0 := Aside0.mk hI
 have HK := Aside0.mk (KeepBut.refl w g none)
 have HL := Aside0.mk hB.size
 clear hI
 have HW0 := Aside0.mk hB.size
 have HB := Aside0.mk hB
 clear hB
 have H := h
 unfold note_looks_right.f at H
 clear h
 have HC4 := Aside0.mk H
 clear H
 go_enter Tryd.func59, Tryd.ntmps59
 go_upto_region 2 with (first | ((with_reducible refine gd 4 rfl ?_); refine bx 4 #[.int .i64 a1_0, .string a1_1, .int .i64 a1_2, .slice A1_3 l1_3.length c1_3] 33 rfl rfl ?_; intro gb108 hg w5 hbox hb; have n_ := aC (IsS73.below (by repeat (first | (with_reducible first | exact HI0.out | apply IsS73.alloc | apply IsS73.drewN | apply IsS73.drew | apply IsS73.set_0) | exact HI0.out)) hb) (aC (KeepBut.trans (by repeat (first | (with_reducible first | exact HK.out | apply KeepBut.set_ | apply keep_drewN | apply keep_drew | apply keep_alloc) | exact HK.out)) (KeepBut.of_below hb g none) (.inl rfl)) (aC (below_step (by repeat (first | (with_reducible first | exact HB.out | apply below_alloc | apply pw_below_drewN | apply below_drew1 | refine below_set ?_ (IsS73.ge HI0.out)) | exact HB.out)) hb) (aC hbox (aC ((by rw [hg]; exact (keep_size (w := w) (g := g) (row := none) (by repeat (first | (with_reducible first | exact HK.out | apply KeepBut.set_ | apply keep_drewN | apply keep_drew | apply keep_alloc) | exact HK.out))) : w.heap.size ≤ gb108)) (aC ((Nat.le_trans HW0.out (by rw [hg]; exact (keep_size (w := w) (g := g) (row := none) (by repeat (first | (with_reducible first | exact HK.out | apply KeepBut.set_ | apply keep_drewN | apply keep_drew | apply keep_alloc) | exact HK.out))) : w.heap.size ≤ gb108) : w0.heap.size ≤ gb108)) (aC ((by rw [hg]; exact Nat.ne_of_lt (IsS73.lt (show IsS73 w0 _ g s0_0 from by repeat (first | (with_reducible first | exact HI0.out | apply IsS73.alloc | apply IsS73.drewN | apply IsS73.drew | apply IsS73.set_0) | exact HI0.out))) : g ≠ gb108)) (aE ((by rw [hg]; exact Nat.ne_of_gt (IsS73.lt (show IsS73 w0 _ g s0_0 from by repeat (first | (with_reducible first | exact HI0.out | apply IsS73.alloc | apply IsS73.drewN | apply IsS73.drew | apply IsS73.set_0) | exact HI0.out))) : gb108 ≠ g))))))))); clear HI0 HK HB; obtain ⟨HI0, HK, HB, BK108, GW108, GE108, NB0_108, NB108_0⟩ := n_; clear hb hbox hg; obtain ⟨HGz6, hgz6⟩ := HI0.out; have hcz6_0 := cellS73_0 HGz6; have hfz6_0 := blk_frozen HGz6 0; clear HGz6 hgz6))
 (try simp only [Act.put, List.setIfInBounds_toArray, List.set_cons_zero, List.set_cons_succ])
 go_cut [29] (fun v29 wc => ∃ (kq : Nat) (x29_3 : Bool), v29 = .bool x29_3 ∧ Aside0 (note_looks_right.j0 kq a2 x29_3 (wrap64 (s0_0 + 1)) a1_0 a1_1 a1_2 l1_3 = some (r1, r2)) ∧ Aside0 (kq ≤ k) ∧ Aside0 (wc.heap[gb108]? = some (.cells #[.int .i64 a1_0, .string a1_1, .int .i64 a1_2, (.slice A1_3 l1_3.length c1_3)] 33 (0, 0))) ∧ Aside0 (IsS73 w0 wc g (wrap64 (s0_0 + 1))) ∧ Aside0 (KeepBut w wc g none) ∧ Aside0 (Below w0.heap.size w0 wc))
 case first =>
  have H := HC4.out
  clear HC4
  rcases iL H with H1 | H1 <;> clear H <;> obtain ⟨H, c7b0⟩ := H1
  ·(first | rw [c7b0] | (simp only [i64_w, i32_w]; rw [c7b0]) | skip)
   have H' := Aside0.mk H
   clear H
   obtain ⟨HGz8, hgz8⟩ := HI0.out
   have hcz8_0 := cellS73_0 HGz8
   have hfz8_0 := blk_frozen HGz8 0
   clear HGz8 hgz8
   go_wp2
   go_meet
   case rel => exact ⟨_, (true), rq, H', ⟨by first | omega | exact Nat.le_refl _⟩, ⟨by (with_reducible repeat (first | refine blk_drewN ?_ _ | refine blk_drew ?_ | refine blk_alloc ?_ _)); refine blk_far ?_ NB108_0.out _; (with_reducible repeat (first | refine blk_drewN ?_ _ | refine blk_drew ?_ | refine blk_alloc ?_ _)); exact BK108.out⟩, ⟨by repeat (first | (with_reducible first | exact HI0.out | apply IsS73.alloc | apply IsS73.drewN | apply IsS73.drew | apply IsS73.set_0 | apply IsS73.farG NB0_108.out) | exact HI0.out)⟩, ⟨by repeat (first | (with_reducible first | exact HK.out | apply KeepBut.set_ | apply keep_drewN | apply keep_drew | apply keep_alloc | refine keep_far ?_ GW108.out _) | exact HK.out)⟩, ⟨by repeat (first | (with_reducible first | exact HB.out | apply below_alloc | apply pw_below_drewN | apply below_drew1 | refine below_set ?_ (IsS73.ge HI0.out) | refine below_set ?_ GE108.out) | exact HB.out)⟩⟩
  ·(first | rw [c7b0] | (simp only [i64_w, i32_w]; rw [c7b0]) | skip)
   rcases iL H with H1 | H1 <;> clear H <;> obtain ⟨H, c9b0⟩ := H1
   ·have H' := Aside0.mk H
    clear H
    obtain ⟨HGz10, hgz10⟩ := HI0.out
    have hcz10_0 := cellS73_0 HGz10
    have hfz10_0 := blk_frozen HGz10 0
    clear HGz10 hgz10
    go_wp2
    go_meet
    case rel => exact ⟨_, (true), rq, H', ⟨by first | omega | exact Nat.le_refl _⟩, ⟨by (with_reducible repeat (first | refine blk_drewN ?_ _ | refine blk_drew ?_ | refine blk_alloc ?_ _)); refine blk_far ?_ NB108_0.out _; (with_reducible repeat (first | refine blk_drewN ?_ _ | refine blk_drew ?_ | refine blk_alloc ?_ _)); exact BK108.out⟩, ⟨by repeat (first | (with_reducible first | exact HI0.out | apply IsS73.alloc | apply IsS73.drewN | apply IsS73.drew | apply IsS73.set_0 | apply IsS73.farG NB0_108.out) | exact HI0.out)⟩, ⟨by repeat (first | (with_reducible first | exact HK.out | apply KeepBut.set_ | apply keep_drewN | apply keep_drew | apply keep_alloc | refine keep_far ?_ GW108.out _) | exact HK.out)⟩, ⟨by repeat (first | (with_reducible first | exact HB.out | apply below_alloc | apply pw_below_drewN | apply below_drew1 | refine below_set ?_ (IsS73.ge HI0.out) | refine below_set ?_ GE108.out) | exact HB.out)⟩⟩
   ·obtain ⟨t109, A11, H⟩ := oB H
    try dsimp only at H
    have H' := Aside0.mk H
    clear H
    obtain ⟨HGz12, hgz12⟩ := HI0.out
    have hcz12_0 := cellS73_0 HGz12
    have hfz12_0 := blk_frozen HGz12 0
    clear HGz12 hgz12
    have hnb13 := NB108_0.out
    have hnc13 := NB0_108.out
    obtain ⟨hcz14_0, hcz14_1, hcz14_2, hcz14_3, hfz14_0, hfz14_1, hfz14_2, hfz14_3⟩ := cz4f BK108.out
    go_wp2_with (first | (go_at_call 80; (with_reducible refine (note_isExpr.calls a1_0 a1_1 a1_2 _ _ l1_3 t109 _ ?side1 ?side2 A11.out).mono ?_); (case side1 => exact Kd.C_foot_now HR1_3.out (by repeat (first | (with_reducible first | exact HK.out | apply KeepBut.set_ | apply keep_drewN | apply keep_drew | apply keep_alloc | refine keep_far ?_ GW108.out _) | exact HK.out))); (case side2 => exact HC1_3.out); rintro e w15 ⟨rfl, hb⟩; have n_ := aC (IsS73.below (show IsS73 w0 (w5.setCell ⟨g, 0, none⟩ (.int .i64 (wrap64 (s0_0 + 1)))) g (wrap64 (s0_0 + 1)) from by repeat (first | (with_reducible first | exact HI0.out | apply IsS73.alloc | apply IsS73.drewN | apply IsS73.drew | apply IsS73.set_0 | apply IsS73.farG NB0_108.out) | exact HI0.out)) hb) (aC (blk_below (g := gb108) (o := .cells #[.int .i64 a1_0, .string a1_1, .int .i64 a1_2, .slice A1_3 l1_3.length c1_3] 33 (0, 0)) (by (with_reducible repeat (first | refine blk_drewN ?_ _ | refine blk_drew ?_ | refine blk_alloc ?_ _)); refine blk_far ?_ NB108_0.out _; (with_reducible repeat (first | refine blk_drewN ?_ _ | refine blk_drew ?_ | refine blk_alloc ?_ _)); exact BK108.out) hb) (aC (KeepBut.trans (by repeat (first | (with_reducible first | exact HK.out | apply KeepBut.set_ | apply keep_drewN | apply keep_drew | apply keep_alloc | refine keep_far ?_ GW108.out _) | exact HK.out)) (KeepBut.of_below hb g none) (.inl rfl)) (aE (below_step (by repeat (first | (with_reducible first | exact HB.out | apply below_alloc | apply pw_below_drewN | apply below_drew1 | refine below_set ?_ (IsS73.ge HI0.out) | refine below_set ?_ GE108.out) | exact HB.out)) hb)))); clear HI0 BK108 HK HB; obtain ⟨HI0, BK108, HK, HB⟩ := n_))
    go_meet
    case rel => exact ⟨_, (!t109), rq, H', ⟨by first | omega | exact Nat.le_refl _⟩, ⟨bU BK108.out⟩, ⟨by repeat (first | (with_reducible first | exact HI0.out | apply IsS73.alloc | apply IsS73.drewN | apply IsS73.drew | apply IsS73.set_0 | apply IsS73.farG NB0_108.out) | exact HI0.out)⟩, ⟨by repeat (first | (with_reducible first | exact HK.out | apply KeepBut.set_ | apply keep_drewN | apply keep_drew | apply keep_alloc | refine keep_far ?_ GW108.out _) | exact HK.out)⟩, ⟨by repeat (first | (with_reducible first | exact HB.out | apply below_alloc | apply pw_below_drewN | apply below_drew1 | refine below_set ?_ (IsS73.ge HI0.out) | refine below_set ?_ GE108.out) | exact HB.out)⟩⟩
 case rest =>
  clear HC4
  obtain ⟨kq, x29_3, rfl, HA, HJ3, BK108, HI0, HK, HB⟩ := hcut
  cases kq with
  | zero => exact absurd HA.out (by simp [note_looks_right.j0])
  | succ kj3 =>
   have H := HA.out
   clear HA
   simp only [note_looks_right.j0] at H
   by_cases c16 : x29_3 = true
   ·subst c16
    rw [if_pos rfl] at H
    simp only [Option.some.injEq, Prod.mk.injEq] at H
    obtain ⟨rfl, rfl⟩ := H
    go_wp2
    go_ret
    exact ⟨re, by repeat (first | (with_reducible first | exact HI0.out | apply IsS73.alloc | apply IsS73.drewN | apply IsS73.drew | apply IsS73.set_0 | apply IsS73.farG NB0_108.out) | exact HI0.out), by repeat (first | (with_reducible first | exact HB.out | apply below_alloc | apply pw_below_drewN | apply below_drew1 | refine below_set ?_ (IsS73.ge HI0.out) | refine below_set ?_ GE108.out) | exact HB.out), by repeat (first | (with_reducible first | exact HK.out | apply KeepBut.set_ | apply keep_drewN | apply keep_drew | apply keep_alloc | refine keep_far ?_ GW108.out _) | exact HK.out)⟩
   ·replace c16 := Bool.eq_false_iff.mpr c16
    subst c16
    rw [if_neg Bool.false_ne_true] at H
    have H' := Aside0.mk H
    clear H
    have hnb17 := NB108_0.out
    have hnc17 := NB0_108.out
    obtain ⟨hcz18_0, hcz18_1, hcz18_2, hcz18_3, hfz18_0, hfz18_1, hfz18_2, hfz18_3⟩ := cz4f BK108.out
    go_wp2
    go_loopg [33] kj3 (fun kq v33 w' => ∃ (x33_2 : Int) (x1000_2 : Int), v33 = .int .i64 x33_2 ∧ Aside0 (note_looks_right.l0 kq a2 l1_3 (l1_3.length : Int) x33_2 x1000_2 = some (r1, r2)) ∧ Aside0 (kq ≤ kj3) ∧ Aside0 (w'.heap[gb108]? = some (.cells #[.int .i64 a1_0, .string a1_1, .int .i64 a1_2, (.slice A1_3 l1_3.length c1_3)] 33 (0, 0))) ∧ Aside0 (IsS73 w0 w' g x1000_2) ∧ Aside0 (KeepBut w w' g none) ∧ Aside0 (Below w0.heap.size w0 w'))
    case atStart => exact ⟨(0), ((wrap64 (s0_0 + 1))), rq, H', ⟨Nat.le_refl _⟩, ⟨bU BK108.out⟩, ⟨by repeat (first | (with_reducible first | exact HI0.out | apply IsS73.alloc | apply IsS73.drewN | apply IsS73.drew | apply IsS73.set_0 | apply IsS73.farG NB0_108.out) | exact HI0.out)⟩, ⟨by repeat (first | (with_reducible first | exact HK.out | apply KeepBut.set_ | apply keep_drewN | apply keep_drew | apply keep_alloc | refine keep_far ?_ GW108.out _) | exact HK.out)⟩, ⟨by repeat (first | (with_reducible first | exact HB.out | apply below_alloc | apply pw_below_drewN | apply below_drew1 | refine below_set ?_ (IsS73.ge HI0.out) | refine below_set ?_ GE108.out) | exact HB.out)⟩⟩
    case round =>
     clear H'
     obtain ⟨x33_2, x1000_2, rfl, HA, HK2, BK108, HI0, HK, HB⟩ := hrel
     cases gk with
     | zero => exact absurd HA.out (by simp [note_looks_right.l0])
     | succ k2 =>
      have H := HA.out
      clear HA
      simp only [note_looks_right.l0] at H
      rcases iL H with H1 | H1 <;> clear H <;> obtain ⟨H, c19b0⟩ := H1
      ·by_cases c20 : 0 ≤ x33_2
       ·rw [if_pos c20] at H
        have c20b0 := decide_eq_true c20
        clear c20
        by_cases c21 : x33_2 < (l1_3.length : Int)
        ·rw [if_pos c21] at H
         have c21b0 := decide_eq_true c21
         clear c21
         obtain ⟨⟨t112, t113⟩, A22, H⟩ := oB H
         try dsimp only at H
         by_cases c23 : t112 = true
         ·subst c23
          rw [if_pos rfl] at H
          have H' := Aside0.mk H
          clear H
          have p110 : 0 ≤ (x33_2 : Int) := dt
          have q110 : x33_2 < (l1_3.length : Int) := dt
          obtain ⟨ad110, A110_3, c110_3, e110, hx110_0, hx110_1, hx110_2, hx110_3, hl110_3, hi110_3, hf110_3⟩ := at_T33f HR1_3.out HK.out x33_2 p110 q110
          have HF110_3 := Aside0.mk hf110_3
          clear hf110_3
          cases e110
          have HR110_3 := Aside0.mk hi110_3
          have HC110_3 := Aside0.mk hl110_3
          clear hi110_3 hl110_3
          replace p110 := eq_true p110
          replace q110 := eq_true q110
          go_wp2_with (first | ((with_reducible refine gd 8 rfl ?_); refine bx 8 #[.int .i64 0, .string (⟨#[]⟩ : ByteArray), .int .i64 0, .slice none 0 0] 33 rfl rfl ?_; intro gb111 hg w24 hbox hb; have n_ := aC (blk_below (bU BK108.out) hb) (aC (IsS73.below (by repeat (first | (with_reducible first | exact HI0.out | apply IsS73.alloc | apply IsS73.drewN | apply IsS73.drew | apply IsS73.set_0 | apply IsS73.farG NB0_108.out) | exact HI0.out)) hb) (aC (Kd.C_below (by repeat (first | (with_reducible exact HR110_3.out) | (with_reducible refine Kd.C_alloc ?_ _) | (with_reducible refine Kd.C_drewN ?_ _) | (with_reducible refine Kd.C_drew ?_) | exact HR110_3.out)) hb) (aC (KeepBut.trans (by repeat (first | (with_reducible first | exact HK.out | apply KeepBut.set_ | apply keep_drewN | apply keep_drew | apply keep_alloc | refine keep_far ?_ GW108.out _) | exact HK.out)) (KeepBut.of_below hb g none) (.inl rfl)) (aC (below_step (by repeat (first | (with_reducible first | exact HB.out | apply below_alloc | apply pw_below_drewN | apply below_drew1 | refine below_set ?_ (IsS73.ge HI0.out) | refine below_set ?_ GE108.out) | exact HB.out)) hb) (aC hbox (aC ((by rw [hg]; exact (keep_size (w := w) (g := g) (row := none) (by repeat (first | (with_reducible first | exact HK.out | apply KeepBut.set_ | apply keep_drewN | apply keep_drew | apply keep_alloc | refine keep_far ?_ GW108.out _) | exact HK.out))) : w.heap.size ≤ gb111)) (aC ((Nat.le_trans HW0.out (by rw [hg]; exact (keep_size (w := w) (g := g) (row := none) (by repeat (first | (with_reducible first | exact HK.out | apply KeepBut.set_ | apply keep_drewN | apply keep_drew | apply keep_alloc | refine keep_far ?_ GW108.out _) | exact HK.out))) : w.heap.size ≤ gb111) : w0.heap.size ≤ gb111)) (aC (gn hg (bU BK108.out)) (aC (gm hg (bU BK108.out)) (aC ((by rw [hg]; exact Nat.ne_of_lt (IsS73.lt (show IsS73 w0 _ g x1000_2 from by repeat (first | (with_reducible first | exact HI0.out | apply IsS73.alloc | apply IsS73.drewN | apply IsS73.drew | apply IsS73.set_0 | apply IsS73.farG NB0_108.out) | exact HI0.out))) : g ≠ gb111)) (aE ((by rw [hg]; exact Nat.ne_of_gt (IsS73.lt (show IsS73 w0 _ g x1000_2 from by repeat (first | (with_reducible first | exact HI0.out | apply IsS73.alloc | apply IsS73.drewN | apply IsS73.drew | apply IsS73.set_0 | apply IsS73.farG NB0_108.out) | exact HI0.out))) : gb111 ≠ g))))))))))))); clear BK108 HI0 HR110_3 HK HB; obtain ⟨BK108, HI0, HR110_3, HK, HB, BK111, GW111, GE111, NB108_111, NB111_108, NB0_111, NB111_0⟩ := n_; clear hb hbox hg; have hnb25 := NB111_108.out; have hnc25 := NB108_111.out; have hnb26 := NB111_0.out; have hnc26 := NB0_111.out; obtain ⟨hcz27_0, hcz27_1, hcz27_2, hcz27_3, hfz27_0, hfz27_1, hfz27_2, hfz27_3⟩ := cz4f BK111.out) | (refine gF 59 41 Tryd.func59 #[.pointer (some ⟨g, 0, none⟩), .agg #[.int .i64 ((rd_T33 l1_3 x33_2).f0), .string ((rd_T33 l1_3 x33_2).f1), .int .i64 ((rd_T33 l1_3 x33_2).f2), .slice A110_3 ((rd_T33 l1_3 x33_2).f3).length c110_3], .int .i64 (wrap64 (a2 + 1))] rfl rfl ?_; (with_reducible refine (ih k2 (by have := HJ3.out; have := HK2.out; omega) g x1000_2 ((rd_T33 l1_3 x33_2).f0) ((rd_T33 l1_3 x33_2).f1) ((rd_T33 l1_3 x33_2).f2) _ _ ((rd_T33 l1_3 x33_2).f3) (wrap64 (a2 + 1)) true t113 w0 _ ?side1 ?side2 ?side3 ?side4 A22.out).mono ?_); (case side1 => repeat (first | (with_reducible first | exact HI0.out | apply IsS73.alloc | apply IsS73.drewN | apply IsS73.drew | apply IsS73.set_0 | apply IsS73.farG NB0_108.out | apply IsS73.farG NB0_111.out) | exact HI0.out)); (case side2 => repeat (first | (with_reducible first | exact HB.out | apply below_alloc | apply pw_below_drewN | apply below_drew1 | refine below_set ?_ (IsS73.ge HI0.out) | refine below_set ?_ GE108.out | refine below_set ?_ GE111.out) | exact HB.out)); (case side3 => exact Kd.C_foot_step HF110_3.out (by repeat (first | (with_reducible first | exact HK.out | apply KeepBut.set_ | apply keep_drewN | apply keep_drew | apply keep_alloc | refine keep_far ?_ GW108.out _ | refine keep_far ?_ GW111.out _) | exact HK.out))); (case side4 => exact HC110_3.out); rintro e w28 ⟨rfl, hi, hb, hk⟩; refine ⟨_, rfl, ?_⟩; have n_ := aC (KeepBut.blk hk (g' := gb108) (o := .cells #[.int .i64 a1_0, .string a1_1, .int .i64 a1_2, .slice (some ad110) l1_3.length c1_3] 33 (0, 0)) (by (with_reducible repeat (first | refine blk_drewN ?_ _ | refine blk_drew ?_ | refine blk_alloc ?_ _)); refine blk_far ?_ NB108_111.out _; (with_reducible repeat (first | refine blk_drewN ?_ _ | refine blk_drew ?_ | refine blk_alloc ?_ _)); refine blk_far ?_ NB108_111.out _; (with_reducible repeat (first | refine blk_drewN ?_ _ | refine blk_drew ?_ | refine blk_alloc ?_ _)); refine blk_far ?_ NB108_111.out _; (with_reducible repeat (first | refine blk_drewN ?_ _ | refine blk_drew ?_ | refine blk_alloc ?_ _)); refine blk_far ?_ NB108_111.out _; (with_reducible repeat (first | refine blk_drewN ?_ _ | refine blk_drew ?_ | refine blk_alloc ?_ _)); exact BK108.out) NB108_0.out (by simp)) (aC (KeepBut.blk hk (g' := gb111) (o := .cells #[.int .i64 ((rd_T33 l1_3 x33_2).f0), .string ((rd_T33 l1_3 x33_2).f1), .int .i64 ((rd_T33 l1_3 x33_2).f2), .slice A110_3 ((rd_T33 l1_3 x33_2).f3).length c110_3] 33 (0, 0)) (by (with_reducible repeat (first | refine blk_drewN ?_ _ | refine blk_drew ?_ | refine blk_alloc ?_ _)); refine blk_put (cs := #[.int .i64 ((rd_T33 l1_3 x33_2).f0), .string ((rd_T33 l1_3 x33_2).f1), .int .i64 ((rd_T33 l1_3 x33_2).f2), .slice none 0 0]) ?_ 3 _ rfl; (with_reducible repeat (first | refine blk_drewN ?_ _ | refine blk_drew ?_ | refine blk_alloc ?_ _)); refine blk_put (cs := #[.int .i64 ((rd_T33 l1_3 x33_2).f0), .string ((rd_T33 l1_3 x33_2).f1), .int .i64 0, .slice none 0 0]) ?_ 2 _ rfl; (with_reducible repeat (first | refine blk_drewN ?_ _ | refine blk_drew ?_ | refine blk_alloc ?_ _)); refine blk_put (cs := #[.int .i64 ((rd_T33 l1_3 x33_2).f0), .string (⟨#[]⟩ : ByteArray), .int .i64 0, .slice none 0 0]) ?_ 1 _ rfl; (with_reducible repeat (first | refine blk_drewN ?_ _ | refine blk_drew ?_ | refine blk_alloc ?_ _)); refine blk_put (cs := #[.int .i64 0, .string (⟨#[]⟩ : ByteArray), .int .i64 0, .slice none 0 0]) ?_ 0 _ rfl; (with_reducible repeat (first | refine blk_drewN ?_ _ | refine blk_drew ?_ | refine blk_alloc ?_ _)); exact BK111.out) NB111_0.out (by simp)) (aC (KeepBut.trans (by repeat (first | (with_reducible first | exact HK.out | apply KeepBut.set_ | apply keep_drewN | apply keep_drew | apply keep_alloc | refine keep_far ?_ GW108.out _ | refine keep_far ?_ GW111.out _) | exact HK.out)) hk (.inl rfl)) (aC hb (aE hi)))); clear BK108 BK111 HK HB HI0; obtain ⟨BK108, BK111, HK, HB, HI0⟩ := n_))
          go_roundg k2
          case measure => have := HJ3.out; have := HK2.out; omega
          case rel => exact ⟨(wrap64 (x33_2 + 1)), (t113), rq, H', ⟨by have := HJ3.out; have := HK2.out; omega⟩, ⟨bU BK108.out⟩, ⟨by repeat (first | (with_reducible first | exact HI0.out | apply IsS73.alloc | apply IsS73.drewN | apply IsS73.drew | apply IsS73.set_0 | apply IsS73.farG NB0_108.out | apply IsS73.farG NB0_111.out) | exact HI0.out)⟩, ⟨by repeat (first | (with_reducible first | exact HK.out | apply KeepBut.set_ | apply keep_drewN | apply keep_drew | apply keep_alloc | refine keep_far ?_ GW108.out _ | refine keep_far ?_ GW111.out _) | exact HK.out)⟩, ⟨by repeat (first | (with_reducible first | exact HB.out | apply below_alloc | apply pw_below_drewN | apply below_drew1 | refine below_set ?_ (IsS73.ge HI0.out) | refine below_set ?_ GE108.out | refine below_set ?_ GE111.out) | exact HB.out)⟩⟩
         ·replace c23 := Bool.eq_false_iff.mpr c23
          subst c23
          rw [if_neg Bool.false_ne_true] at H
          simp only [Option.some.injEq, Prod.mk.injEq] at H
          obtain ⟨rfl, rfl⟩ := H
          have p110 : 0 ≤ (x33_2 : Int) := dt
          have q110 : x33_2 < (l1_3.length : Int) := dt
          obtain ⟨ad110, A110_3, c110_3, e110, hx110_0, hx110_1, hx110_2, hx110_3, hl110_3, hi110_3, hf110_3⟩ := at_T33f HR1_3.out HK.out x33_2 p110 q110
          have HF110_3 := Aside0.mk hf110_3
          clear hf110_3
          cases e110
          have HR110_3 := Aside0.mk hi110_3
          have HC110_3 := Aside0.mk hl110_3
          clear hi110_3 hl110_3
          replace p110 := eq_true p110
          replace q110 := eq_true q110
          go_wp2_with (first | ((with_reducible refine gd 8 rfl ?_); refine bx 8 #[.int .i64 0, .string (⟨#[]⟩ : ByteArray), .int .i64 0, .slice none 0 0] 33 rfl rfl ?_; intro gb111 hg w29 hbox hb; have n_ := aC (blk_below (bU BK108.out) hb) (aC (IsS73.below (by repeat (first | (with_reducible first | exact HI0.out | apply IsS73.alloc | apply IsS73.drewN | apply IsS73.drew | apply IsS73.set_0 | apply IsS73.farG NB0_108.out) | exact HI0.out)) hb) (aC (Kd.C_below (by repeat (first | (with_reducible exact HR110_3.out) | (with_reducible refine Kd.C_alloc ?_ _) | (with_reducible refine Kd.C_drewN ?_ _) | (with_reducible refine Kd.C_drew ?_) | exact HR110_3.out)) hb) (aC (KeepBut.trans (by repeat (first | (with_reducible first | exact HK.out | apply KeepBut.set_ | apply keep_drewN | apply keep_drew | apply keep_alloc | refine keep_far ?_ GW108.out _) | exact HK.out)) (KeepBut.of_below hb g none) (.inl rfl)) (aC (below_step (by repeat (first | (with_reducible first | exact HB.out | apply below_alloc | apply pw_below_drewN | apply below_drew1 | refine below_set ?_ (IsS73.ge HI0.out) | refine below_set ?_ GE108.out) | exact HB.out)) hb) (aC hbox (aC ((by rw [hg]; exact (keep_size (w := w) (g := g) (row := none) (by repeat (first | (with_reducible first | exact HK.out | apply KeepBut.set_ | apply keep_drewN | apply keep_drew | apply keep_alloc | refine keep_far ?_ GW108.out _) | exact HK.out))) : w.heap.size ≤ gb111)) (aC ((Nat.le_trans HW0.out (by rw [hg]; exact (keep_size (w := w) (g := g) (row := none) (by repeat (first | (with_reducible first | exact HK.out | apply KeepBut.set_ | apply keep_drewN | apply keep_drew | apply keep_alloc | refine keep_far ?_ GW108.out _) | exact HK.out))) : w.heap.size ≤ gb111) : w0.heap.size ≤ gb111)) (aC (gn hg (bU BK108.out)) (aC (gm hg (bU BK108.out)) (aC ((by rw [hg]; exact Nat.ne_of_lt (IsS73.lt (show IsS73 w0 _ g x1000_2 from by repeat (first | (with_reducible first | exact HI0.out | apply IsS73.alloc | apply IsS73.drewN | apply IsS73.drew | apply IsS73.set_0 | apply IsS73.farG NB0_108.out) | exact HI0.out))) : g ≠ gb111)) (aE ((by rw [hg]; exact Nat.ne_of_gt (IsS73.lt (show IsS73 w0 _ g x1000_2 from by repeat (first | (with_reducible first | exact HI0.out | apply IsS73.alloc | apply IsS73.drewN | apply IsS73.drew | apply IsS73.set_0 | apply IsS73.farG NB0_108.out) | exact HI0.out))) : gb111 ≠ g))))))))))))); clear BK108 HI0 HR110_3 HK HB; obtain ⟨BK108, HI0, HR110_3, HK, HB, BK111, GW111, GE111, NB108_111, NB111_108, NB0_111, NB111_0⟩ := n_; clear hb hbox hg; have hnb30 := NB111_108.out; have hnc30 := NB108_111.out; have hnb31 := NB111_0.out; have hnc31 := NB0_111.out; obtain ⟨hcz32_0, hcz32_1, hcz32_2, hcz32_3, hfz32_0, hfz32_1, hfz32_2, hfz32_3⟩ := cz4f BK111.out) | (refine gF 59 41 Tryd.func59 #[.pointer (some ⟨g, 0, none⟩), .agg #[.int .i64 ((rd_T33 l1_3 x33_2).f0), .string ((rd_T33 l1_3 x33_2).f1), .int .i64 ((rd_T33 l1_3 x33_2).f2), .slice A110_3 ((rd_T33 l1_3 x33_2).f3).length c110_3], .int .i64 (wrap64 (a2 + 1))] rfl rfl ?_; (with_reducible refine (ih k2 (by have := HJ3.out; have := HK2.out; omega) g x1000_2 ((rd_T33 l1_3 x33_2).f0) ((rd_T33 l1_3 x33_2).f1) ((rd_T33 l1_3 x33_2).f2) _ _ ((rd_T33 l1_3 x33_2).f3) (wrap64 (a2 + 1)) false t113 w0 _ ?side1 ?side2 ?side3 ?side4 A22.out).mono ?_); (case side1 => repeat (first | (with_reducible first | exact HI0.out | apply IsS73.alloc | apply IsS73.drewN | apply IsS73.drew | apply IsS73.set_0 | apply IsS73.farG NB0_108.out | apply IsS73.farG NB0_111.out) | exact HI0.out)); (case side2 => repeat (first | (with_reducible first | exact HB.out | apply below_alloc | apply pw_below_drewN | apply below_drew1 | refine below_set ?_ (IsS73.ge HI0.out) | refine below_set ?_ GE108.out | refine below_set ?_ GE111.out) | exact HB.out)); (case side3 => exact Kd.C_foot_step HF110_3.out (by repeat (first | (with_reducible first | exact HK.out | apply KeepBut.set_ | apply keep_drewN | apply keep_drew | apply keep_alloc | refine keep_far ?_ GW108.out _ | refine keep_far ?_ GW111.out _) | exact HK.out))); (case side4 => exact HC110_3.out); rintro e w33 ⟨rfl, hi, hb, hk⟩; refine ⟨_, rfl, ?_⟩; have n_ := aC (KeepBut.blk hk (g' := gb108) (o := .cells #[.int .i64 a1_0, .string a1_1, .int .i64 a1_2, .slice (some ad110) l1_3.length c1_3] 33 (0, 0)) (by (with_reducible repeat (first | refine blk_drewN ?_ _ | refine blk_drew ?_ | refine blk_alloc ?_ _)); refine blk_far ?_ NB108_111.out _; (with_reducible repeat (first | refine blk_drewN ?_ _ | refine blk_drew ?_ | refine blk_alloc ?_ _)); refine blk_far ?_ NB108_111.out _; (with_reducible repeat (first | refine blk_drewN ?_ _ | refine blk_drew ?_ | refine blk_alloc ?_ _)); refine blk_far ?_ NB108_111.out _; (with_reducible repeat (first | refine blk_drewN ?_ _ | refine blk_drew ?_ | refine blk_alloc ?_ _)); refine blk_far ?_ NB108_111.out _; (with_reducible repeat (first | refine blk_drewN ?_ _ | refine blk_drew ?_ | refine blk_alloc ?_ _)); exact BK108.out) NB108_0.out (by simp)) (aC (KeepBut.blk hk (g' := gb111) (o := .cells #[.int .i64 ((rd_T33 l1_3 x33_2).f0), .string ((rd_T33 l1_3 x33_2).f1), .int .i64 ((rd_T33 l1_3 x33_2).f2), .slice A110_3 ((rd_T33 l1_3 x33_2).f3).length c110_3] 33 (0, 0)) (by (with_reducible repeat (first | refine blk_drewN ?_ _ | refine blk_drew ?_ | refine blk_alloc ?_ _)); refine blk_put (cs := #[.int .i64 ((rd_T33 l1_3 x33_2).f0), .string ((rd_T33 l1_3 x33_2).f1), .int .i64 ((rd_T33 l1_3 x33_2).f2), .slice none 0 0]) ?_ 3 _ rfl; (with_reducible repeat (first | refine blk_drewN ?_ _ | refine blk_drew ?_ | refine blk_alloc ?_ _)); refine blk_put (cs := #[.int .i64 ((rd_T33 l1_3 x33_2).f0), .string ((rd_T33 l1_3 x33_2).f1), .int .i64 0, .slice none 0 0]) ?_ 2 _ rfl; (with_reducible repeat (first | refine blk_drewN ?_ _ | refine blk_drew ?_ | refine blk_alloc ?_ _)); refine blk_put (cs := #[.int .i64 ((rd_T33 l1_3 x33_2).f0), .string (⟨#[]⟩ : ByteArray), .int .i64 0, .slice none 0 0]) ?_ 1 _ rfl; (with_reducible repeat (first | refine blk_drewN ?_ _ | refine blk_drew ?_ | refine blk_alloc ?_ _)); refine blk_put (cs := #[.int .i64 0, .string (⟨#[]⟩ : ByteArray), .int .i64 0, .slice none 0 0]) ?_ 0 _ rfl; (with_reducible repeat (first | refine blk_drewN ?_ _ | refine blk_drew ?_ | refine blk_alloc ?_ _)); exact BK111.out) NB111_0.out (by simp)) (aC (KeepBut.trans (by repeat (first | (with_reducible first | exact HK.out | apply KeepBut.set_ | apply keep_drewN | apply keep_drew | apply keep_alloc | refine keep_far ?_ GW108.out _ | refine keep_far ?_ GW111.out _) | exact HK.out)) hk (.inl rfl)) (aC hb (aE hi)))); clear BK108 BK111 HK HB HI0; obtain ⟨BK108, BK111, HK, HB, HI0⟩ := n_))
          go_ret
          exact ⟨re, by repeat (first | (with_reducible first | exact HI0.out | apply IsS73.alloc | apply IsS73.drewN | apply IsS73.drew | apply IsS73.set_0 | apply IsS73.farG NB0_108.out | apply IsS73.farG NB0_111.out) | exact HI0.out), by repeat (first | (with_reducible first | exact HB.out | apply below_alloc | apply pw_below_drewN | apply below_drew1 | refine below_set ?_ (IsS73.ge HI0.out) | refine below_set ?_ GE108.out | refine below_set ?_ GE111.out) | exact HB.out), by repeat (first | (with_reducible first | exact HK.out | apply KeepBut.set_ | apply keep_drewN | apply keep_drew | apply keep_alloc | refine keep_far ?_ GW108.out _ | refine keep_far ?_ GW111.out _) | exact HK.out)⟩
        ·rw [if_neg c21] at H
         exact absurd H (by simp)
       ·rw [if_neg c20] at H
        exact absurd H (by simp)
      ·simp only [Option.some.injEq, Prod.mk.injEq] at H
       obtain ⟨rfl, rfl⟩ := H
       go_wp2
       go_ret
       exact ⟨re, by repeat (first | (with_reducible first | exact HI0.out | apply IsS73.alloc | apply IsS73.drewN | apply IsS73.drew | apply IsS73.set_0 | apply IsS73.farG NB0_108.out) | exact HI0.out), by repeat (first | (with_reducible first | exact HB.out | apply below_alloc | apply pw_below_drewN | apply below_drew1 | refine below_set ?_ (IsS73.ge HI0.out) | refine below_set ?_ GE108.out) | exact HB.out), by repeat (first | (with_reducible first | exact HK.out | apply KeepBut.set_ | apply keep_drewN | apply keep_drew | apply keep_alloc | refine keep_far ?_ GW108.out _) | exact HK.out)⟩
def note_Valid.f (k : Nat) (a0 : Int) (a1 : ByteArray) (a2 : Int) (l3 : List (S33)) : Option Bool := (note_looks_right.f k 0 a0 a1 a2 l3 1).bind fun t => some t.1
theorem note_Valid.mono : ∀ a0 a1 a2 a3 k, LeO (note_Valid.f k a0 a1 a2 a3) (note_Valid.f (k + 1) a0 a1 a2 a3) := by
 intro a0 a1 a2 a3 k
 unfold note_Valid.f
 exact LeO.bind (note_looks_right.mono _ _ _ _ _ _ k) (fun _ => LeO.refl _)
set_option maxHeartbeats 8000000 in
set_option maxRecDepth 100000 in
theorem note_Valid.calls (k : Nat) (a0_0 : Int) (a0_1 : ByteArray) (a0_2 : Int) (A0_3 : Option Addr) (c0_3 : Nat) (l0_3 : List (S33)) (r : Bool) (w : World) (hr0_3 : Kd.C k33 w A0_3 l0_3.length l0_3) (hc0_3 : l0_3.length ≤ c0_3) (h : note_Valid.f k a0_0 a0_1 a0_2 l0_3 = some r) :
  Calls Tryd.prog 33 #[.agg #[.int .i64 a0_0, .string a0_1, .int .i64 a0_2, .slice A0_3 l0_3.length c0_3]] w fun e w' => e = .returned (.bool r) ∧ Below w.heap.size w w' := by
 have hu33 := Tryd.underlying33
 have hu73 := Tryd.underlying73
 unfold note_Valid.f at h
 obtain ⟨⟨b, m⟩, A1, h⟩ := oB h
 obtain rfl := Option.some.inj h
 have HR0 := Aside0.mk hr0_3
 have HC0 := Aside0.mk hc0_3
 clear hr0_3 hc0_3 h
 have HB := Aside0.mk (Below.refl w.heap.size w)
 go_enter Tryd.func33, Tryd.ntmps33
 go_wp2_with (first | ((with_reducible refine gd 1 rfl ?_); refine bx 1 #[.int .i64 a0_0, .string a0_1, .int .i64 a0_2, .slice A0_3 l0_3.length c0_3] 33 rfl rfl ?_; intro gb hg_ w1 hbox hb; have n_ := aC (bs hb) (aE hbox); clear HB; obtain ⟨HB, BK⟩ := n_; clear hb hbox hg_; obtain ⟨z0, z1, z2, z3, y0, y1, y2, y3⟩ := cz4f BK.out) | ((with_reducible refine gd 4 rfl ?_); refine bx 4 #[.int .i64 0] 73 rfl rfl ?_; intro gs hg_ w2 hbox hb; have n_ := aC (gz hg_) (aC (bs hb) (aC hbox (aE (blk_below BK.out hb)))); clear HB BK; obtain ⟨GE, HB, BS, BK⟩ := n_; clear hb hbox hg_; obtain ⟨z0, z1, z2, z3, y0, y1, y2, y3⟩ := cz4f BK.out) | (refine gF 59 6 Tryd.func59 #[.pointer (some ⟨gs, 0, none⟩), .agg #[.int .i64 a0_0, .string a0_1, .int .i64 a0_2, .slice A0_3 l0_3.length c0_3], .int .i64 1] rfl rfl ?_; refine (note_looks_right.calls k gs 0 a0_0 a0_1 a0_2 _ _ l0_3 1 b m w _ ⟨BS.out, GE.out⟩ HB.out (Kd.C_foot_came k33_heap HR0.out HB.out GE.out) HC0.out A1.out).mono ?_; rintro e w3 ⟨rfl, hi, hb, hk⟩; refine ⟨_, rfl, ?_⟩; clear HB BS BK; have HB := aE hb; clear hb hi hk))
 go_ret
 exact ⟨re, HB.out⟩
def strconv_Itoa_79.f (a0 : Int) : Option ByteArray := if -9223372036854775808 ≤ a0 then (if a0 ≤ 9223372036854775807 then some ⟨(itz a0).toArray⟩ else none) else none
theorem strconv_Itoa_79.calls (a0 : Int) (r : ByteArray) (w : World) (hT0 : TIs w) (h : strconv_Itoa_79.f a0 = some r) :
  Calls Tryd.prog 79 #[.int .i64 a0] w fun e w' => e = .returned (.string r) ∧ Below w.heap.size w w' := by
 unfold strconv_Itoa_79.f at h
 split at h
 ·next h0 =>
  split at h
  ·next h1 =>
   obtain rfl := Option.some.inj h
   rw [itz_eq]
   exact itoa_calls a0 h0 h1 w hT0
  ·cases h
 ·cases h
def Fm (g : Nat) (w0 w : World) (bs : List UInt8) (W : World) : Prop := IsB g bs W ∧ Bk g w W ∧ Below w0.heap.size w0 W
theorem Fm.below {g : Nat} {w0 w W W' : World} {bs : List UInt8} (h : Fm g w0 w bs W) (hb : Below W.heap.size W W') : Fm g w0 w bs W' :=
 ⟨h.1.below hb, h.2.1.trans (Bk.of_below (Nat.le_of_lt h.1.lt) hb), below_step h.2.2 hb⟩
theorem Fm.call {g : Nat} {w0 w W W' : World} {bs bs' : List UInt8} (h : Fm g w0 w bs W) (hi : IsB g bs' W') (hk : Bk g W W') (hg : w0.heap.size ≤ g) : Fm g w0 w bs' W' :=
 ⟨hi, h.2.1.trans hk, h.2.2.trans (hk.1.mono hg)⟩
theorem Fm.put {g b j : Nat} {w0 w W : World} {bs : List UInt8} {cs : Array Value} {t : TypeId} {fz : Nat × Nat} (h : Fm g w0 w bs W) (hb : W.heap[b]? = some (.cells cs t fz)) (ht : t ≠ 5) (hn : b ≠ g) (hw : w.heap.size ≤ b) (hg : g ≤ b) (h0 : w0.heap.size ≤ b) (u : Value) : Fm g w0 w bs (W.setCell ⟨b, j, none⟩ u) := by
 refine ⟨h.1.put hb ht hn u, ⟨h.2.1.1.setCell hg _, fun k o hk hk1 hk2 => ?_⟩, below_set h.2.2 h0⟩
 have hlt := (Array.getElem?_eq_some_iff.1 hk).1
 exact (Below.heap_setCell W ⟨b, j, none⟩ u k (by show k ≠ b; omega)).trans (h.2.1.2 k o hk hk1 hk2)
theorem Fm.fill {g b : Nat} {w0 w W : World} {bs : List UInt8} {c0 c1 c2 c3 : Value} {t : TypeId} (h : Fm g w0 w bs W) (hb : W.heap[b]? = some (.cells #[c0, c1, c2, c3] t (0, 0))) (ht : t ≠ 5) (hn : b ≠ g) (hw : w.heap.size ≤ b) (hg : g ≤ b) (h0 : w0.heap.size ≤ b) (u0 u1 u2 u3 : Value) :
  Fm g w0 w bs ((((W.setCell ⟨b, 0, none⟩ u0).setCell ⟨b, 1, none⟩ u1).setCell ⟨b, 2, none⟩ u2).setCell ⟨b, 3, none⟩ u3) ∧ ((((W.setCell ⟨b, 0, none⟩ u0).setCell ⟨b, 1, none⟩ u1).setCell ⟨b, 2, none⟩ u2).setCell ⟨b, 3, none⟩ u3).heap[b]? = some (.cells #[u0, u1, u2, u3] t (0, 0)) := by
 have b1 := blk_put (cs := #[c0, c1, c2, c3]) hb 0 u0 rfl
 have b2 := blk_put (cs := #[u0, c1, c2, c3]) b1 1 u1 rfl
 have b3 := blk_put (cs := #[u0, u1, c2, c3]) b2 2 u2 rfl
 exact ⟨(((h.put hb ht hn hw hg h0 u0).put b1 ht hn hw hg h0 u1).put b2 ht hn hw hg h0 u2).put b3 ht hn hw hg h0 u3, blk_put (cs := #[u0, u1, u2, c3]) b3 3 u3 rfl⟩
def note_format.q0 : Nat → List UInt8 → ByteArray → Int → Option (List UInt8)
 | 0, _, _, _ => none
 | k + 1, bs, s, i => if i < (s.size : Int) then (if 0 ≤ i then (if bs.length + 1 < 140737488355328 then (if bt s i = 34 then note_format.q0 k (bs ++ [92] ++ [UInt8.ofNat (bt s i).toNat]) s (wrap64 (i + 1)) else (if bt s i = 92 then note_format.q0 k (bs ++ [92] ++ [UInt8.ofNat (bt s i).toNat]) s (wrap64 (i + 1)) else note_format.q0 k (bs ++ [UInt8.ofNat (bt s i).toNat]) s (wrap64 (i + 1)))) else none) else none) else (if bs.length < 140737488355328 then some (bs ++ [34]) else none)
mutual
def note_format.l0 : Nat → List UInt8 → List (S33) → Int → Option (List UInt8)
 | 0, _, _, _ => none
 | k + 1, bs, l, i => if i < (l.length : Int) then (if 0 ≤ i then (if i > 0 then (if bs.length < 140737488355328 then ((note_format.f k (bs ++ [32]) ((rd_T33 l i).f0) ((rd_T33 l i).f1) ((rd_T33 l i).f2) ((rd_T33 l i).f3)).bind fun b => note_format.l0 k b l (wrap64 (i + 1))) else none) else ((note_format.f k bs ((rd_T33 l i).f0) ((rd_T33 l i).f1) ((rd_T33 l i).f2) ((rd_T33 l i).f3)).bind fun b => note_format.l0 k b l (wrap64 (i + 1)))) else none) else (if bs.length < 140737488355328 then some (bs ++ [41]) else none)
def note_format.f : Nat → List UInt8 → Int → ByteArray → Int → List (S33) → Option (List UInt8)
 | 0, _, _, _, _, _ => none
 | k + 1, bs, a0, a1, a2, l3 => if a0 = 0 then (if bs.length < 140737488355328 then note_format.l0 k (bs ++ [40]) l3 0 else none) else (if a0 = 2 then ((strconv_Itoa_79.f a2).bind fun s => if bs.length + s.size ≤ 140737488355328 then some (bs ++ s.data.toList) else none) else (if a0 = 1 then (if bs.length + a1.size ≤ 140737488355328 then some (bs ++ a1.data.toList) else none) else (if bs.length < 140737488355328 then note_format.q0 k (bs ++ [34]) a1 0 else none)))
end
theorem note_format.q0_mono : ∀ k bs s i, LeO (note_format.q0 k bs s i) (note_format.q0 (k + 1) bs s i)
 | 0 => fun _ _ _ r h => by simp [note_format.q0] at h
 | k + 1 => by
  intro bs s i
  unfold note_format.q0
  exact LeO.ite (LeO.ite (LeO.ite (LeO.ite (note_format.q0_mono k _ _ _) (LeO.ite (note_format.q0_mono k _ _ _) (note_format.q0_mono k _ _ _))) (LeO.refl _)) (LeO.refl _)) (LeO.refl _)
theorem note_format.mono_l : ∀ k, (∀ y0 y1 y2, LeO (note_format.l0 k y0 y1 y2) (note_format.l0 (k + 1) y0 y1 y2)) ∧ (∀ y0 y1 y2 y3 y4, LeO (note_format.f k y0 y1 y2 y3 y4) (note_format.f (k + 1) y0 y1 y2 y3 y4))
 | 0 => ⟨fun _ _ _ r h => by simp [note_format.l0] at h, fun _ _ _ _ _ r h => by simp [note_format.f] at h⟩
 | k + 1 => by
  obtain ⟨ih0, ih1⟩ := note_format.mono_l k
  refine ⟨fun y0 y1 y2 => ?_, fun y0 y1 y2 y3 y4 => ?_⟩
  ·unfold note_format.l0
   exact LeO.ite (LeO.ite (LeO.ite (LeO.ite (LeO.bind (ih1 _ _ _ _ _) (fun _ => ih0 _ _ _)) (LeO.refl _)) (LeO.bind (ih1 _ _ _ _ _) (fun _ => ih0 _ _ _))) (LeO.refl _)) (LeO.refl _)
  ·unfold note_format.f
   exact LeO.ite (LeO.ite (ih0 _ _ _) (LeO.refl _)) (LeO.ite (LeO.refl _) (LeO.ite (LeO.refl _) (LeO.ite (note_format.q0_mono k _ _ _) (LeO.refl _))))
theorem note_format.mono : ∀ a0 a1 a2 a3 a4 k, LeO (note_format.f k a0 a1 a2 a3 a4) (note_format.f (k + 1) a0 a1 a2 a3 a4) := fun _ _ _ _ _ k => (note_format.mono_l k).2 _ _ _ _ _
set_option maxHeartbeats 8000000 in
set_option maxRecDepth 100000 in
theorem note_format.calls (k : Nat) : ∀ (g : Nat) (bs : List UInt8) (a0 : Int) (a1 : ByteArray) (a2 : Int) (A3 : Option Addr) (c3 : Nat) (l3 : List (S33)) (r : List UInt8) (w0 w : World) (hT : TIs w0) (hg : w0.heap.size ≤ g) (hB : Below w0.heap.size w0 w) (hI : IsB g bs w) (hr3 : Kd.C k33 w0 A3 l3.length l3) (hc3 : l3.length ≤ c3) (h : note_format.f k bs a0 a1 a2 l3 = some r),
  Calls Tryd.prog 56 #[.pointer (some ⟨g, 0, none⟩), .agg #[.int .i64 a0, .string a1, .int .i64 a2, .slice A3 l3.length c3]] w fun e w' => e = .returned (.tuple #[]) ∧ IsB g r w' ∧ Bk g w w' := by
 induction k using Nat.strongRecOn with
 | _ k ih =>
 intro g bs a0 a1 a2 A3 c3 l3 r w0 w hT hg hB hI hr3 hc3 h
 cases k with
 | zero => exact absurd h (by simp [note_format.f])
 | succ k =>
 simp only [note_format.f] at h
 have hu33 := Tryd.underlying33
 have HT := Aside0.mk hT
 have HG := Aside0.mk hg
 have HR3 := Aside0.mk hr3
 have HC3 := Aside0.mk hc3
 have GL := Aside0.mk hI.lt
 have FM : Aside0 (Fm g w0 w bs w) := ⟨hI, Bk.refl g w, hB⟩
 clear hT hg hr3 hc3 hI hB
 by_cases c0 : a0 = 0
 ·rw [if_pos c0] at h
  have c0b0 := beq_iff_eq.mpr c0
  clear c0
  by_cases lm : bs.length < 140737488355328
  ·rw [if_pos lm] at h
   have LM := aE lm
   have H' := aE h
   clear lm h
   go_enter Tryd.func56, Tryd.ntmps56
   go_wp2_with (first | ((with_reducible refine gd 3 rfl ?_); refine bx 3 #[.int .i64 a0, .string a1, .int .i64 a2, .slice A3 l3.length c3] 33 rfl rfl ?_; intro gb hg_ w1 hbox hb; have n_ := aC (FM.out.below hb) (aC hbox (aE (show gb ≠ g by have := GL.out; omega))); clear FM; obtain ⟨FM, BK, NB⟩ := n_; clear hb hbox hg_; obtain ⟨z0, z1, z2, z3, y0, y1, y2, y3⟩ := cz4f BK.out) | (refine gF 77 42 Tryd.func77 #[.pointer (some ⟨g, 0, none⟩), .int .u8 40] rfl rfl ?_; refine (writeByte_calls g bs 40 (by decide) (by decide) LM.out _ FM.out.1).mono ?_; rintro e w2 ⟨rfl, hi, hk⟩; refine ⟨_, rfl, ?_⟩; have n_ := aC (hk.blk BK.out (by decide) NB.out) (aE (FM.out.call hi hk HG.out)); clear BK FM; obtain ⟨BK, FM⟩ := n_; clear hi hk; obtain ⟨z0, z1, z2, z3, y0, y1, y2, y3⟩ := cz4f BK.out))
   go_loopg [46] k (fun kq v46 w' => ∃ (b1 : List UInt8) (i1 : Int), v46 = .int .i64 i1 ∧ Aside0 (note_format.l0 kq b1 l3 i1 = some r) ∧ Aside0 (kq ≤ k) ∧ Aside0 (Fm g w0 w b1 w'))
   case atStart => exact ⟨bs ++ [40], (0), rq, H', ⟨Nat.le_refl _⟩, FM⟩
   case round =>
    clear H' FM BK
    obtain ⟨b1, i1, rfl, HA, HK1, FM⟩ := hrel
    cases gk with
    | zero => exact absurd HA.out (by simp [note_format.l0])
    | succ k1 =>
     have H := HA.out
     clear HA
     simp only [note_format.l0] at H
     rcases iL H with H1 | H1 <;> clear H <;> obtain ⟨H, c1b0⟩ := H1
     ·by_cases c2 : 0 ≤ i1
      ·rw [if_pos c2] at H
       have c2b0 := decide_eq_true c2
       clear c2
       have p110 : 0 ≤ (i1 : Int) := dt
       have q110 : i1 < (l3.length : Int) := dt
       obtain ⟨ad, Ak, ck, ead, x0, x1, x2, x3, hl, hi⟩ := at_T33 HR3.out i1 p110 q110
       have KD := aC hi (aE hl)
       replace x0 := hcB FM.out.2.2 x0
       replace x1 := hcB FM.out.2.2 x1
       replace x2 := hcB FM.out.2.2 x2
       replace x3 := hcB FM.out.2.2 x3
       clear hi hl
       cases ead
       replace p110 := eq_true p110
       replace q110 := eq_true q110
       rcases iL H with H1 | H1 <;> clear H <;> obtain ⟨H, c3b0⟩ := H1
       ·by_cases lm : b1.length < 140737488355328
        ·rw [if_pos lm] at H
         have LM1 := aE lm
         clear lm
         obtain ⟨b2, A2, H⟩ := oB H
         have H' := aE H
         clear H
         go_wp2_with (first | ((with_reducible refine gd 5 rfl ?_); refine bx 5 #[.int .i64 0, .string (⟨#[]⟩ : ByteArray), .int .i64 0, .slice none 0 0] 33 rfl rfl ?_; intro gb5 hg_ w3 hbox hb; have n_ := aC (show w.heap.size ≤ gb5 by rw [hg_]; exact FM.out.2.1.1.size) (aE (show gb5 ≠ g by have := FM.out.1.lt; omega)); obtain ⟨GW5, NB5⟩ := n_; have n_ := aC (FM.out.below hb) (aC hbox (aC (show g ≤ gb5 by have := GL.out; have := GW5.out; omega) (aE (show w0.heap.size ≤ gb5 by have := GL.out; have := HG.out; have := GW5.out; omega)))); clear FM; obtain ⟨FM, BK5, GG5, G05⟩ := n_; clear hb hbox hg_; obtain ⟨z0, z1, z2, z3, y0, y1, y2, y3⟩ := cz4f BK5.out; have FF := aE (FM.out.fill BK5.out (by decide) NB5.out GW5.out GG5.out G05.out (.int .i64 ((rd_T33 l3 i1).f0)) (.string ((rd_T33 l3 i1).f1)) (.int .i64 ((rd_T33 l3 i1).f2)) (.slice Ak ((rd_T33 l3 i1).f3).length ck))) | (refine gF 77 54 Tryd.func77 #[.pointer (some ⟨g, 0, none⟩), .int .u8 32] rfl rfl ?_; refine (writeByte_calls g b1 32 (by decide) (by decide) LM1.out _ FF.out.1.1).mono ?_; rintro e w4 ⟨rfl, hi, hk⟩; refine ⟨_, rfl, ?_⟩; have n_ := aC (hk.blk FF.out.2 (by decide) NB5.out) (aE (FF.out.1.call hi hk HG.out)); clear BK5 FM FF; obtain ⟨BK5, FM⟩ := n_; clear hi hk; obtain ⟨z0, z1, z2, z3, y0, y1, y2, y3⟩ := cz4f BK5.out) | (refine gF 56 57 Tryd.func56 #[.pointer (some ⟨g, 0, none⟩), .agg #[.int .i64 ((rd_T33 l3 i1).f0), .string ((rd_T33 l3 i1).f1), .int .i64 ((rd_T33 l3 i1).f2), .slice Ak ((rd_T33 l3 i1).f3).length ck]] rfl rfl ?_; refine (ih k1 (by have := HK1.out; omega) g (b1 ++ [32]) _ _ _ Ak ck _ b2 w0 _ HT.out HG.out FM.out.2.2 FM.out.1 KD.1.out KD.2.out A2.out).mono ?_; rintro e w5 ⟨rfl, hi, hk⟩; refine ⟨_, rfl, ?_⟩; have n_ := aE (FM.out.call hi hk HG.out); clear FM; have FM := n_; clear hi hk))
         go_roundg k1
         case measure => have := HK1.out; omega
         case rel => exact ⟨b2, (wrap64 (i1 + 1)), rq, H', ⟨by have := HK1.out; omega⟩, FM⟩
        ·rw [if_neg lm] at H
         exact absurd H (by simp)
       ·obtain ⟨b2, A2, H⟩ := oB H
        have H' := aE H
        clear H
        go_wp2_with (first | ((with_reducible refine gd 5 rfl ?_); refine bx 5 #[.int .i64 0, .string (⟨#[]⟩ : ByteArray), .int .i64 0, .slice none 0 0] 33 rfl rfl ?_; intro gb5 hg_ w3 hbox hb; have n_ := aC (show w.heap.size ≤ gb5 by rw [hg_]; exact FM.out.2.1.1.size) (aE (show gb5 ≠ g by have := FM.out.1.lt; omega)); obtain ⟨GW5, NB5⟩ := n_; have n_ := aC (FM.out.below hb) (aC hbox (aC (show g ≤ gb5 by have := GL.out; have := GW5.out; omega) (aE (show w0.heap.size ≤ gb5 by have := GL.out; have := HG.out; have := GW5.out; omega)))); clear FM; obtain ⟨FM, BK5, GG5, G05⟩ := n_; clear hb hbox hg_; obtain ⟨z0, z1, z2, z3, y0, y1, y2, y3⟩ := cz4f BK5.out; have FF := aE (FM.out.fill BK5.out (by decide) NB5.out GW5.out GG5.out G05.out (.int .i64 ((rd_T33 l3 i1).f0)) (.string ((rd_T33 l3 i1).f1)) (.int .i64 ((rd_T33 l3 i1).f2)) (.slice Ak ((rd_T33 l3 i1).f3).length ck))) | (refine gF 56 57 Tryd.func56 #[.pointer (some ⟨g, 0, none⟩), .agg #[.int .i64 ((rd_T33 l3 i1).f0), .string ((rd_T33 l3 i1).f1), .int .i64 ((rd_T33 l3 i1).f2), .slice Ak ((rd_T33 l3 i1).f3).length ck]] rfl rfl ?_; refine (ih k1 (by have := HK1.out; omega) g b1 _ _ _ Ak ck _ b2 w0 _ HT.out HG.out FF.out.1.2.2 FF.out.1.1 KD.1.out KD.2.out A2.out).mono ?_; rintro e w5 ⟨rfl, hi, hk⟩; refine ⟨_, rfl, ?_⟩; have n_ := aE (FF.out.1.call hi hk HG.out); clear FM; have FM := n_; clear hi hk))
        go_roundg k1
        case measure => have := HK1.out; omega
        case rel => exact ⟨b2, (wrap64 (i1 + 1)), rq, H', ⟨by have := HK1.out; omega⟩, FM⟩
      ·rw [if_neg c2] at H
       exact absurd H (by simp)
     ·by_cases lm : b1.length < 140737488355328
      ·rw [if_pos lm] at H
       have LM1 := aE lm
       obtain rfl := Option.some.inj H
       clear lm H
       go_wp2_with (first | (refine gF 77 60 Tryd.func77 #[.pointer (some ⟨g, 0, none⟩), .int .u8 41] rfl rfl ?_; refine (writeByte_calls g b1 41 (by decide) (by decide) LM1.out _ FM.out.1).mono ?_; rintro e w6 ⟨rfl, hi, hk⟩; refine ⟨_, rfl, ?_⟩; have n_ := aE (FM.out.call hi hk HG.out); clear FM; have FM := n_; clear hi hk))
       go_end0
       exact ⟨rfl, FM.out.1, FM.out.2.1⟩
      ·rw [if_neg lm] at H
       exact absurd H (by simp)
  ·rw [if_neg lm] at h
   exact absurd h (by simp)
 ·rw [if_neg c0] at h
  have c0b0 := beq_eq_false_iff_ne.mpr c0
  clear c0
  by_cases c1 : a0 = 2
  ·rw [if_pos c1] at h
   have c1b0 := beq_iff_eq.mpr c1
   clear c1
   obtain ⟨s, A1, h⟩ := oB h
   by_cases lm : bs.length + s.size ≤ 140737488355328
   ·rw [if_pos lm] at h
    have LM := aE lm
    obtain rfl := Option.some.inj h
    clear lm h
    go_enter Tryd.func56, Tryd.ntmps56
    go_wp2_with (first | ((with_reducible refine gd 3 rfl ?_); refine bx 3 #[.int .i64 a0, .string a1, .int .i64 a2, .slice A3 l3.length c3] 33 rfl rfl ?_; intro gb hg_ w1 hbox hb; have n_ := aC (FM.out.below hb) (aC hbox (aE (show gb ≠ g by have := GL.out; omega))); clear FM; obtain ⟨FM, BK, NB⟩ := n_; clear hb hbox hg_; obtain ⟨z0, z1, z2, z3, y0, y1, y2, y3⟩ := cz4f BK.out) | (refine gF 79 66 Tryd.func79 #[.int .i64 a2] rfl rfl ?_; refine (strconv_Itoa_79.calls a2 s _ (HT.out.below FM.out.2.2) A1.out).mono ?_; rintro e w2 ⟨rfl, hb⟩; refine ⟨_, rfl, ?_⟩; have n_ := aE (FM.out.below hb); clear FM; have FM := n_; clear hb) | (refine gF 78 67 Tryd.func78 #[.pointer (some ⟨g, 0, none⟩), .string s] rfl rfl ?_; refine (writeString_calls g bs s LM.out _ FM.out.1).mono ?_; rintro e w3 ⟨rfl, hi, hk⟩; refine ⟨_, rfl, ?_⟩; have n_ := aE (FM.out.call hi hk HG.out); clear FM; have FM := n_; clear hi hk))
    go_end0
    exact ⟨rfl, FM.out.1, FM.out.2.1⟩
   ·rw [if_neg lm] at h
    exact absurd h (by simp)
  ·rw [if_neg c1] at h
   have c1b0 := beq_eq_false_iff_ne.mpr c1
   clear c1
   by_cases c2 : a0 = 1
   ·rw [if_pos c2] at h
    have c2b0 := beq_iff_eq.mpr c2
    clear c2
    by_cases lm : bs.length + a1.size ≤ 140737488355328
    ·rw [if_pos lm] at h
     have LM := aE lm
     obtain rfl := Option.some.inj h
     clear lm h
     go_enter Tryd.func56, Tryd.ntmps56
     go_wp2_with (first | ((with_reducible refine gd 3 rfl ?_); refine bx 3 #[.int .i64 a0, .string a1, .int .i64 a2, .slice A3 l3.length c3] 33 rfl rfl ?_; intro gb hg_ w1 hbox hb; have n_ := aC (FM.out.below hb) (aC hbox (aE (show gb ≠ g by have := GL.out; omega))); clear FM; obtain ⟨FM, BK, NB⟩ := n_; clear hb hbox hg_; obtain ⟨z0, z1, z2, z3, y0, y1, y2, y3⟩ := cz4f BK.out) | (refine gF 78 73 Tryd.func78 #[.pointer (some ⟨g, 0, none⟩), .string a1] rfl rfl ?_; refine (writeString_calls g bs a1 LM.out _ FM.out.1).mono ?_; rintro e w3 ⟨rfl, hi, hk⟩; refine ⟨_, rfl, ?_⟩; have n_ := aE (FM.out.call hi hk HG.out); clear FM; have FM := n_; clear hi hk))
     go_end0
     exact ⟨rfl, FM.out.1, FM.out.2.1⟩
    ·rw [if_neg lm] at h
     exact absurd h (by simp)
   ·rw [if_neg c2] at h
    have c2b0 := beq_eq_false_iff_ne.mpr c2
    clear c2
    by_cases lm : bs.length < 140737488355328
    ·rw [if_pos lm] at h
     have LM := aE lm
     have H' := aE h
     clear lm h
     go_enter Tryd.func56, Tryd.ntmps56
     go_wp2_with (first | ((with_reducible refine gd 3 rfl ?_); refine bx 3 #[.int .i64 a0, .string a1, .int .i64 a2, .slice A3 l3.length c3] 33 rfl rfl ?_; intro gb hg_ w1 hbox hb; have n_ := aC (FM.out.below hb) (aC hbox (aE (show gb ≠ g by have := GL.out; omega))); clear FM; obtain ⟨FM, BK, NB⟩ := n_; clear hb hbox hg_; obtain ⟨z0, z1, z2, z3, y0, y1, y2, y3⟩ := cz4f BK.out) | (refine gF 77 11 Tryd.func77 #[.pointer (some ⟨g, 0, none⟩), .int .u8 34] rfl rfl ?_; refine (writeByte_calls g bs 34 (by decide) (by decide) LM.out _ FM.out.1).mono ?_; rintro e w2 ⟨rfl, hi, hk⟩; refine ⟨_, rfl, ?_⟩; have n_ := aC (hk.blk BK.out (by decide) NB.out) (aE (FM.out.call hi hk HG.out)); clear BK FM; obtain ⟨BK, FM⟩ := n_; clear hi hk; obtain ⟨z0, z1, z2, z3, y0, y1, y2, y3⟩ := cz4f BK.out))
     go_loopg [15] k (fun kq v15 w' => ∃ (b1 : List UInt8) (i1 : Int), v15 = .int .i64 i1 ∧ Aside0 (note_format.q0 kq b1 a1 i1 = some r) ∧ Aside0 (kq ≤ k) ∧ Aside0 (w'.heap[gb]? = some (.cells #[.int .i64 a0, .string a1, .int .i64 a2, .slice A3 l3.length c3] 33 (0, 0))) ∧ Aside0 (Fm g w0 w b1 w'))
     case atStart => exact ⟨bs ++ [34], (0), rq, H', ⟨Nat.le_refl _⟩, BK, FM⟩
     case round =>
      clear H' FM BK
      obtain ⟨b1, i1, rfl, HA, HK1, BK, FM⟩ := hrel
      cases gk with
      | zero => exact absurd HA.out (by simp [note_format.q0])
      | succ k1 =>
       have H := HA.out
       clear HA
       simp only [note_format.q0] at H
       obtain ⟨z0, z1, z2, z3, y0, y1, y2, y3⟩ := cz4f BK.out
       rcases iL H with H1 | H1 <;> clear H <;> obtain ⟨H, c3b0⟩ := H1
       ·by_cases c4 : 0 ≤ i1
        ·rw [if_pos c4] at H
         have c4b0 := decide_eq_true c4
         clear c4
         by_cases lm : b1.length + 1 < 140737488355328
         ·rw [if_pos lm] at H
          have LM1 := aE lm
          clear lm
          have p13 : 0 ≤ (i1 : Int) := dt
          have q13 : i1 < (a1.size : Int) := dt
          have CB := aE (show 0 ≤ bt a1 i1 ∧ bt a1 i1 < 256 from ⟨(bt_range a1 i1).1, by have := (bt_range a1 i1).2; omega⟩)
          have hx13 := bt_at a1 i1
          replace p13 := eq_true p13
          replace q13 := eq_true q13
          by_cases c5 : bt a1 i1 = 34
          ·rw [if_pos c5] at H
           have c5b0 := beq_iff_eq.mpr c5
           clear c5
           have H' := aE H
           clear H
           go_wp2_with (first | (refine gF 77 29 Tryd.func77 #[.pointer (some ⟨g, 0, none⟩), .int .u8 92] rfl rfl ?_; refine (writeByte_calls g b1 92 (by decide) (by decide) (by have := LM1.out; omega) _ FM.out.1).mono ?_; rintro e w2 ⟨rfl, hi, hk⟩; refine ⟨_, rfl, ?_⟩; have n_ := aC (hk.blk BK.out (by decide) NB.out) (aE (FM.out.call hi hk HG.out)); clear BK FM; obtain ⟨BK, FM⟩ := n_; clear hi hk; obtain ⟨z0, z1, z2, z3, y0, y1, y2, y3⟩ := cz4f BK.out) | (refine gF 77 35 Tryd.func77 #[.pointer (some ⟨g, 0, none⟩), .int .u8 (bt a1 i1)] rfl rfl ?_; refine (writeByte_calls g (b1 ++ [92]) (bt a1 i1) CB.out.1 CB.out.2 (by have := LM1.out; simp; omega) _ FM.out.1).mono ?_; rintro e w3 ⟨rfl, hi, hk⟩; refine ⟨_, rfl, ?_⟩; have n_ := aC (hk.blk BK.out (by decide) NB.out) (aE (FM.out.call hi hk HG.out)); clear BK FM; obtain ⟨BK, FM⟩ := n_; clear hi hk))
           go_roundg k1
           case measure => have := HK1.out; omega
           case rel => exact ⟨_, (wrap64 (i1 + 1)), rq, H', ⟨by have := HK1.out; omega⟩, BK, FM⟩
          ·rw [if_neg c5] at H
           have c5b0 := beq_eq_false_iff_ne.mpr c5
           clear c5
           by_cases c6 : bt a1 i1 = 92
           ·rw [if_pos c6] at H
            have c6b0 := beq_iff_eq.mpr c6
            clear c6
            have H' := aE H
            clear H
            go_wp2_with (first | (refine gF 77 29 Tryd.func77 #[.pointer (some ⟨g, 0, none⟩), .int .u8 92] rfl rfl ?_; refine (writeByte_calls g b1 92 (by decide) (by decide) (by have := LM1.out; omega) _ FM.out.1).mono ?_; rintro e w2 ⟨rfl, hi, hk⟩; refine ⟨_, rfl, ?_⟩; have n_ := aC (hk.blk BK.out (by decide) NB.out) (aE (FM.out.call hi hk HG.out)); clear BK FM; obtain ⟨BK, FM⟩ := n_; clear hi hk; obtain ⟨z0, z1, z2, z3, y0, y1, y2, y3⟩ := cz4f BK.out) | (refine gF 77 35 Tryd.func77 #[.pointer (some ⟨g, 0, none⟩), .int .u8 (bt a1 i1)] rfl rfl ?_; refine (writeByte_calls g (b1 ++ [92]) (bt a1 i1) CB.out.1 CB.out.2 (by have := LM1.out; simp; omega) _ FM.out.1).mono ?_; rintro e w3 ⟨rfl, hi, hk⟩; refine ⟨_, rfl, ?_⟩; have n_ := aC (hk.blk BK.out (by decide) NB.out) (aE (FM.out.call hi hk HG.out)); clear BK FM; obtain ⟨BK, FM⟩ := n_; clear hi hk))
            go_roundg k1
            case measure => have := HK1.out; omega
            case rel => exact ⟨_, (wrap64 (i1 + 1)), rq, H', ⟨by have := HK1.out; omega⟩, BK, FM⟩
           ·rw [if_neg c6] at H
            have c6b0 := beq_eq_false_iff_ne.mpr c6
            clear c6
            have H' := aE H
            clear H
            go_wp2_with (first | (refine gF 77 35 Tryd.func77 #[.pointer (some ⟨g, 0, none⟩), .int .u8 (bt a1 i1)] rfl rfl ?_; refine (writeByte_calls g b1 (bt a1 i1) CB.out.1 CB.out.2 (by have := LM1.out; omega) _ FM.out.1).mono ?_; rintro e w3 ⟨rfl, hi, hk⟩; refine ⟨_, rfl, ?_⟩; have n_ := aC (hk.blk BK.out (by decide) NB.out) (aE (FM.out.call hi hk HG.out)); clear BK FM; obtain ⟨BK, FM⟩ := n_; clear hi hk))
            go_roundg k1
            case measure => have := HK1.out; omega
            case rel => exact ⟨_, (wrap64 (i1 + 1)), rq, H', ⟨by have := HK1.out; omega⟩, BK, FM⟩
         ·rw [if_neg lm] at H
          exact absurd H (by simp)
        ·rw [if_neg c4] at H
         exact absurd H (by simp)
       ·by_cases lm : b1.length < 140737488355328
        ·rw [if_pos lm] at H
         have LM1 := aE lm
         obtain rfl := Option.some.inj H
         clear lm H
         go_wp2_with (first | (refine gF 77 38 Tryd.func77 #[.pointer (some ⟨g, 0, none⟩), .int .u8 34] rfl rfl ?_; refine (writeByte_calls g b1 34 (by decide) (by decide) LM1.out _ FM.out.1).mono ?_; rintro e w6 ⟨rfl, hi, hk⟩; refine ⟨_, rfl, ?_⟩; have n_ := aE (FM.out.call hi hk HG.out); clear FM; have FM := n_; clear hi hk))
         go_end0
         exact ⟨rfl, FM.out.1, FM.out.2.1⟩
        ·rw [if_neg lm] at H
         exact absurd H (by simp)
    ·rw [if_neg lm] at h
     exact absurd h (by simp)
def note_Format.f (k : Nat) (a0 : Int) (a1 : ByteArray) (a2 : Int) (l3 : List (S33)) : Option (ByteArray × Int) := (note_Valid.f k a0 a1 a2 l3).bind fun v => (if v = true then ((note_format.f k [] a0 a1 a2 l3).bind fun b => some (⟨b.toArray⟩, 0)) else some ((⟨#[]⟩ : ByteArray), 95))
theorem note_Format.mono : ∀ a0 a1 a2 a3 k, LeO (note_Format.f k a0 a1 a2 a3) (note_Format.f (k + 1) a0 a1 a2 a3) := by
 intro a0 a1 a2 a3 k
 unfold note_Format.f
 exact LeO.bind (note_Valid.mono _ _ _ _ k) (fun _ => LeO.ite (LeO.bind (note_format.mono _ _ _ _ _ k) (fun _ => LeO.refl _)) (LeO.refl _))
set_option maxHeartbeats 8000000 in
set_option maxRecDepth 100000 in
theorem note_Format.calls (k : Nat) (a0_0 : Int) (a0_1 : ByteArray) (a0_2 : Int) (A0_3 : Option Addr) (c0_3 : Nat) (l0_3 : List (S33)) (r1 : ByteArray) (r2 : Int) (w : World) (hT0 : TIs w) (hr0_3 : Kd.C k33 w A0_3 l0_3.length l0_3) (hc0_3 : l0_3.length ≤ c0_3) (h : note_Format.f k a0_0 a0_1 a0_2 l0_3 = some (r1, r2)) :
  Calls Tryd.prog 31 #[.agg #[.int .i64 a0_0, .string a0_1, .int .i64 a0_2, .slice A0_3 l0_3.length c0_3]] w fun e w' => e = .returned (.tuple #[.string r1, .int .i64 r2]) ∧ Below w.heap.size w w' := by
 have hu33 := Tryd.underlying33
 unfold note_Format.f at h
 obtain ⟨v, A1, h⟩ := oB h
 have HT := Aside0.mk hT0
 have HR0 := Aside0.mk hr0_3
 have HC0 := Aside0.mk hc0_3
 clear hr0_3 hc0_3 hT0
 have HB := Aside0.mk (Below.refl w.heap.size w)
 by_cases c : v = true
 ·rw [if_pos c] at h
  subst c
  obtain ⟨b, A2, h⟩ := oB h
  simp only [Option.some.injEq, Prod.mk.injEq] at h
  obtain ⟨rfl, rfl⟩ := h
  go_enter Tryd.func31, Tryd.ntmps31
  go_wp2_with (first | ((with_reducible refine gd 1 rfl ?_); refine bx 1 #[.int .i64 a0_0, .string a0_1, .int .i64 a0_2, .slice A0_3 l0_3.length c0_3] 33 rfl rfl ?_; intro gb hg_ w1 hbox hb; have n_ := aC (bs hb) (aE hbox); clear HB; obtain ⟨HB, BK⟩ := n_; clear hb hbox hg_; obtain ⟨z0, z1, z2, z3, y0, y1, y2, y3⟩ := cz4f BK.out) | (refine gF 33 6 Tryd.func33 #[.agg #[.int .i64 a0_0, .string a0_1, .int .i64 a0_2, .slice A0_3 l0_3.length c0_3]] rfl rfl ?_; refine (note_Valid.calls k a0_0 a0_1 a0_2 _ _ l0_3 true _ (Kd.C_below HR0.out HB.out) HC0.out A1.out).mono ?_; rintro e w2 ⟨rfl, hb⟩; refine ⟨_, rfl, ?_⟩; have n_ := aC (blk_below BK.out hb) (aE (bs hb)); clear BK HB; obtain ⟨BK, HB⟩ := n_; clear hb; obtain ⟨z0, z1, z2, z3, y0, y1, y2, y3⟩ := cz4f BK.out) | ((with_reducible refine gd 4 rfl ?_); refine bx 4 #[.pointer none, .slice none 0 0] 86 rfl rfl ?_; intro gs hg_ w3 hbox hb; have n_ := aC (gz hg_) (aC (bs hb) (aC (IsB.made hbox) (aC (blk_below BK.out hb) (aE (blk_lt_of hg_ BK.out))))); clear HB BK; obtain ⟨GE, HB, IB, BK, LT⟩ := n_; clear hb hbox hg_; obtain ⟨z0, z1, z2, z3, y0, y1, y2, y3⟩ := cz4f BK.out) | (refine gF 56 9 Tryd.func56 #[.pointer (some ⟨gs, 0, none⟩), .agg #[.int .i64 a0_0, .string a0_1, .int .i64 a0_2, .slice A0_3 l0_3.length c0_3]] rfl rfl ?_; refine (note_format.calls k gs [] a0_0 a0_1 a0_2 _ _ l0_3 b w _ HT.out GE.out HB.out IB.out HR0.out HC0.out A2.out).mono ?_; rintro e w4 ⟨rfl, hi, hk⟩; refine ⟨_, rfl, ?_⟩; have n_ := aC hi (aE (HB.out.trans (hk.1.mono GE.out))); clear IB HB BK; obtain ⟨IB, HB⟩ := n_; clear hi hk) | (refine gF 57 10 Tryd.func57 #[.pointer (some ⟨gs, 0, none⟩)] rfl rfl ?_; refine (builderString_calls gs b _ IB.out).mono ?_; rintro e w5 ⟨rfl, hk⟩; refine ⟨_, rfl, ?_⟩; have n_ := aE (HB.out.trans (hk.mono GE.out)); clear IB HB; have HB := n_; clear hk))
  go_ret2
  exact ⟨re, HB.out⟩
 ·rw [if_neg c] at h
  replace c := Bool.eq_false_iff.mpr c
  subst c
  simp only [Option.some.injEq, Prod.mk.injEq] at h
  obtain ⟨rfl, rfl⟩ := h
  go_enter Tryd.func31, Tryd.ntmps31
  go_wp2_with (first | ((with_reducible refine gd 1 rfl ?_); refine bx 1 #[.int .i64 a0_0, .string a0_1, .int .i64 a0_2, .slice A0_3 l0_3.length c0_3] 33 rfl rfl ?_; intro gb hg_ w1 hbox hb; have n_ := aC (bs hb) (aE hbox); clear HB; obtain ⟨HB, BK⟩ := n_; clear hb hbox hg_; obtain ⟨z0, z1, z2, z3, y0, y1, y2, y3⟩ := cz4f BK.out) | (refine gF 33 6 Tryd.func33 #[.agg #[.int .i64 a0_0, .string a0_1, .int .i64 a0_2, .slice A0_3 l0_3.length c0_3]] rfl rfl ?_; refine (note_Valid.calls k a0_0 a0_1 a0_2 _ _ l0_3 false _ (Kd.C_below HR0.out HB.out) HC0.out A1.out).mono ?_; rintro e w2 ⟨rfl, hb⟩; refine ⟨_, rfl, ?_⟩; have n_ := aE (bs hb); clear BK HB; have HB := n_; clear hb))
  go_ret2
  exact ⟨re, HB.out⟩
def incunablelaw25_Sane.f (k : Nat)  : Option (Bool) := (note_Format.f k 0 (⟨#[]⟩ : ByteArray) 0 (([(⟨1, (⟨#[97, 45, 49]⟩ : ByteArray), 0, ([] : List (S33))⟩ : S33), (⟨2, (⟨#[]⟩ : ByteArray), (-5), ([] : List (S33))⟩ : S33), (⟨3, (⟨#[34, 92]⟩ : ByteArray), 0, ([] : List (S33))⟩ : S33)] : List (S33)))).bind fun bt117 => (if bt117.2 = 0 then (some (bt117.1.toList == ([40, 97, 45, 49, 32, 45, 53, 32, 34, 92, 34, 92, 92, 34, 41] : List UInt8))) else (some false))
theorem incunablelaw25_Sane.mono : ∀ k, LeO (incunablelaw25_Sane.f k ) (incunablelaw25_Sane.f (k + 1) ) := by
 intro  k
 unfold incunablelaw25_Sane.f
 repeat' first
   | (with_reducible exact note_Format.mono _ _ _ _ _)
   | (with_reducible first | exact LeO.refl _ | exact LeO.none _ | refine LeO.ite ?_ ?_ | refine LeO.bind ?_ (fun _ => ?_))
set_option maxHeartbeats 8000000 in
set_option maxRecDepth 100000 in
theorem incunablelaw25_Sane.calls (k : Nat)  (r : Bool) (w : World) (hT0 : TIs w) (h : incunablelaw25_Sane.f k  = some r) :
  Calls Tryd.prog 11 #[] w fun e w' => e = .returned (.bool r) ∧ Below w.heap.size w w' := by
 have HTI := Aside0.mk hT0
 clear hT0
 have hu33 := Tryd.underlying33
 have HB := Aside0.mk (Below.refl w.heap.size w)
 have H := h
 unfold incunablelaw25_Sane.f at H
 clear h
 obtain ⟨y114, hy_⟩ : ∃ y_ : List (S33), y_ = (([(⟨1, (⟨#[97, 45, 49]⟩ : ByteArray), 0, ([] : List (S33))⟩ : S33), (⟨2, (⟨#[]⟩ : ByteArray), (-5), ([] : List (S33))⟩ : S33), (⟨3, (⟨#[34, 92]⟩ : ByteArray), 0, ([] : List (S33))⟩ : S33)] : List (S33))) := ⟨_, rfl⟩
 replace H : ((note_Format.f k 0 (⟨#[]⟩ : ByteArray) 0 y114).bind fun bt117 => (if bt117.2 = 0 then (some (bt117.1.toList == ([40, 97, 45, 49, 32, 45, 53, 32, 34, 92, 34, 92, 92, 34, 41] : List UInt8))) else (some false))) = some r := rh
 have Ny114 := aE hy_
 clear hy_
 obtain ⟨⟨t117, t118⟩, A1, H⟩ := oB H
 try dsimp only at H
 rcases iE H with H1 | H1 <;> clear H <;> obtain ⟨H, c2b0, c2b1, c2⟩ := H1
 ·obtain rfl := Option.some.inj H
  go_enter Tryd.func11, Tryd.ntmps11
  go_wp2_with (first | ((with_reducible refine gd 7 rfl ?_); refine Kd.R_lit k33 _ 33 ?hg (N := 7) ?hd (xs := ([(⟨1, (⟨#[97, 45, 49]⟩ : ByteArray), 0, ([] : List (S33))⟩ : S33), (⟨2, (⟨#[]⟩ : ByteArray), (-5), ([] : List (S33))⟩ : S33), (⟨3, (⟨#[34, 92]⟩ : ByteArray), 0, ([] : List (S33))⟩ : S33)] : List (S33))) (inner := [.int .i64 1, .string (⟨#[97, 45, 49]⟩ : ByteArray), .int .i64 0, .slice none 0 0, .int .i64 2, .string (⟨#[]⟩ : ByteArray), .int .i64 (-5), .slice none 0 0, .int .i64 3, .string (⟨#[34, 92]⟩ : ByteArray), .int .i64 0, .slice none 0 0]) (ok := fun _ => True) (okp := fun _ => True) ?hr ?hp (fun _ hk => hk) trivial (Below.refl _ _) (Nat.le_refl _) (by simp) ?_; (case hd => rfl); (case hg => rfl); (case hr => first | (go_simp; done) | (go_simp; rfl)); (case hp => exact (Reps.c4 (show Kd.M k33 _ _ _ (⟨1, (⟨#[97, 45, 49]⟩ : ByteArray), 0, ([] : List (S33))⟩ : S33) [.int .i64 1, .string (⟨#[97, 45, 49]⟩ : ByteArray), .int .i64 0, .slice none 0 0] from (k33_mkM _ _ _ (⟨1, (⟨#[97, 45, 49]⟩ : ByteArray), 0, ([] : List (S33))⟩ : S33) (Kd.R_nil _ _ _ _ _))) (Reps.c4 (show Kd.M k33 _ _ _ (⟨2, (⟨#[]⟩ : ByteArray), (-5), ([] : List (S33))⟩ : S33) [.int .i64 2, .string (⟨#[]⟩ : ByteArray), .int .i64 (-5), .slice none 0 0] from (k33_mkM _ _ _ (⟨2, (⟨#[]⟩ : ByteArray), (-5), ([] : List (S33))⟩ : S33) (Kd.R_nil _ _ _ _ _))) (Reps.c4 (show Kd.M k33 _ _ _ (⟨3, (⟨#[34, 92]⟩ : ByteArray), 0, ([] : List (S33))⟩ : S33) [.int .i64 3, .string (⟨#[34, 92]⟩ : ByteArray), .int .i64 0, .slice none 0 0] from (k33_mkM _ _ _ (⟨3, (⟨#[34, 92]⟩ : ByteArray), 0, ([] : List (S33))⟩ : S33) (Kd.R_nil _ _ _ _ _))) (Reps.none _ _))))); intro v115 w3 ho4 hb hg_ hnew_; clear hg_ hnew_; (first | rw [← Ny114.out] at ho4 | (simp only [Int.reduceToNat] at ho4; rw [← Ny114.out] at ho4)); have n_ := aC (Kd.R_lower ho4 bz) (aE (bs hb)); clear HB; obtain ⟨HO116, HB⟩ := n_; clear hb ho4; obtain ⟨Ao5, co5, eo5⟩ := Kd.R_slice HO116.out; subst eo5) | (refine gF 31 9 Tryd.func31 #[.agg #[.int .i64 0, .string (⟨#[]⟩ : ByteArray), .int .i64 0, .slice Ao5 y114.length co5]] rfl rfl ?_; (with_reducible refine (note_Format.calls k 0 (⟨#[]⟩ : ByteArray) 0 _ _ y114 t117 t118 _ (TIs.on HTI) ?side1 ?side2 A1.out).mono ?_); (case side1 => exact cU (Kd.R_reads' HO116.out).2.2); (case side2 => exact (Kd.R_reads' HO116.out).2.1); rintro e w6 ⟨rfl, hb⟩; refine ⟨_, rfl, ?_⟩; have n_ := aC (Kd.R_below (rU HO116.out) hb) (aE (bs hb)); clear HO116 HB; obtain ⟨HO116, HB⟩ := n_))
  go_ret
  exact ⟨re, bl⟩
 ·obtain rfl := Option.some.inj H
  go_enter Tryd.func11, Tryd.ntmps11
  go_wp2_with (first | ((with_reducible refine gd 7 rfl ?_); refine Kd.R_lit k33 _ 33 ?hg (N := 7) ?hd (xs := ([(⟨1, (⟨#[97, 45, 49]⟩ : ByteArray), 0, ([] : List (S33))⟩ : S33), (⟨2, (⟨#[]⟩ : ByteArray), (-5), ([] : List (S33))⟩ : S33), (⟨3, (⟨#[34, 92]⟩ : ByteArray), 0, ([] : List (S33))⟩ : S33)] : List (S33))) (inner := [.int .i64 1, .string (⟨#[97, 45, 49]⟩ : ByteArray), .int .i64 0, .slice none 0 0, .int .i64 2, .string (⟨#[]⟩ : ByteArray), .int .i64 (-5), .slice none 0 0, .int .i64 3, .string (⟨#[34, 92]⟩ : ByteArray), .int .i64 0, .slice none 0 0]) (ok := fun _ => True) (okp := fun _ => True) ?hr ?hp (fun _ hk => hk) trivial (Below.refl _ _) (Nat.le_refl _) (by simp) ?_; (case hd => rfl); (case hg => rfl); (case hr => first | (go_simp; done) | (go_simp; rfl)); (case hp => exact (Reps.c4 (show Kd.M k33 _ _ _ (⟨1, (⟨#[97, 45, 49]⟩ : ByteArray), 0, ([] : List (S33))⟩ : S33) [.int .i64 1, .string (⟨#[97, 45, 49]⟩ : ByteArray), .int .i64 0, .slice none 0 0] from (k33_mkM _ _ _ (⟨1, (⟨#[97, 45, 49]⟩ : ByteArray), 0, ([] : List (S33))⟩ : S33) (Kd.R_nil _ _ _ _ _))) (Reps.c4 (show Kd.M k33 _ _ _ (⟨2, (⟨#[]⟩ : ByteArray), (-5), ([] : List (S33))⟩ : S33) [.int .i64 2, .string (⟨#[]⟩ : ByteArray), .int .i64 (-5), .slice none 0 0] from (k33_mkM _ _ _ (⟨2, (⟨#[]⟩ : ByteArray), (-5), ([] : List (S33))⟩ : S33) (Kd.R_nil _ _ _ _ _))) (Reps.c4 (show Kd.M k33 _ _ _ (⟨3, (⟨#[34, 92]⟩ : ByteArray), 0, ([] : List (S33))⟩ : S33) [.int .i64 3, .string (⟨#[34, 92]⟩ : ByteArray), .int .i64 0, .slice none 0 0] from (k33_mkM _ _ _ (⟨3, (⟨#[34, 92]⟩ : ByteArray), 0, ([] : List (S33))⟩ : S33) (Kd.R_nil _ _ _ _ _))) (Reps.none _ _))))); intro v115 w7 ho8 hb hg_ hnew_; clear hg_ hnew_; (first | rw [← Ny114.out] at ho8 | (simp only [Int.reduceToNat] at ho8; rw [← Ny114.out] at ho8)); have n_ := aC (Kd.R_lower ho8 bz) (aE (bs hb)); clear HB; obtain ⟨HO116, HB⟩ := n_; clear hb ho8; obtain ⟨Ao9, co9, eo9⟩ := Kd.R_slice HO116.out; subst eo9) | (refine gF 31 9 Tryd.func31 #[.agg #[.int .i64 0, .string (⟨#[]⟩ : ByteArray), .int .i64 0, .slice Ao9 y114.length co9]] rfl rfl ?_; (with_reducible refine (note_Format.calls k 0 (⟨#[]⟩ : ByteArray) 0 _ _ y114 t117 t118 _ (TIs.on HTI) ?side1 ?side2 A1.out).mono ?_); (case side1 => exact cU (Kd.R_reads' HO116.out).2.2); (case side2 => exact (Kd.R_reads' HO116.out).2.1); rintro e w10 ⟨rfl, hb⟩; refine ⟨_, rfl, ?_⟩; have n_ := aC (Kd.R_below (rU HO116.out) hb) (aE (bs hb)); clear HO116 HB; obtain ⟨HO116, HB⟩ := n_))
  go_ret
  exact ⟨re, bl⟩
end Go.Proofs.YtacdchogjpeffaaDoor.PNoteOutlines
