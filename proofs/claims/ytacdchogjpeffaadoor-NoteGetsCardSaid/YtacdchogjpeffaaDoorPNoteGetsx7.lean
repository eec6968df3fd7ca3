-- printed (wip/tools/myprint.py)
import Derived.Test.YtacdchogjpeffaaDoorPNoteGetsx0
import Derived.Test.YtacdchogjpeffaaDoorPNoteGetsx2
import Derived.Test.YtacdchogjpeffaaDoorPNoteGetsx3
import Derived.Test.YtacdchogjpeffaaDoorPNoteGetsx4
import Derived.Test.YtacdchogjpeffaaDoorPNoteGetsx5
import Derived.Test.YtacdchogjpeffaaDoorPNoteGetsx6
namespace Go.Proofs.YtacdchogjpeffaaDoor.PNoteGets
open Go.RowKit Go.Proofs.YtacdchogjpeffaaDoorW.PrintWords Go.Proofs.YtacdchogjpeffaaDoorW.PrintLast Go.Proofs.YtacdchogjpeffaaDoorW.PrintMore
attribute [local go_sem] max2_int min2_int max_two min_two max_three min_three max_four min_four
set_option linter.unusedVariables false
set_option linter.unusedSimpArgs false
def RdQ (g : Nat) (A : Option Addr) (c : Nat) (l : List Int) (pos many err : Int) (W : World) : Prop := W.heap[g]? = some (.cells #[.slice A l.length c, .int .i64 pos, .int .i64 many, .int .i64 err] 83 (0, 0))
def StQ (w0 w : World) (g : Nat) (A : Option Addr) (c : Nat) (l : List Int) (pos many err : Int) (W : World) : Prop := RdQ g A c l pos many err W ∧ KeepBut w W g none ∧ Below w0.heap.size w0 W ∧ w0.heap.size ≤ g
theorem StQ.err {w0 w W : World} {g : Nat} {A : Option Addr} {c : Nat} {l : List Int} {pos many err : Int} (h : StQ w0 w g A c l pos many err W) (x : Int) : StQ w0 w g A c l pos many x (W.setCell ⟨g, 3, none⟩ (.int .i64 x)) :=
 ⟨blk_put (cs := #[.slice A l.length c, .int .i64 pos, .int .i64 many, .int .i64 err]) h.1 3 _ rfl, h.2.1.set_ 3 _, below_set h.2.2.1 h.2.2.2, h.2.2.2⟩
theorem StQ.many {w0 w W : World} {g : Nat} {A : Option Addr} {c : Nat} {l : List Int} {pos many err : Int} (h : StQ w0 w g A c l pos many err W) (x : Int) : StQ w0 w g A c l pos x err (W.setCell ⟨g, 2, none⟩ (.int .i64 x)) :=
 ⟨blk_put (cs := #[.slice A l.length c, .int .i64 pos, .int .i64 many, .int .i64 err]) h.1 2 _ rfl, h.2.1.set_ 2 _, below_set h.2.2.1 h.2.2.2, h.2.2.2⟩
theorem StQ.pos {w0 w W : World} {g : Nat} {A : Option Addr} {c : Nat} {l : List Int} {pos many err : Int} (h : StQ w0 w g A c l pos many err W) (x : Int) : StQ w0 w g A c l x many err (W.setCell ⟨g, 1, none⟩ (.int .i64 x)) :=
 ⟨blk_put (cs := #[.slice A l.length c, .int .i64 pos, .int .i64 many, .int .i64 err]) h.1 1 _ rfl, h.2.1.set_ 1 _, below_set h.2.2.1 h.2.2.2, h.2.2.2⟩
theorem StQ.below {w0 w W W1 : World} {g : Nat} {A : Option Addr} {c : Nat} {l : List Int} {pos many err : Int} (h : StQ w0 w g A c l pos many err W) (hb : Below W.heap.size W W1) : StQ w0 w g A c l pos many err W1 :=
 ⟨blk_below h.1 hb, h.2.1.trans (KeepBut.of_below hb g none) (.inl rfl), below_step h.2.2.1 hb, h.2.2.2⟩
theorem StQ.call {w0 w W W1 : World} {g : Nat} {A : Option Addr} {c : Nat} {l : List Int} {pos many err pos1 many1 err1 : Int} (h : StQ w0 w g A c l pos many err W) (h1 : StQ w0 W g A c l pos1 many1 err1 W1) : StQ w0 w g A c l pos1 many1 err1 W1 :=
 ⟨h1.1, h.2.1.trans h1.2.1 (.inl rfl), h1.2.2.1, h.2.2.2⟩
theorem StQ.far {w0 w W : World} {g : Nat} {A : Option Addr} {c : Nat} {l : List Int} {pos many err : Int} {gb : Nat} (h : StQ w0 w g A c l pos many err W) (hn : gb ≠ g) (hw : w.heap.size ≤ gb) (j : Nat) (u : Value) (h0 : w0.heap.size ≤ gb) : StQ w0 w g A c l pos many err (W.setCell ⟨gb, j, none⟩ u) :=
 ⟨(Below.heap_setCell W ⟨gb, j, none⟩ u g (fun e => hn e.symm)).trans h.1, keep_far h.2.1 (p := ⟨gb, j, none⟩) hw u, below_set h.2.2.1 h0, h.2.2.2⟩
theorem StQ.grown {w0 w W W1 : World} {g : Nat} {A : Option Addr} {c : Nat} {l : List Int} {pos many err : Int} {row : Option Nat} (h : StQ w0 w g A c l pos many err W) (hg : W.grownBy W1 row) (hrow : ∀ b, row = some b → w.heap.size ≤ b) (hlt : g < w.heap.size) : StQ w0 w g A c l pos many err W1 := by
 have hg0 := h.2.2.2
 refine ⟨(hg.block g (blk_lt h.1) (fun e => by have := hrow g e.symm; omega)).trans h.1, h.2.1.trans (KeepBut.of_grown hg g) ?_, h.2.2.1.grown hg h.2.2.1.size (fun k e => by have := hrow k e; omega), hg0⟩
 cases row with
 | none => exact .inl rfl
 | some b => exact .inr ⟨b, rfl, hrow b rfl⟩
def incunableref25_books_size.f (k : Nat) (l : List Int) (pos err most : Int) : Option (Int × Int × Int) := if err = 0 then ((incunableref01_GetSize.f k l pos).bind fun t => if t.2.2 = 0 then (if t.1 > most then some (t.1, t.2.1, 3) else some (t.1, t.2.1, 0)) else some (t.1, t.2.1, t.2.2)) else some (0, pos, err)
theorem incunableref25_books_size.mono : ∀ a0 a1 a2 a3 k, LeO (incunableref25_books_size.f k a0 a1 a2 a3) (incunableref25_books_size.f (k + 1) a0 a1 a2 a3) := by
 intro a0 a1 a2 a3 k
 unfold incunableref25_books_size.f
 exact LeO.ite (LeO.bind (incunableref01_GetSize.mono _ _ k) (fun _ => LeO.refl _)) (LeO.refl _)
def incunableref25_books_size.T3 : Bool × List (List Nat × List Nat) := (true, [([], []), ([0], [0]), ([1], [1]), ([2], [2]), ([], []), ([4], [4]), ([5], [5]), ([6], [6]), ([3, 7], [3, 7]), ([8], [8]), ([9], [9]), ([9], [9]), ([9], [9]), ([10, 8, 0, 1, 2, 3, 4, 5, 6, 7, 8, 9, 10], [10]), ([11, 13, 0, 1, 2, 3, 4, 5, 6, 7, 8, 9, 10, 11, 13], [11]), ([12, 14, 0, 1, 2, 3, 4, 5, 6, 7, 8, 9, 10, 11, 12, 13, 14], [12])])
def incunableref25_books_size.B3 : List Nat := [0, 1, 3, 7, 0, 16, 48, 112, 255, 511, 1023, 1023, 1023, 2047, 12287, 32767]
theorem incunableref25_books_size.tab3 : rtab .any (opsOf Tryd.f76 3) = incunableref25_books_size.T3 := by kernel_rfl
theorem incunableref25_books_size.bits3 : waitsOk incunableref25_books_size.T3.2 incunableref25_books_size.B3 = true := by kernel_rfl
set_option maxHeartbeats 8000000 in
set_option maxRecDepth 100000 in
theorem incunableref25_books_size.calls (k : Nat) (g : Nat) (A : Option Addr) (c : Nat) (l : List Int) (pos many err most : Int) (r1 r2 r3 : Int) (w0 w : World) (hI : RdQ g A c l pos many err w) (hB : Below w0.heap.size w0 w) (hg : w0.heap.size ≤ g) (hr : Kd.C (Kd.int .u8) w0 A l.length l) (hc : l.length ≤ c) (h : incunableref25_books_size.f k l pos err most = some (r1, r2, r3)) :
  Calls Tryd.prog 76 #[.pointer (some ⟨g, 0, none⟩), .int .i64 most] w fun e w' => e = .returned (.int .i64 r1) ∧ StQ w0 w g A c l r2 many r3 w' := by
 have hu := Tryd.underlying83
 unfold incunableref25_books_size.f at h
 have HS : Aside0 (StQ w0 w g A c l pos many err w) := ⟨hI, KeepBut.refl _ _ _, hB, hg⟩
 have HR := Aside0.mk hr
 have HC := Aside0.mk hc
 obtain ⟨z0, z1, z2, z3, f0, f1, f2, f3⟩ := cz4f hI
 clear hI hB hg hr hc
 by_cases ce : err = 0
 ·rw [if_pos ce] at h
  subst ce
  obtain ⟨⟨n, nx, e⟩, A1, h⟩ := oB h
  have H := Aside0.mk h
  clear h
  go_enter Tryd.func76, Tryd.ntmps76
  go_wp2
  refine st 16 (fun w' => w'.cell? ⟨g, 0, none⟩ = some (.slice A l.length c) ∧ w'.cell? ⟨g, 1, none⟩ = some (.int .i64 pos)) [] (bv 16 0) incunableref25_books_size.tab3 incunableref25_books_size.bits3 ⟨z0, z1⟩ (fun hHeld HT_ HW_ => ?_)
  have n_ := aE (HS.out.below (below_drew1 (Below.refl _ _)))
  clear HS z0 z1 z2 z3 f0 f1 f2 f3
  have HS := n_
  clear n_
  generalize w.drew = w9 at HS hHeld ⊢
  refine pu 0 14 (bv 16 1) HT_ rfl rfl ?_
  refine pu 1 15 (bv 16 3) HT_ rfl rfl ?_
  refine pu 2 16 (bv 16 7) HT_ rfl rfl ?_
  refine pu 4 18 (bv 16 23) HT_ rfl rfl ?_
  refine pu 5 19 (bv 16 55) HT_ rfl rfl ?_
  refine pu 6 20 (bv 16 119) HT_ rfl rfl ?_
  refine tk 3 17 (bv 16 127) HT_ HW_ hHeld rfl rfl (by rintro w' ⟨s0, s1⟩; exact yl) ?_
  refine tk 7 21 (bv 16 255) HT_ HW_ hHeld rfl rfl (by rintro w' ⟨s0, s1⟩; exact yl) ?_
  refine one_ (i := 8) (N := some 22) (bv 16 511) rfl rfl (one_of HT_.out (by kernel_rfl)) (by decide) (fun K hK => ?_)
  refine gK Tryd.func93 rfl #[.slice A l.length c, .int .i64 pos] rfl rfl ?_
  refine (incunableref01_GetSize.calls k A c l pos n nx e _ (Kd.C_below HR.out HS.out.2.2.1) HC.out A1.out).mono ?_
  rintro e_ w10 ⟨rfl, hd⟩
  refine ⟨_, rfl, ?_⟩
  have n_ := aE (HS.out.below hd.below)
  clear HS hd
  have HS := n_
  clear n_
  obtain ⟨z0, z1, z2, z3, f0, f1, f2, f3⟩ := cz4f HS.out.1
  refine hK.out _ _ ⟨z0, z1⟩ (fun hHeld => ?_)
  clear hK K
  refine nm (some 22) ?_
  refine pu 9 13 (bv 16 1023) HT_ rfl rfl ?_
  refine pu 10 23 (bv 16 2047) HT_ rfl rfl ?_
  refine pu 11 24 (bv 16 4095) HT_ rfl rfl ?_
  refine pu 12 25 (bv 16 8191) HT_ rfl rfl ?_
  refine pu 13 5 (bv 16 16383) HT_ rfl rfl ?_
  refine pu 14 6 (bv 16 32767) HT_ rfl rfl ?_
  refine pu 15 7 (bv 16 65535) HT_ rfl rfl ?_
  refine done_ (done_of HT_.out (by kernel_rfl)) ?_
  clear hHeld HT_ HW_
  have h := H.out
  clear H
  by_cases c1 : e = 0
  ·rw [if_pos c1] at h
   subst c1
   by_cases c2 : n > most
   ·rw [if_pos c2] at h
    have c2' : most < n := c2
    have b2 := decide_eq_true c2'
    clear c2 c2'
    simp only [Option.some.injEq, Prod.mk.injEq] at h
    obtain ⟨rfl, rfl, rfl⟩ := h
    go_wp2
    go_ret
    exact ⟨re, ((HS.out.pos _).err 0).err 3⟩
   ·rw [if_neg c2] at h
    have c2' : ¬ most < n := c2
    have b2 := decide_eq_false c2'
    clear c2 c2'
    simp only [Option.some.injEq, Prod.mk.injEq] at h
    obtain ⟨rfl, rfl, rfl⟩ := h
    go_wp2
    go_ret
    exact ⟨re, (HS.out.pos _).err 0⟩
  ·rw [if_neg c1] at h
   have b1 : (e == 0) = false := beq_eq_false_iff_ne.mpr c1
   have b1' : (e != 0) = true := bne_iff_ne.mpr c1
   have c1' : e ≠ 0 := c1
   clear c1
   simp only [Option.some.injEq, Prod.mk.injEq] at h
   obtain ⟨rfl, rfl, rfl⟩ := h
   go_wp2
   go_ret
   exact ⟨re, (HS.out.pos _).err _⟩
 ·rw [if_neg ce] at h
  have b1 : (err == 0) = false := beq_eq_false_iff_ne.mpr ce
  have b1' : (err != 0) = true := bne_iff_ne.mpr ce
  clear ce
  simp only [Option.some.injEq, Prod.mk.injEq] at h
  obtain ⟨rfl, rfl, rfl⟩ := h
  go_enter Tryd.func76, Tryd.ntmps76
  go_wp2
  go_ret
  exact ⟨re, HS.out⟩
theorem want_ {c : Bool} {A B : Prop} (hc : c = true) (h : A) : if c = true then A else B := by rw [if_pos hc]; exact h
def Lq (w0 w : World) (g : Nat) (A : Option Addr) (c : Nat) (l : List Int) (pos many err : Int) (gb : Nat) (s : ByteArray) (p : Int) (q : Value) (v : Value) (o : List (S61)) (W : World) : Prop :=
 (StQ w0 w g A c l pos many err W ∧ W.heap[gb]? = some (.cells #[.string s, .int .i64 p, q] 61 (0, 0)) ∧ Kd.R k61 61 W w.heap.size (fun k => k ≠ gb) v o) ∧ gb ≠ g ∧ w.heap.size ≤ gb ∧ w0.heap.size ≤ gb ∧ g < w.heap.size
section
variable {w0 w W W1 : World} {g : Nat} {A : Option Addr} {c : Nat} {l : List Int} {ps many er pos1 many1 err1 : Int} {gb : Nat} {s : ByteArray} {p : Int} {q v : Value} {o : List (S61)}
theorem Lq.below (h : Lq w0 w g A c l ps many er gb s p q v o W) (hb : Below W.heap.size W W1) : Lq w0 w g A c l ps many er gb s p q v o W1 :=
 ⟨⟨h.1.1.below hb, blk_below h.1.2.1 hb, Kd.R_below h.1.2.2 hb⟩, h.2⟩
theorem Lq.call (h : Lq w0 w g A c l ps many er gb s p q v o W) (hs : StQ w0 W g A c l pos1 many1 err1 W1) : Lq w0 w g A c l pos1 many1 err1 gb s p q v o W1 :=
 ⟨⟨h.1.1.call hs, hs.2.1.blk h.1.2.1 h.2.1 (by simp), R_keep h.1.2.2 hs.2.1 h.2.2.2.2⟩, h.2⟩
theorem Lq.pos (h : Lq w0 w g A c l ps many er gb s p q v o W) (x : Int) : Lq w0 w g A c l x many er gb s p q v o (W.setCell ⟨g, 1, none⟩ (.int .i64 x)) :=
 ⟨⟨h.1.1.pos x, (Below.heap_setCell W ⟨g, 1, none⟩ _ gb h.2.1).trans h.1.2.1, R_keep h.1.2.2 ((KeepBut.refl _ _ _).set_ 1 _) h.2.2.2.2⟩, h.2⟩
theorem Lq.err (h : Lq w0 w g A c l ps many er gb s p q v o W) (x : Int) : Lq w0 w g A c l ps many x gb s p q v o (W.setCell ⟨g, 3, none⟩ (.int .i64 x)) :=
 ⟨⟨h.1.1.err x, (Below.heap_setCell W ⟨g, 3, none⟩ _ gb h.2.1).trans h.1.2.1, R_keep h.1.2.2 ((KeepBut.refl _ _ _).set_ 3 _) h.2.2.2.2⟩, h.2⟩
theorem Lq.str (h : Lq w0 w g A c l ps many er gb s p q v o W) (x : ByteArray) : Lq w0 w g A c l ps many er gb x p q v o (W.setCell ⟨gb, 0, none⟩ (.string x)) :=
 ⟨⟨h.1.1.far h.2.1 h.2.2.1 0 _ h.2.2.2.1, blk_put (cs := #[.string s, .int .i64 p, q]) h.1.2.1 0 _ rfl, R_far h.1.2.2 _⟩, h.2⟩
theorem Lq.page (h : Lq w0 w g A c l ps many er gb s p q v o W) (x : Int) : Lq w0 w g A c l ps many er gb s x q v o (W.setCell ⟨gb, 1, none⟩ (.int .i64 x)) :=
 ⟨⟨h.1.1.far h.2.1 h.2.2.1 1 _ h.2.2.2.1, blk_put (cs := #[.string s, .int .i64 p, q]) h.1.2.1 1 _ rfl, R_far h.1.2.2 _⟩, h.2⟩
theorem Lq.kids (h : Lq w0 w g A c l ps many er gb s p q v o W) (x : Value) : Lq w0 w g A c l ps many er gb s p x v o (W.setCell ⟨gb, 2, none⟩ x) :=
 ⟨⟨h.1.1.far h.2.1 h.2.2.1 2 _ h.2.2.2.1, blk_put (cs := #[.string s, .int .i64 p, q]) h.1.2.1 2 _ rfl, R_far h.1.2.2 _⟩, h.2⟩
theorem Lq.out (h : Lq w0 w g A c l ps many er gb s p q v o W) : Kd.R k61 61 W w.heap.size (fun _ => True) v o ∧ StQ w0 w g A c l ps many er W := ⟨Kd.R_mono h.1.2.2 (fun _ _ => trivial), h.1.1⟩
end
mutual
def incunableref25_books_list.l0 : Nat → List Int → Int → List (S61) → Int → Int → Int → Int → Int → Option (List (S61) × Int × Int × Int)
 | 0, _, _, _, _, _, _, _, _ => none
 | k + 1, l, d, o, n, i, pos, many, err => if err = 0 then (if i < n then (if wrap64 (many + 1) > 400 then some (o, pos, wrap64 (many + 1), 4) else (if d ≥ 20 then some (o, pos, wrap64 (many + 1), 4) else ((incunableref25_books_size.f k l pos 0 200).bind fun t1 => if t1.2.2 = 0 then (if t1.1 > wrap64 ((l.length : Int) - t1.2.1) then some (o, t1.2.1, wrap64 (many + 1), 6) else (if 0 ≤ t1.2.1 ∧ 0 ≤ t1.1 ∧ t1.2.1 + t1.1 ≤ (l.length : Int) ∧ (l.length : Int) ≤ 9223372036854775807 then ((incunableref25_books_size.f k l (t1.2.1 + t1.1) 0 1000).bind fun t2 => (incunableref25_books_list.f k l (wrap64 (d + 1)) t2.2.1 (wrap64 (many + 1)) (if t2.2.2 = 0 then (if t2.1 < 1 then 3 else 0) else t2.2.2)).bind fun t3 => if (o.length + 1) * 48 ≤ 140737488355328 then incunableref25_books_list.l0 k l d (o ++ [⟨strOfNums ((l.take (t1.2.1 + t1.1).toNat).drop t1.2.1.toNat), t2.1, t3.1⟩]) n (wrap64 (i + 1)) t3.2.1 t3.2.2.1 t3.2.2.2 else none) else none)) else some (o, t1.2.1, wrap64 (many + 1), t1.2.2)))) else some (o, pos, many, err)) else some (o, pos, many, err)
def incunableref25_books_list.f : Nat → List Int → Int → Int → Int → Int → Option (List (S61) × Int × Int × Int)
 | 0, _, _, _, _, _ => none
 | k + 1, l, d, pos, many, err => (incunableref25_books_size.f k l pos err 2147483647).bind fun t => incunableref25_books_list.l0 k l d ([] : List (S61)) t.1 0 t.2.1 many t.2.2
end
theorem incunableref25_books_list.mono_l : ∀ k, (∀ y0 y1 y2 y3 y4 y5 y6 y7, LeO (incunableref25_books_list.l0 k y0 y1 y2 y3 y4 y5 y6 y7) (incunableref25_books_list.l0 (k + 1) y0 y1 y2 y3 y4 y5 y6 y7)) ∧ (∀ y0 y1 y2 y3 y4, LeO (incunableref25_books_list.f k y0 y1 y2 y3 y4) (incunableref25_books_list.f (k + 1) y0 y1 y2 y3 y4))
 | 0 => ⟨fun _ _ _ _ _ _ _ _ r h => by simp [incunableref25_books_list.l0] at h, fun _ _ _ _ _ r h => by simp [incunableref25_books_list.f] at h⟩
 | k + 1 => by
  obtain ⟨ih0, ih1⟩ := incunableref25_books_list.mono_l k
  refine ⟨fun y0 y1 y2 y3 y4 y5 y6 y7 => ?_, fun y0 y1 y2 y3 y4 => ?_⟩
  ·unfold incunableref25_books_list.l0
   refine LeO.ite (LeO.ite (LeO.ite (LeO.refl _) (LeO.ite (LeO.refl _) (LeO.bind (incunableref25_books_size.mono _ _ _ _ k) (fun _ => LeO.ite (LeO.ite (LeO.refl _) (LeO.ite (LeO.bind (incunableref25_books_size.mono _ _ _ _ k) (fun _ => LeO.bind (ih1 _ _ _ _ _) (fun _ => LeO.ite (ih0 _ _ _ _ _ _ _ _) (LeO.refl _)))) (LeO.refl _))) (LeO.refl _))))) (LeO.refl _)) (LeO.refl _)
  ·unfold incunableref25_books_list.f
   exact LeO.bind (incunableref25_books_size.mono _ _ _ _ k) (fun _ => ih0 _ _ _ _ _ _ _ _)
theorem incunableref25_books_list.mono : ∀ a0 a1 a2 a3 a4 k, LeO (incunableref25_books_list.f k a0 a1 a2 a3 a4) (incunableref25_books_list.f (k + 1) a0 a1 a2 a3 a4) := fun a0 a1 a2 a3 a4 k => (incunableref25_books_list.mono_l k).2 a0 a1 a2 a3 a4
def incunableref25_books_list.T11 : Bool × List (List Nat × List Nat) := (true, [([], []), ([0], [0]), ([1], [1]), ([2], [2]), ([3], [3]), ([4], [4]), ([5], [5]), ([5], [5]), ([7, 5], [5, 7]), ([8, 5], [5, 8]), ([9, 5], [5, 9]), ([10, 5], [5, 10]), ([5], [5]), ([12, 5], [5, 12]), ([13, 5], [5, 13]), ([14, 5], [5, 14]), ([11, 15, 5], [5, 11, 15]), ([6, 16, 5], [5, 6, 16]), ([5, 17], [5, 17])])
def incunableref25_books_list.B11 : List Nat := [0, 1, 3, 7, 15, 31, 63, 63, 191, 447, 959, 1983, 63, 4159, 12351, 28735, 65471, 131071, 262143]
def incunableref25_books_list.T14 : Bool × List (List Nat × List Nat) := (true, [([], []), ([0], [0]), ([1], [1]), ([2], [2]), ([], []), ([4], [4]), ([5], [5]), ([6], [6]), ([], []), ([8], [8]), ([9], [9]), ([10], [10]), ([], []), ([11, 12], [11, 12]), ([3, 7, 13], [3, 7, 13]), ([14], [14]), ([0, 1, 2, 3, 4, 5, 6, 7, 8, 9, 10, 11, 12, 13, 14, 15], []), ([16, 15, 0, 1, 2, 3, 4, 5, 6, 7, 8, 9, 10, 11, 12, 13, 14, 15], [15, 16])])
def incunableref25_books_list.B14 : List Nat := [0, 1, 3, 7, 0, 16, 48, 112, 0, 256, 768, 1792, 0, 7936, 16383, 32767, 65535, 131071]
theorem incunableref25_books_list.tab11 : rtab .any (opsOf Tryd.f55 11) = incunableref25_books_list.T11 := by kernel_rfl
theorem incunableref25_books_list.bits11 : waitsOk incunableref25_books_list.T11.2 incunableref25_books_list.B11 = true := by kernel_rfl
theorem incunableref25_books_list.tab14 : rtab .any (opsOf Tryd.f55 14) = incunableref25_books_list.T14 := by kernel_rfl
theorem incunableref25_books_list.bits14 : waitsOk incunableref25_books_list.T14.2 incunableref25_books_list.B14 = true := by kernel_rfl
set_option maxHeartbeats 16000000 in
set_option maxRecDepth 100000 in
theorem incunableref25_books_list.calls (k : Nat) : ∀ (g : Nat) (A : Option Addr) (c : Nat) (l : List Int) (d pos many err : Int) (r1 : List (S61)) (r2 r3 r4 : Int) (w0 w : World) (hI : RdQ g A c l pos many err w) (hB : Below w0.heap.size w0 w) (hg : w0.heap.size ≤ g) (hr : Kd.C (Kd.int .u8) w0 A l.length l) (hc : l.length ≤ c) (h : incunableref25_books_list.f k l d pos many err = some (r1, r2, r3, r4)),
  Calls Tryd.prog 55 #[.pointer (some ⟨g, 0, none⟩), .int .i64 d] w fun e w' => ∃ v0_ : Value, e = .returned v0_ ∧ Kd.R k61 61 w' w.heap.size (fun _ => True) v0_ r1 ∧ StQ w0 w g A c l r2 r3 r4 w' := by
 induction k using Nat.strongRecOn with
 | _ k ih =>
 intro g A c l d pos many err r1 r2 r3 r4 w0 w hI hB hg hr hc h
 cases k with
 | zero => exact absurd h (by simp [incunableref25_books_list.f])
 | succ k =>
 simp only [incunableref25_books_list.f] at h
 have hu := Tryd.underlying83
 have hu61 := Tryd.underlying61
 obtain ⟨⟨n, nx, e0⟩, A0_, h⟩ := oB h
 have GL := Aside0.mk (blk_lt hI)
 have HI := Aside0.mk hI
 have HB := Aside0.mk hB
 have HG := Aside0.mk hg
 have HR := Aside0.mk hr
 have HC := Aside0.mk hc
 have H' := Aside0.mk h
 clear hI hB hg hr hc h
 go_enter Tryd.func55, Tryd.ntmps55
 go_wp2_with (first | (refine gF 76 11 Tryd.func76 #[.pointer (some ⟨g, 0, none⟩), .int .i64 2147483647] rfl rfl ?_; refine (incunableref25_books_size.calls k g A c l pos many err 2147483647 n nx e0 w0 _ HI.out HB.out HG.out HR.out HC.out A0_.out).mono ?_; rintro e_ w2 ⟨rfl, hs⟩; refine ⟨_, rfl, ?_⟩; have HS := Aside0.mk hs; clear hs))
 clear HI HB
 go_loopg [6, 7] k (fun kq v6 v7 w' => ∃ (o1 : List (S61)) (i1 p1 m1 e1 : Int), v7 = .int .i64 i1 ∧ Aside0 (incunableref25_books_list.l0 kq l d o1 n i1 p1 m1 e1 = some (r1, r2, r3, r4)) ∧ Aside0 (kq ≤ k) ∧ Aside0 (Kd.R k61 61 w' w.heap.size (fun _ => True) v6 o1) ∧ Aside0 (StQ w0 w g A c l p1 m1 e1 w'))
 case atStart => exact ⟨([] : List (S61)), 0, nx, many, e0, rq, H', ⟨Nat.le_refl _⟩, ⟨Kd.R_nil _ _ _ _ _⟩, HS⟩
 case round =>
  clear H' HS
  obtain ⟨o1, i1, p1, m1, e1, rfl, HA, HK1, HO, HS⟩ := hrel
  cases gk with
  | zero => exact absurd HA.out (by simp [incunableref25_books_list.l0])
  | succ k1 =>
   have H := HA.out
   clear HA
   simp only [incunableref25_books_list.l0] at H
   obtain ⟨z0, z1, z2, z3, g0, g1, g2, g3⟩ := cz4f HS.out.1
   by_cases c2 : e1 = 0
   ·rw [if_pos c2] at H
    subst c2
    by_cases c1 : i1 < n
    ·rw [if_pos c1] at H
     have b1 := decide_eq_true c1
     clear c1
     have HS1 := Aside0.mk (HS.out.many (wrap64 (m1 + 1)))
     have HO1 := Aside0.mk (R_keep HO.out (show KeepBut wr (wr.setCell ⟨g, 2, none⟩ (.int .i64 (wrap64 (m1 + 1)))) g none from (KeepBut.refl _ _ _).set_ 2 _) GL.out)
     clear HO HS
     by_cases c3 : wrap64 (m1 + 1) > 400
     ·rw [if_pos c3] at H
      have c3' : 400 < wrap64 (m1 + 1) := c3
      have b3 := decide_eq_true c3'
      clear c3 c3'
      simp only [Option.some.injEq, Prod.mk.injEq] at H
      obtain ⟨rfl, rfl, rfl, rfl⟩ := H
      go_wp2
      go_ret
      exact ⟨_, re, R_keep HO1.out ((KeepBut.refl _ _ _).set_ 3 _) GL.out, HS1.out.err 4⟩
     ·rw [if_neg c3] at H
      have c3' : ¬ 400 < wrap64 (m1 + 1) := c3
      have b3 := decide_eq_false c3'
      clear c3 c3'
      by_cases c4 : d ≥ 20
      ·rw [if_pos c4] at H
       have c4' : 20 ≤ d := c4
       have b4 := decide_eq_true c4'
       clear c4 c4'
       simp only [Option.some.injEq, Prod.mk.injEq] at H
       obtain ⟨rfl, rfl, rfl, rfl⟩ := H
       go_wp2
       go_ret
       exact ⟨_, re, R_keep HO1.out ((KeepBut.refl _ _ _).set_ 3 _) GL.out, HS1.out.err 4⟩
      ·rw [if_neg c4] at H
       have c4' : ¬ 20 ≤ d := c4
       have b4 := decide_eq_false c4'
       clear c4 c4'
       obtain ⟨⟨m, p2, e2⟩, A1, H⟩ := oB H
       have H := Aside0.mk H
       have TK := aC trivial (aE trivial)
       obtain ⟨K1, K2⟩ := TK
       go_wp2_with (first | (clear K1; (with_reducible refine gd 8 rfl ?_); refine bx 8 #[.string (⟨#[]⟩ : ByteArray), .int .i64 0, .slice none 0 0] 61 rfl rfl ?_; intro gb hg_ w11 hbox hb; have HS := Aside0.mk (show Lq w0 w g A c l p1 (wrap64 (m1 + 1)) 0 gb (⟨#[]⟩ : ByteArray) 0 (.slice none 0 0) u6 o1 w11 from ⟨⟨HS1.out.below hb, hbox, Kd.R_below (R_not HO1.out hg_) hb⟩, by have := blk_lt HS1.out.1; omega, by rw [hg_]; exact HS1.out.2.1.1, by rw [hg_]; exact HS1.out.2.2.1.size, GL.out⟩); clear HS1 HO1 hbox hb hg_) | (clear K2; refine gF 76 44 Tryd.func76 #[.pointer (some ⟨g, 0, none⟩), .int .i64 200] rfl rfl ?_; refine (incunableref25_books_size.calls k1 g A c l p1 (wrap64 (m1 + 1)) 0 200 m p2 e2 w0 _ HS.out.1.1.1 HS.out.1.1.2.2.1 HG.out HR.out HC.out A1.out).mono ?_; rintro e_ w12 ⟨rfl, hs⟩; refine ⟨_, rfl, ?_⟩; have n_ := aE ((HS.out.call hs).below (below_drew1 (Below.refl _ _))); clear HS hs z0 z1 z2 z3 g0 g1 g2 g3; have HS := n_; clear n_))
       obtain ⟨z0, z1, z2, z3, g0, g1, g2, g3⟩ := cz4f HS.out.1.1.1
       refine st 19 (fun w' => w'.cell? ⟨g, 0, none⟩ = some (.slice A l.length c) ∧ w'.cell? ⟨g, 1, none⟩ = some (.int .i64 p2) ∧ w'.cell? ⟨g, 3, none⟩ = some (.int .i64 e2)) [] (bv 19 0) incunableref25_books_list.tab11 incunableref25_books_list.bits11 ⟨z0, z1, z3⟩ (fun hHeld HT_ HW_ => ?_)
       clear z0 z1 z2 z3 g0 g1 g2 g3
       generalize w12.drew = w13 at HS hHeld ⊢
       refine pu 0 45 (bv 19 1) HT_ rfl rfl ?_
       refine pu 1 46 (bv 19 3) HT_ rfl rfl ?_
       refine pu 2 47 (bv 19 7) HT_ rfl rfl ?_
       refine tk 3 48 (bv 19 15) HT_ HW_ hHeld rfl rfl (by rintro w' ⟨s0, s1, s3⟩; exact yl) ?_
       have h := H.out
       clear H
       by_cases c5 : e2 = 0
       ·rw [if_pos c5] at h
        subst c5
        refine pu 4 49 (bv 19 31) HT_ rfl rfl ?_
        refine pu 5 50 (bv 19 63) HT_ rfl rfl ?_
        refine pu 6 51 (bv 19 127) HT_ rfl rfl ?_
        refine pu 7 52 (bv 19 255) HT_ rfl rfl ?_
        refine pu 8 53 (bv 19 511) HT_ rfl rfl ?_
        refine pu 9 54 (bv 19 1023) HT_ rfl rfl ?_
        refine pu 12 57 (bv 19 5119) HT_ rfl rfl ?_
        refine pu 13 58 (bv 19 13311) HT_ rfl rfl ?_
        refine pu 14 59 (bv 19 29695) HT_ rfl rfl ?_
        refine tk 10 55 (bv 19 30719) HT_ HW_ hHeld rfl rfl (by rintro w' ⟨s0, s1, s3⟩; exact yl) ?_
        refine tk 15 60 (bv 19 63487) HT_ HW_ hHeld rfl rfl (by rintro w' ⟨s0, s1, s3⟩; exact yl) ?_
        refine pu 11 56 (bv 19 65535) HT_ rfl rfl ?_
        refine pu 16 61 (bv 19 131071) HT_ rfl rfl ?_
        by_cases c6 : m > wrap64 ((l.length : Int) - p2)
        ·rw [if_pos c6] at h
         have c6' : wrap64 ((l.length : Int) - p2) < m := c6
         have b6 := decide_eq_true c6'
         clear c6 c6'
         simp only [Option.some.injEq, Prod.mk.injEq] at h
         obtain ⟨rfl, rfl, rfl, rfl⟩ := h
         refine pu 17 62 (bv 19 262143) HT_ rfl rfl ?_
         refine pu 18 63 (bv 19 524287) HT_ rfl rfl ?_
         refine done_ (done_of HT_.out (by kernel_rfl)) ?_
         clear hHeld HT_ HW_
         obtain ⟨z0, z1, z2, z3, g0, g1, g2, g3⟩ := cz4f HS.out.1.1.1
         go_wp2
         go_ret
         exact ⟨_, re, (HS.out.err 6).out⟩
        ·rw [if_neg c6] at h
         have c6' : ¬ wrap64 ((l.length : Int) - p2) < m := c6
         have b6 := decide_eq_false c6'
         clear c6 c6'
         by_cases c3 : 0 ≤ p2 ∧ 0 ≤ m ∧ p2 + m ≤ (l.length : Int) ∧ (l.length : Int) ≤ 9223372036854775807
         ·rw [if_pos c3] at h
          refine pu 17 62 (bv 19 262143) HT_ rfl rfl ?_
          refine pu 18 63 (bv 19 524287) HT_ rfl rfl ?_
          refine done_ (done_of HT_.out (by kernel_rfl)) ?_
          clear hHeld HT_ HW_
          obtain ⟨c30, c31, c32, c33⟩ := c3
          obtain ⟨qq, hq⟩ : ∃ q, q = p2 + m := ⟨_, rfl⟩
          have ew1 : wrap64 (p2 + m) = qq := by unfold wrap64; omega
          rw [← hq] at c32 h
          have HQ := Aside0.mk hq
          obtain ⟨i0, hi0, hz0⟩ := Option.map_eq_some_iff.1 infoU
          simp only [Prod.mk.injEq] at hz0
          have hcut := cut_mid (P := Tryd.prog) 44 5 .i64 .i64 Tryd.underlying44 hi0 1 hz0.2.1 A l.length c p2 qq c30 (by omega) c32 HC.out
          have hC : Kd.C (Kd.int .u8) w0 (if c = p2.toNat then A else A.map (·.add (p2.toNat * 1))) (qq.toNat - p2.toNat) ((l.take qq.toNat).drop p2.toNat) := by
           have h1 := Kd.C_mid (lo := p2.toNat) (hi := qq.toNat) HR.out (by omega) (by omega) HC.out
           have e1 : ((l.take qq.toNat).drop p2.toNat).length = qq.toNat - p2.toNat := by rw [List.length_drop, List.length_take]; omega
           rw [e1] at h1
           exact h1
          generalize (if c = p2.toNat then A else A.map (·.add (p2.toNat * 1))) = B at hcut hC
          have HCC := Aside0.mk hC
          obtain ⟨str, hstr⟩ : ∃ s, s = strOfNums ((l.take qq.toNat).drop p2.toNat) := ⟨_, rfl⟩
          rw [← hstr] at h
          have HSTR := Aside0.mk hstr
          clear hC c30 c31 c32 c33 hz0 hi0 hq hstr
          obtain ⟨⟨pg, p3, e3⟩, A2, h⟩ := oB h
          obtain ⟨⟨ks, p4, m4, e4⟩, A3, h⟩ := oB h
          by_cases lm : (o1.length + 1) * 48 ≤ 140737488355328
          case neg =>
           rw [if_neg lm] at h
           exact absurd h (by simp)
          rw [if_pos lm] at h
          have LM := aE lm
          have H' := aE h
          clear lm h
          obtain ⟨z0, z1, z2, z3, g0, g1, g2, g3⟩ := cz4f HS.out.1.1.1
          go_wp2
          have n_ := aE (HS.out.below (below_drew1 (Below.refl _ _)))
          clear HS z0 z1 z2 z3 g0 g1 g2 g3
          have HS := n_
          clear n_
          obtain ⟨z0, z1, z2, z3⟩ := cz4 HS.out.1.1.1
          refine st 18 (fun w' => w'.cell? ⟨g, 0, none⟩ = some (.slice A l.length c) ∧ w'.cell? ⟨g, 1, none⟩ = some (.int .i64 p2)) [17] (bv 18 0) incunableref25_books_list.tab14 incunableref25_books_list.bits14 ⟨z0, z1⟩ (fun hHeld HT_ HW_ => ?_)
          clear z0 z1 z2 z3
          generalize w13.drew = w14 at HS hHeld ⊢
          refine pu 0 72 (bv 18 1) HT_ rfl rfl ?_
          refine pu 1 73 (bv 18 3) HT_ rfl rfl ?_
          refine pu 2 74 (bv 18 7) HT_ rfl rfl ?_
          refine pu 4 76 (bv 18 23) HT_ rfl rfl ?_
          refine pu 5 77 (bv 18 55) HT_ rfl rfl ?_
          refine pu 6 78 (bv 18 119) HT_ rfl rfl ?_
          refine pu 8 80 (bv 18 375) HT_ rfl rfl ?_
          refine pu 9 81 (bv 18 887) HT_ rfl rfl ?_
          refine pu 10 82 (bv 18 1911) HT_ rfl rfl ?_
          refine pu 12 84 (bv 18 6007) HT_ rfl rfl ?_
          refine tk 3 75 (bv 18 6015) HT_ HW_ hHeld rfl rfl (by rintro w' ⟨s0, s1⟩; exact yl) ?_
          refine tk 7 79 (bv 18 6143) HT_ HW_ hHeld rfl rfl (by rintro w' ⟨s0, s1⟩; exact yl) ?_
          refine tk 11 83 (bv 18 8191) HT_ HW_ hHeld rfl rfl (by rintro w' ⟨s0, s1⟩; exact yl) ?_
          refine pu 13 85 (bv 18 16383) HT_ rfl rfl ?_
          refine pu 14 86 (bv 18 32767) HT_ rfl rfl ?_
          refine one_ (i := 15) (N := some 87) (bv 18 65535) rfl rfl (one_of HT_.out (by kernel_rfl)) (by decide) (fun K hK => ?_)
          refine value_ (w1 := ?_) (v := ?_) (by rfl) rfl ?_ ?_
          rotate_left 2
          ·refine conv_str (ta := 44) (tb := 9) (e := 5) (x := .tmp 86) (c := c - p2.toNat) ?_ ?_ Tryd.underlying44 Tryd.underlying5 Tryd.underlying9 (Kd.C_below HCC.out HS.out.1.1.2.2.1)
           ·rfl
           ·rfl
          rw [← HSTR.out]
          obtain ⟨z0, z1, z2, z3⟩ := cz4 HS.out.1.1.1
          refine hK.out _ _ ⟨z0, z1⟩ (fun hHeld => ?_)
          clear hK K
          refine nm (some 87) ?_
          refine pu 16 88 (bv 18 131071) HT_ rfl rfl ?_
          refine last_ (i := 17) (N := none) (bv 18 262143) rfl rfl (one_of HT_.out (by kernel_rfl)) (by decide) (fun K hK => ?_)
          refine want_ (by rfl) ?_
          obtain ⟨y0, y1, y2, f0, f1, f2⟩ := cz3f HS.out.1.2.1
          unfold Oper.wp
          go_simp
          refine hK.out _ _ ?_
          clear hK K
          refine done_ (done_of HT_.out (by kernel_rfl)) ?_
          clear hHeld HT_ HW_ hcut HCC
          have n_ := aC ((HS.out.str str).pos qq) (aE (HS.out.str str))
          clear HS z0 z1 z2 z3 y0 y1 y2 f0 f1 f2
          obtain ⟨HS2, HS⟩ := n_
          obtain ⟨z0, z1, z2, z3, g0, g1, g2, g3⟩ := cz4f HS.out.1.1.1
          obtain ⟨y0, y1, y2, f0, f1, f2⟩ := cz3f HS.out.1.2.1
          have hn1 : gb ≠ g := HS.out.2.1
          have hn2 : g ≠ gb := hn1.symm
          clear HS
          have TK := aC trivial (aE trivial)
          obtain ⟨K3, K4⟩ := TK
          by_cases c8 : e3 = 0
          ·subst c8
           rw [if_pos rfl] at A3
           by_cases c9 : pg < 1
           ·rw [if_pos c9] at A3
            have b9 := decide_eq_true c9
            clear c9
            go_wp2_with (first | (clear K3; refine gF 76 99 Tryd.func76 #[.pointer (some ⟨g, 0, none⟩), .int .i64 1000] rfl rfl ?_; refine (incunableref25_books_size.calls k1 g A c l qq (wrap64 (m1 + 1)) 0 1000 pg p3 0 w0 _ HS2.out.1.1.1 HS2.out.1.1.2.2.1 HG.out HR.out HC.out A2.out).mono ?_; rintro e_ w22 ⟨rfl, hs⟩; refine ⟨_, rfl, ?_⟩; have n_ := aE (((HS2.out.call hs).page pg).err 3); have n2_ := aE ((HS2.out.call hs)); clear HS2 hs y0 y1 y2 f0 f1 f2 z0 z1 z2 z3 g0 g1 g2 g3; obtain ⟨z0, z1, z2, z3, g0, g1, g2, g3⟩ := cz4f n2_.out.1.1.1; obtain ⟨y0, y1, y2, f0, f1, f2⟩ := cz3f n2_.out.1.2.1; clear n2_; have HS := n_; clear n_) | (clear K4; refine gF 55 117 Tryd.func55 #[.pointer (some ⟨g, 0, none⟩), .int .i64 (wrap64 (d + 1))] rfl rfl ?_; refine (ih k1 (by have := HK1.out; omega) g A c l (wrap64 (d + 1)) p3 (wrap64 (m1 + 1)) 3 ks p4 m4 e4 w0 _ HS.out.1.1.1 HS.out.1.1.2.2.1 HG.out HR.out HC.out A3.out).mono ?_; rintro e_ w23 ⟨v117, rfl, ho, hs⟩; refine ⟨_, rfl, ?_⟩; obtain ⟨A9, c9, e9⟩ := Kd.R_slice ho; subst e9; clear y0 y1 y2 f0 f1 f2 z0 z1 z2 z3 g0 g1 g2 g3; have hq := HS.out; have hz := HS.out.call hs; obtain ⟨y0, y1, y2, f0, f1, f2⟩ := cz3f hz.1.2.1; have hb0 := own_lt hq.1.2.2; have R9 := Aside0.mk (show Kd.R k61 61 (w23.setCell ⟨gb, 2, none⟩ (.slice A9 ks.length c9)) w.heap.size (fun q => q ≠ gb ∧ some q ≠ u6.ownBlock) (.slice A9 ks.length c9) ks from by have hq1 := Kd.R_bound ho; have hq2 := Kd.R_lower (Kd.R_mono (ok' := fun q => q ≠ gb ∧ some q ≠ u6.ownBlock) hq1 (fun q h_ => by have h1 := h_.2.1; have h2 := blk_lt hq.1.2.1; exact ⟨by omega, fun e_ => by have h3 := hb0 q e_.symm; omega⟩)) hq.1.1.2.1.1; exact Kd.R_move hq2 (fun q h_ => Below.heap_setCell w23 ⟨gb, 2, none⟩ _ q h_.1)); have n_ := aE (hz.kids (.slice A9 ks.length c9)); clear HS hs ho hb0 hq hz; have HS := n_; clear n_) | ((with_reducible refine gate_builtin (b := .append) (xs := #[.tmp 119, .tmp 121]) rfl ?_); at_builtin; refine Kd.R_append k61 (w0 := w23.setCell ⟨gb, 2, none⟩ (.slice A9 ks.length c9)) w.heap.size rfl (.tmp 119) (.tmp 121) 22 61 (.agg #[(.string ⟨#[]⟩), (.int .i64 0), (.slice none 0 0)]) 48 rfl Tryd.underlying22 infoO rfl (by decide) (by omega) u6 o1 (⟨str, pg, ks⟩ : S61) [.string str, .int .i64 pg, .slice A9 ks.length c9] (fun _ => True) (fun q => q ≠ gb ∧ some q ≠ u6.ownBlock) rfl (congrArg (fun n => Value.slice (some ⟨n, 0, none⟩) 1 1) (show w23.heap.size = _ by simp [World.setCell])) ?aP (fun _ hk => ⟨trivial, hk.2⟩) ?aF ?aO ?aB ?aS ?aL ?_; (case aP => exact k61_mkM _ _ _ (⟨str, pg, ks⟩ : S61) R9.out); (case aB => exact Below.refl _ _); (case aF => exact (fun _ _ => trivial)); (case aO => exact HS.out.out.1); (case aS => exact HS.out.1.1.2.1.1); (case aL => have := LM.out; omega); intro v122 w24 ho hb hg hat; have n_ := aC ho (aE (HS.out.out.2.grown hg (fun b hb_ => Kd.R_base HS.out.out.1 b hb_) GL.out)); clear HS R9; obtain ⟨HO, HS⟩ := n_; clear ho hb hg hat))
            go_roundg k1
            case measure => have := HK1.out; omega
            case rel => exact ⟨_, wrap64 (i1 + 1), p4, m4, e4, rq, H', ⟨by have := HK1.out; omega⟩, HO, HS⟩
           ·rw [if_neg c9] at A3
            have b9 := decide_eq_false c9
            clear c9
            go_wp2_with (first | (clear K3; refine gF 76 99 Tryd.func76 #[.pointer (some ⟨g, 0, none⟩), .int .i64 1000] rfl rfl ?_; refine (incunableref25_books_size.calls k1 g A c l qq (wrap64 (m1 + 1)) 0 1000 pg p3 0 w0 _ HS2.out.1.1.1 HS2.out.1.1.2.2.1 HG.out HR.out HC.out A2.out).mono ?_; rintro e_ w22 ⟨rfl, hs⟩; refine ⟨_, rfl, ?_⟩; have n_ := aE ((HS2.out.call hs).page pg); have n2_ := aE ((HS2.out.call hs)); clear HS2 hs y0 y1 y2 f0 f1 f2 z0 z1 z2 z3 g0 g1 g2 g3; obtain ⟨z0, z1, z2, z3, g0, g1, g2, g3⟩ := cz4f n2_.out.1.1.1; obtain ⟨y0, y1, y2, f0, f1, f2⟩ := cz3f n2_.out.1.2.1; clear n2_; have HS := n_; clear n_) | (clear K4; refine gF 55 117 Tryd.func55 #[.pointer (some ⟨g, 0, none⟩), .int .i64 (wrap64 (d + 1))] rfl rfl ?_; refine (ih k1 (by have := HK1.out; omega) g A c l (wrap64 (d + 1)) p3 (wrap64 (m1 + 1)) 0 ks p4 m4 e4 w0 _ HS.out.1.1.1 HS.out.1.1.2.2.1 HG.out HR.out HC.out A3.out).mono ?_; rintro e_ w23 ⟨v117, rfl, ho, hs⟩; refine ⟨_, rfl, ?_⟩; obtain ⟨A9, c9, e9⟩ := Kd.R_slice ho; subst e9; clear y0 y1 y2 f0 f1 f2 z0 z1 z2 z3 g0 g1 g2 g3; have hq := HS.out; have hz := HS.out.call hs; obtain ⟨y0, y1, y2, f0, f1, f2⟩ := cz3f hz.1.2.1; have hb0 := own_lt hq.1.2.2; have R9 := Aside0.mk (show Kd.R k61 61 (w23.setCell ⟨gb, 2, none⟩ (.slice A9 ks.length c9)) w.heap.size (fun q => q ≠ gb ∧ some q ≠ u6.ownBlock) (.slice A9 ks.length c9) ks from by have hq1 := Kd.R_bound ho; have hq2 := Kd.R_lower (Kd.R_mono (ok' := fun q => q ≠ gb ∧ some q ≠ u6.ownBlock) hq1 (fun q h_ => by have h1 := h_.2.1; have h2 := blk_lt hq.1.2.1; exact ⟨by omega, fun e_ => by have h3 := hb0 q e_.symm; omega⟩)) hq.1.1.2.1.1; exact Kd.R_move hq2 (fun q h_ => Below.heap_setCell w23 ⟨gb, 2, none⟩ _ q h_.1)); have n_ := aE (hz.kids (.slice A9 ks.length c9)); clear HS hs ho hb0 hq hz; have HS := n_; clear n_) | ((with_reducible refine gate_builtin (b := .append) (xs := #[.tmp 119, .tmp 121]) rfl ?_); at_builtin; refine Kd.R_append k61 (w0 := w23.setCell ⟨gb, 2, none⟩ (.slice A9 ks.length c9)) w.heap.size rfl (.tmp 119) (.tmp 121) 22 61 (.agg #[(.string ⟨#[]⟩), (.int .i64 0), (.slice none 0 0)]) 48 rfl Tryd.underlying22 infoO rfl (by decide) (by omega) u6 o1 (⟨str, pg, ks⟩ : S61) [.string str, .int .i64 pg, .slice A9 ks.length c9] (fun _ => True) (fun q => q ≠ gb ∧ some q ≠ u6.ownBlock) rfl (congrArg (fun n => Value.slice (some ⟨n, 0, none⟩) 1 1) (show w23.heap.size = _ by simp [World.setCell])) ?aP (fun _ hk => ⟨trivial, hk.2⟩) ?aF ?aO ?aB ?aS ?aL ?_; (case aP => exact k61_mkM _ _ _ (⟨str, pg, ks⟩ : S61) R9.out); (case aB => exact Below.refl _ _); (case aF => exact (fun _ _ => trivial)); (case aO => exact HS.out.out.1); (case aS => exact HS.out.1.1.2.1.1); (case aL => have := LM.out; omega); intro v122 w24 ho hb hg hat; have n_ := aC ho (aE (HS.out.out.2.grown hg (fun b hb_ => Kd.R_base HS.out.out.1 b hb_) GL.out)); clear HS R9; obtain ⟨HO, HS⟩ := n_; clear ho hb hg hat))
            go_roundg k1
            case measure => have := HK1.out; omega
            case rel => exact ⟨_, wrap64 (i1 + 1), p4, m4, e4, rq, H', ⟨by have := HK1.out; omega⟩, HO, HS⟩
          ·rw [if_neg c8] at A3
           have b8 : (e3 == 0) = false := beq_eq_false_iff_ne.mpr c8
           have b8' : (e3 != 0) = true := bne_iff_ne.mpr c8
           clear c8
           go_wp2_with (first | (clear K3; refine gF 76 99 Tryd.func76 #[.pointer (some ⟨g, 0, none⟩), .int .i64 1000] rfl rfl ?_; refine (incunableref25_books_size.calls k1 g A c l qq (wrap64 (m1 + 1)) 0 1000 pg p3 e3 w0 _ HS2.out.1.1.1 HS2.out.1.1.2.2.1 HG.out HR.out HC.out A2.out).mono ?_; rintro e_ w22 ⟨rfl, hs⟩; refine ⟨_, rfl, ?_⟩; have n_ := aE ((HS2.out.call hs).page pg); have n2_ := aE ((HS2.out.call hs)); clear HS2 hs y0 y1 y2 f0 f1 f2 z0 z1 z2 z3 g0 g1 g2 g3; obtain ⟨z0, z1, z2, z3, g0, g1, g2, g3⟩ := cz4f n2_.out.1.1.1; obtain ⟨y0, y1, y2, f0, f1, f2⟩ := cz3f n2_.out.1.2.1; clear n2_; have HS := n_; clear n_) | (clear K4; refine gF 55 117 Tryd.func55 #[.pointer (some ⟨g, 0, none⟩), .int .i64 (wrap64 (d + 1))] rfl rfl ?_; refine (ih k1 (by have := HK1.out; omega) g A c l (wrap64 (d + 1)) p3 (wrap64 (m1 + 1)) e3 ks p4 m4 e4 w0 _ HS.out.1.1.1 HS.out.1.1.2.2.1 HG.out HR.out HC.out A3.out).mono ?_; rintro e_ w23 ⟨v117, rfl, ho, hs⟩; refine ⟨_, rfl, ?_⟩; obtain ⟨A9, c9, e9⟩ := Kd.R_slice ho; subst e9; clear y0 y1 y2 f0 f1 f2 z0 z1 z2 z3 g0 g1 g2 g3; have hq := HS.out; have hz := HS.out.call hs; obtain ⟨y0, y1, y2, f0, f1, f2⟩ := cz3f hz.1.2.1; have hb0 := own_lt hq.1.2.2; have R9 := Aside0.mk (show Kd.R k61 61 (w23.setCell ⟨gb, 2, none⟩ (.slice A9 ks.length c9)) w.heap.size (fun q => q ≠ gb ∧ some q ≠ u6.ownBlock) (.slice A9 ks.length c9) ks from by have hq1 := Kd.R_bound ho; have hq2 := Kd.R_lower (Kd.R_mono (ok' := fun q => q ≠ gb ∧ some q ≠ u6.ownBlock) hq1 (fun q h_ => by have h1 := h_.2.1; have h2 := blk_lt hq.1.2.1; exact ⟨by omega, fun e_ => by have h3 := hb0 q e_.symm; omega⟩)) hq.1.1.2.1.1; exact Kd.R_move hq2 (fun q h_ => Below.heap_setCell w23 ⟨gb, 2, none⟩ _ q h_.1)); have n_ := aE (hz.kids (.slice A9 ks.length c9)); clear HS hs ho hb0 hq hz; have HS := n_; clear n_) | ((with_reducible refine gate_builtin (b := .append) (xs := #[.tmp 119, .tmp 121]) rfl ?_); at_builtin; refine Kd.R_append k61 (w0 := w23.setCell ⟨gb, 2, none⟩ (.slice A9 ks.length c9)) w.heap.size rfl (.tmp 119) (.tmp 121) 22 61 (.agg #[(.string ⟨#[]⟩), (.int .i64 0), (.slice none 0 0)]) 48 rfl Tryd.underlying22 infoO rfl (by decide) (by omega) u6 o1 (⟨str, pg, ks⟩ : S61) [.string str, .int .i64 pg, .slice A9 ks.length c9] (fun _ => True) (fun q => q ≠ gb ∧ some q ≠ u6.ownBlock) rfl (congrArg (fun n => Value.slice (some ⟨n, 0, none⟩) 1 1) (show w23.heap.size = _ by simp [World.setCell])) ?aP (fun _ hk => ⟨trivial, hk.2⟩) ?aF ?aO ?aB ?aS ?aL ?_; (case aP => exact k61_mkM _ _ _ (⟨str, pg, ks⟩ : S61) R9.out); (case aB => exact Below.refl _ _); (case aF => exact (fun _ _ => trivial)); (case aO => exact HS.out.out.1); (case aS => exact HS.out.1.1.2.1.1); (case aL => have := LM.out; omega); intro v122 w24 ho hb hg hat; have n_ := aC ho (aE (HS.out.out.2.grown hg (fun b hb_ => Kd.R_base HS.out.out.1 b hb_) GL.out)); clear HS R9; obtain ⟨HO, HS⟩ := n_; clear ho hb hg hat))
           go_roundg k1
           case measure => have := HK1.out; omega
           case rel => exact ⟨_, wrap64 (i1 + 1), p4, m4, e4, rq, H', ⟨by have := HK1.out; omega⟩, HO, HS⟩
         ·rw [if_neg c3] at h
          exact absurd h (by simp)
       ·rw [if_neg c5] at h
        have b5 : (e2 == 0) = false := beq_eq_false_iff_ne.mpr c5
        have b5' : (e2 != 0) = true := bne_iff_ne.mpr c5
        clear c5
        simp only [Option.some.injEq, Prod.mk.injEq] at h
        obtain ⟨rfl, rfl, rfl, rfl⟩ := h
        refine pu 4 49 (bv 19 31) HT_ rfl rfl ?_
        refine pu 5 50 (bv 19 63) HT_ rfl rfl ?_
        refine pn 6 51 (bv 19 127) HT_ rfl rfl ?_
        refine pn 7 52 (bv 19 255) HT_ rfl rfl ?_
        refine pn 8 53 (bv 19 511) HT_ rfl rfl ?_
        refine pn 9 54 (bv 19 1023) HT_ rfl rfl ?_
        refine pn 10 55 (bv 19 2047) HT_ rfl rfl ?_
        refine pn 11 56 (bv 19 4095) HT_ rfl rfl ?_
        refine pn 12 57 (bv 19 8191) HT_ rfl rfl ?_
        refine pn 13 58 (bv 19 16383) HT_ rfl rfl ?_
        refine pn 14 59 (bv 19 32767) HT_ rfl rfl ?_
        refine pn 15 60 (bv 19 65535) HT_ rfl rfl ?_
        refine pn 16 61 (bv 19 131071) HT_ rfl rfl ?_
        refine pn 17 62 (bv 19 262143) HT_ rfl rfl ?_
        refine pu 18 63 (bv 19 524287) HT_ rfl rfl ?_
        refine done_ (done_of HT_.out (by kernel_rfl)) ?_
        clear hHeld HT_ HW_
        obtain ⟨z0, z1, z2, z3, g0, g1, g2, g3⟩ := cz4f HS.out.1.1.1
        go_wp2
        go_ret
        exact ⟨_, re, HS.out.out⟩
    ·rw [if_neg c1] at H
     have b1 := decide_eq_false c1
     clear c1
     simp only [Option.some.injEq, Prod.mk.injEq] at H
     obtain ⟨rfl, rfl, rfl, rfl⟩ := H
     go_wp2
     go_ret
     exact ⟨_, re, HO.out, HS.out⟩
   ·rw [if_neg c2] at H
    have b2 : (e1 == 0) = false := beq_eq_false_iff_ne.mpr c2
    have b2' : (e1 != 0) = true := bne_iff_ne.mpr c2
    clear c2
    simp only [Option.some.injEq, Prod.mk.injEq] at H
    obtain ⟨rfl, rfl, rfl, rfl⟩ := H
    go_wp2
    go_ret
    exact ⟨_, re, HO.out, HS.out⟩
def incunableref25_GetOutlines.f (k : Nat) (l : List Int) : Option (List (S61) × Int) := (incunableref25_books_list.f k l 0 0 0 0).bind fun t => if t.2.2.2 = 0 then (if t.2.1 ≠ (l.length : Int) then some (([] : List (S61)), 3) else some (t.1, 0)) else some (([] : List (S61)), t.2.2.2)
theorem incunableref25_GetOutlines.mono : ∀ a0 k, LeO (incunableref25_GetOutlines.f k a0) (incunableref25_GetOutlines.f (k + 1) a0) := by
 intro a0 k
 unfold incunableref25_GetOutlines.f
 exact LeO.bind (incunableref25_books_list.mono _ _ _ _ _ k) (fun _ => LeO.refl _)
def incunableref25_GetOutlines.T6 : Bool × List (List Nat × List Nat) := (true, [([], []), ([0], [0]), ([1], [1]), ([2], [2]), ([], []), ([3, 4, 0, 1, 2, 3, 4], [3])])
def incunableref25_GetOutlines.B6 : List Nat := [0, 1, 3, 7, 0, 31]
theorem incunableref25_GetOutlines.tab6 : rtab .any (opsOf Tryd.f30 6) = incunableref25_GetOutlines.T6 := by kernel_rfl
theorem incunableref25_GetOutlines.bits6 : waitsOk incunableref25_GetOutlines.T6.2 incunableref25_GetOutlines.B6 = true := by kernel_rfl
set_option maxHeartbeats 8000000 in
set_option maxRecDepth 100000 in
theorem incunableref25_GetOutlines.calls (k : Nat) (A0 : Option Addr) (c0 : Nat) (l0 : List Int) (r1 : List (S61)) (r2 : Int) (w : World) (hr0 : Kd.C (Kd.int .u8) w A0 l0.length l0) (hc0 : l0.length ≤ c0) (h : incunableref25_GetOutlines.f k l0 = some (r1, r2)) :
  Calls Tryd.prog 30 #[.slice A0 l0.length c0] w fun e w' => ∃ v0_ : Value, e = .returned (.tuple #[v0_, .int .i64 r2]) ∧ Kd.R k61 61 w' w.heap.size (fun _ => True) v0_ r1 ∧ Below w.heap.size w w' := by
 have hu := Tryd.underlying83
 unfold incunableref25_GetOutlines.f at h
 obtain ⟨⟨ls, nx, mn, er⟩, A1, h⟩ := oB h
 have H := Aside0.mk h
 have HR := Aside0.mk hr0
 have HC := Aside0.mk hc0
 clear hr0 hc0 h
 go_enter Tryd.func30, Tryd.ntmps30
 have TK := aC trivial (aE trivial)
 obtain ⟨K1, K2⟩ := TK
 go_wp2_with (first | (clear K1; (with_reducible refine gd 8 rfl ?_); refine bx 8 #[.slice A0 l0.length c0, .int .i64 0, .int .i64 0, .int .i64 0] 83 rfl rfl ?_; intro g hg_ w1 hbox hb; have HS := Aside0.mk (show StQ w w1 g A0 c0 l0 0 0 0 w1 from ⟨hbox, KeepBut.refl _ _ _, hb, by rw [hg_]; exact Nat.le_refl _⟩); clear hbox hb hg_) | (clear K2; refine gF 55 10 Tryd.func55 #[.pointer (some ⟨g, 0, none⟩), .int .i64 0] rfl rfl ?_; refine (incunableref25_books_list.calls k g A0 c0 l0 0 0 0 0 ls nx mn er w _ HS.out.1 HS.out.2.2.1 HS.out.2.2.2 HR.out HC.out A1.out).mono ?_; rintro e_ w2 ⟨v5, rfl, ho, hs⟩; refine ⟨_, rfl, ?_⟩; have n_ := aC (Kd.R_lower (Kd.R_mono (ok' := fun _ => True) ho (fun _ _ => trivial)) HS.out.2.2.1.size) (aE (HS.out.call hs)); clear HS ho hs; obtain ⟨HO, HS⟩ := n_; obtain ⟨z0, z1, z2, z3, f0, f1, f2, f3⟩ := cz4f HS.out.1))
 ·rename_i b1 b2 _ _ _ _
  have h := H.out
  rw [if_pos b1, if_pos (bne_iff_ne.mp b2)] at h
  simp only [Option.some.injEq, Prod.mk.injEq] at h
  obtain ⟨rfl, rfl⟩ := h
  have n2_ := aE (HS.out.err 3)
  have n_ := aE (n2_.out.below (below_drew1 (Below.refl _ _)))
  clear HS HO z0 z1 z2 z3 f0 f1 f2 f3
  obtain ⟨z0, z1, z2, z3, f0, f1, f2, f3⟩ := cz4f n2_.out.1
  clear n2_ z0 z1 z2 f0 f1 f2 f3
  generalize World.setCell w2 _ _ = w2 at n_ z3 ⊢
  refine st 6 (fun w' => w'.cell? ⟨g, 3, none⟩ = some (.int .i64 3)) [] (bv 6 0) incunableref25_GetOutlines.tab6 incunableref25_GetOutlines.bits6 z3 (fun hHeld HT_ HW_ => ?_)
  clear z3
  generalize World.drew _ = w9 at n_ hHeld ⊢
  refine pu 0 33 (bv 6 1) HT_ rfl rfl ?_
  refine pu 1 34 (bv 6 3) HT_ rfl rfl ?_
  refine pu 2 35 (bv 6 7) HT_ rfl rfl ?_
  refine tk 3 36 (bv 6 15) HT_ HW_ hHeld rfl rfl (by rintro w' s3; exact yl) ?_
  refine pu 4 2 (bv 6 31) HT_ rfl rfl ?_
  refine pu 5 3 (bv 6 63) HT_ rfl rfl ?_
  refine done_ (done_of HT_.out (by kernel_rfl)) ?_
  clear hHeld HT_ HW_
  go_wp2
  go_ret2
  exact ⟨_, re, Kd.R_nil _ _ _ _ _, n_.out.2.2.1⟩
 ·rename_i b1 b2
  have h := H.out
  rw [if_pos b1, if_neg (fun hn => by rw [bne_iff_ne.mpr hn] at b2; exact absurd b2 (by decide))] at h
  simp only [Option.some.injEq, Prod.mk.injEq] at h
  obtain ⟨rfl, rfl⟩ := h
  go_ret2
  exact ⟨_, re, HO.out, HS.out.2.2.1⟩
 ·rename_i b1 _ _ _ _ _
  have h := H.out
  rw [if_neg b1] at h
  simp only [Option.some.injEq, Prod.mk.injEq] at h
  obtain ⟨rfl, rfl⟩ := h
  have n_ := aE (HS.out.below (below_drew1 (Below.refl _ _)))
  clear HS HO z0 z1 z2 f0 f1 f2 f3
  refine st 6 (fun w' => w'.cell? ⟨g, 3, none⟩ = some (.int .i64 er)) [] (bv 6 0) incunableref25_GetOutlines.tab6 incunableref25_GetOutlines.bits6 z3 (fun hHeld HT_ HW_ => ?_)
  clear z3
  generalize World.drew _ = w9 at n_ hHeld ⊢
  refine pu 0 33 (bv 6 1) HT_ rfl rfl ?_
  refine pu 1 34 (bv 6 3) HT_ rfl rfl ?_
  refine pu 2 35 (bv 6 7) HT_ rfl rfl ?_
  refine tk 3 36 (bv 6 15) HT_ HW_ hHeld rfl rfl (by rintro w' s3; exact yl) ?_
  refine pu 4 2 (bv 6 31) HT_ rfl rfl ?_
  refine pu 5 3 (bv 6 63) HT_ rfl rfl ?_
  refine done_ (done_of HT_.out (by kernel_rfl)) ?_
  clear hHeld HT_ HW_
  go_wp2
  go_ret2
  exact ⟨_, re, Kd.R_nil _ _ _ _ _, n_.out.2.2.1⟩
def incunablelaw25_NoteGets.j0 : Nat → List Int → List (S61) → Int → Bool → Option (Bool)
 | 0, _, _, _, _ => none
 | k + 1, x0, x3, x4, x30 => if x30 = true then (some false) else (if x4 = 0 then ((note_PutOutlines.f k x3).bind fun bt157 => (if bt157.2 = 0 then ((incunableref01_SameBytes.f bt157.1 x0).bind fun t161 => (if t161 = true then ((incunablelaw25_Sane.f k).bind fun t162 => (some t162)) else (some false))) else (some false))) else ((incunablelaw25_Sane.f k).bind fun t163 => (some t163)))
def incunablelaw25_NoteGets.f (k : Nat) (l0 : List Int) : Option (Bool) := if (l0.length : Int) > 6000 then ((incunablelaw25_Sane.f k).bind fun t147 => (some t147)) else ((note_GetOutlines.f k l0).bind fun bt148 => ((incunableref25_GetOutlines.f k l0).bind fun bt152 => (if bt148.2 = bt152.2 then ((incunableref25_SameOutlines.f k bt148.1 bt152.1).bind fun t156 => (incunablelaw25_NoteGets.j0 k l0 bt148.1 bt148.2 (!t156))) else (incunablelaw25_NoteGets.j0 k l0 bt148.1 bt148.2 true))))
theorem incunablelaw25_NoteGets.mono_l : ∀ k, (∀ y0 y1 y2 y3, LeO (incunablelaw25_NoteGets.j0 k y0 y1 y2 y3) (incunablelaw25_NoteGets.j0 (k + 1) y0 y1 y2 y3))
 | 0 => fun _ _ _ _ r h => by simp [incunablelaw25_NoteGets.j0] at h
 | k + 1 => by
  have ih0 := incunablelaw25_NoteGets.mono_l k
  ·intro y0 y1 y2 y3
   unfold incunablelaw25_NoteGets.j0
   repeat' first
   | (with_reducible exact ih0 _ _ _ _)
   | (with_reducible exact incunablelaw25_Sane.mono _)
   | (with_reducible exact incunableref25_GetOutlines.mono _ _)
   | (with_reducible exact incunableref25_SameOutlines.mono _ _ _)
   | (with_reducible exact note_GetOutlines.mono _ _)
   | (with_reducible exact note_PutOutlines.mono _ _)
   | (with_reducible first | exact LeO.refl _ | exact LeO.none _ | refine LeO.ite ?_ ?_ | refine LeO.bind ?_ (fun _ => ?_))
theorem incunablelaw25_NoteGets.mono : ∀ a0 k, LeO (incunablelaw25_NoteGets.f k a0) (incunablelaw25_NoteGets.f (k + 1) a0) := by
 intro a0 k
 have ih0 := incunablelaw25_NoteGets.mono_l k
 unfold incunablelaw25_NoteGets.f
 repeat' first
   | (with_reducible exact ih0 _ _ _ _)
   | (with_reducible exact incunablelaw25_Sane.mono _)
   | (with_reducible exact incunableref25_GetOutlines.mono _ _)
   | (with_reducible exact incunableref25_SameOutlines.mono _ _ _)
   | (with_reducible exact note_GetOutlines.mono _ _)
   | (with_reducible exact note_PutOutlines.mono _ _)
   | (with_reducible first | exact LeO.refl _ | exact LeO.none _ | refine LeO.ite ?_ ?_ | refine LeO.bind ?_ (fun _ => ?_))
set_option maxHeartbeats 8000000 in
set_option maxRecDepth 100000 in
theorem incunablelaw25_NoteGets.calls (k : Nat) (A0 : Option Addr) (c0 : Nat) (l0 : List Int) (r : Bool) (w : World) (hT0 : TIs w) (hr0 : Kd.C (Kd.int .u8) w A0 l0.length l0) (hc0 : l0.length ≤ c0) (h : incunablelaw25_NoteGets.f k l0 = some r) (hr_ : r = true) :
  Calls Tryd.prog 7 #[.slice A0 l0.length c0] w fun e w' => e = .returned (.bool r) ∧ Below w.heap.size w w' := by
 have HTI := Aside0.mk hT0
 clear hT0
 have HR_ := Aside0.mk hr_
 clear hr_
 have HR0 := Aside0.mk hr0
 have HC0 := Aside0.mk hc0
 clear hr0 hc0
 have HB := Aside0.mk (Below.refl w.heap.size w)
 have H := h
 unfold incunablelaw25_NoteGets.f at H
 clear h
 by_cases c2 : (l0.length : Int) > 6000
 ·rw [if_pos c2] at H
  have c2b0 := decide_eq_true c2
  have c2b1 : decide (6000 < l0.length) = true := decide_eq_true (by omega)
  clear c2
  obtain ⟨t147, A3, H⟩ := oB H
  try dsimp only at H
  obtain rfl := Option.some.inj H
  go_enter Tryd.func7, Tryd.ntmps7
  go_wp2_with (first | (refine gF 11 11 Tryd.func11 #[] rfl rfl ?_; (with_reducible refine (incunablelaw25_Sane.calls k  t147 _ (TIs.on HTI) A3.out).mono ?_); rintro e w4 ⟨rfl, hb⟩; refine ⟨_, rfl, ?_⟩; have n_ := aE (bs hb); clear HB; have HB := n_; clear n_))
  go_ret
  exact ⟨re, bl⟩
 ·rw [if_neg c2] at H
  have c2b0 := decide_eq_false c2
  have c2b1 : decide (6000 < l0.length) = false := decide_eq_false (by omega)
  clear c2
  obtain ⟨⟨t148, t149⟩, A5, H⟩ := oB H
  try dsimp only at H
  obtain ⟨⟨t152, t153⟩, A6, H⟩ := oB H
  try dsimp only at H
  have HC7 := Aside0.mk H
  clear H
  go_enter Tryd.func7, Tryd.ntmps7
  go_upto_region 5 with (first | (refine gF 29 14 Tryd.func29 #[.slice A0 l0.length c0] rfl rfl ?_; (with_reducible refine (note_GetOutlines.calls k _ _ l0 t148 t149 _ ?side1 ?side2 A5.out).mono ?_); (case side1 => exact cU HR0.out); (case side2 => exact HC0.out); rintro e w8 ⟨v150, rfl, ho0, hb⟩; refine ⟨_, rfl, ?_⟩; have n_ := aC (Kd.R_lower ho0 bz) (aE (bs hb)); clear HB; obtain ⟨HO151, HB⟩ := n_) | (refine gF 30 19 Tryd.func30 #[.slice A0 l0.length c0] rfl rfl ?_; (with_reducible refine (incunableref25_GetOutlines.calls k _ _ l0 t152 t153 _ ?side1 ?side2 A6.out).mono ?_); (case side1 => exact cU (Kd.C_below HR0.out HB.out)); (case side2 => exact HC0.out); rintro e w9 ⟨v154, rfl, ho0, hb⟩; refine ⟨_, rfl, ?_⟩; have n_ := aC (Kd.R_elder' (rU HO151.out) (Kd.R_base ho0) hb) (aC (Kd.R_lower (Kd.R_new' ho0 (Kd.R_lt (rU HO151.out))) bz) (aE (bs hb))); clear HO151 HB; obtain ⟨HO151, HO155, HB⟩ := n_))
  (try simp only [Act.put, List.setIfInBounds_toArray, List.set_cons_zero, List.set_cons_succ])
  go_cut [30] (fun v30 wc => ∃ (kq : Nat) (x30_6 : Bool), v30 = .bool x30_6 ∧ Aside0 (incunablelaw25_NoteGets.j0 kq l0 t148 t149 x30_6 = some r) ∧ Aside0 (kq ≤ k) ∧ Aside0 (Kd.R k61 61 wc w.heap.size (fun _ => True) v150 t148) ∧ Aside0 (Below w.heap.size w wc))
  case first =>
   have H := HC7.out
   clear HC7
   rcases iE H with H1 | H1 <;> clear H <;> obtain ⟨H, c10b0, c10b1, c10⟩ := H1
   ·(first | rw [c10b0] | (simp only [i64_w, i32_w]; rw [c10b0]) | skip)
    obtain ⟨t156, A11, H⟩ := oB H
    try dsimp only at H
    have H' := Aside0.mk H
    clear H
    obtain ⟨Ao12, co12, eo12⟩ := Kd.R_slice HO151.out
    subst eo12
    obtain ⟨Ao13, co13, eo13⟩ := Kd.R_slice HO155.out
    subst eo13
    go_wp2_with (first | (go_at_call 14; (with_reducible refine (incunableref25_SameOutlines.calls k _ _ t148 _ _ t152 t156 _ ?side1 ?side2 ?side3 ?side4 A11.out).mono ?_); (case side1 => exact cU (Kd.R_reads' HO151.out).2.2); (case side2 => exact (Kd.R_reads' HO151.out).2.1); (case side3 => exact cU (Kd.R_reads' HO155.out).2.2); (case side4 => exact (Kd.R_reads' HO155.out).2.1); rintro e w14 ⟨rfl, hb⟩; have n_ := aC (Kd.R_below (rU HO151.out) hb) (aC (Kd.R_below (rU HO155.out) hb) (aE (bs hb))); clear HO151 HO155 HB; obtain ⟨HO151, HO155, HB⟩ := n_))
    go_meet
    case rel => exact ⟨_, (!t156), rq, H', ⟨by first | omega | exact Nat.le_refl _⟩, ⟨rU (Kd.R_mono HO151.out (fun _ hk => trivial))⟩, ⟨bl⟩⟩
   ·(first | rw [c10b0] | (simp only [i64_w, i32_w]; rw [c10b0]) | skip)
    have H' := Aside0.mk H
    clear H
    go_wp2
    go_meet
    case rel => exact ⟨_, (true), rq, H', ⟨by first | omega | exact Nat.le_refl _⟩, ⟨rU (Kd.R_mono HO151.out (fun _ hk => trivial))⟩, ⟨bl⟩⟩
  case rest =>
   clear HC7
   obtain ⟨kq, x30_6, rfl, HA, HJ6, HO_3, HB⟩ := hcut
   cases kq with
   | zero => exact absurd HA.out (by simp [incunablelaw25_NoteGets.j0])
   | succ kj6 =>
    have H := HA.out
    clear HA
    simp only [incunablelaw25_NoteGets.j0] at H
    by_cases c15 : x30_6 = true
    ·subst c15
     rw [if_pos rfl] at H
     exact absurd ((Option.some.inj H).trans HR_.out) (by decide)
    ·replace c15 := Bool.eq_false_iff.mpr c15
     subst c15
     rw [if_neg Bool.false_ne_true] at H
     rcases iE H with H1 | H1 <;> clear H <;> obtain ⟨H, c16b0, c16b1, c16⟩ := H1
     ·obtain ⟨⟨t157, t158⟩, A17, H⟩ := oB H
      try dsimp only at H
      rcases iE H with H1 | H1 <;> clear H <;> obtain ⟨H, c18b0, c18b1, c18⟩ := H1
      ·obtain ⟨t161, A19, H⟩ := oB H
       try dsimp only at H
       by_cases c20 : t161 = true
       ·subst c20
        rw [if_pos rfl] at H
        obtain ⟨t162, A21, H⟩ := oB H
        try dsimp only at H
        obtain rfl := Option.some.inj H
        obtain ⟨Ao22, co22, eo22⟩ := Kd.R_slice HO_3.out
        subst eo22
        go_wp2_with (first | (refine gF 24 36 Tryd.func24 #[.slice Ao22 t148.length co22] rfl rfl ?_; (with_reducible refine (note_PutOutlines.calls kj6 _ _ t148 t157 t158 _ ?side1 ?side2 A17.out).mono ?_); (case side1 => exact cU (Kd.R_reads' HO_3.out).2.2); (case side2 => exact (Kd.R_reads' HO_3.out).2.1); rintro e w23 ⟨v159, rfl, ho0, hb⟩; refine ⟨_, rfl, ?_⟩; have n_ := aC (Kd.R_below (rU HO_3.out) hb) (aC (Kd.R_lower ho0 bz) (aE (bs hb))); clear HO_3 HB; obtain ⟨HO_3, HO160, HB⟩ := n_; obtain ⟨Ao24, co24, eo24⟩ := Kd.R_slice HO160.out; subst eo24) | (go_at_call 26; (with_reducible refine (incunableref01_SameBytes.calls _ _ t157 _ _ l0 true _ ?side1 ?side2 ?side3 ?side4 A19.out).mono ?_); (case side1 => exact cU (Kd.R_reads' HO160.out).2.2); (case side2 => exact (Kd.R_reads' HO160.out).2.1); (case side3 => exact cU (Kd.C_below HR0.out HB.out)); (case side4 => exact HC0.out); rintro e w' ⟨rfl, ⟨nd, rfl⟩⟩) | (go_at_call 11; (with_reducible refine (incunablelaw25_Sane.calls kj6  t162 _ (TIs.on HTI) A21.out).mono ?_); rintro e w25 ⟨rfl, hb⟩; have n_ := aC (Kd.R_below (rU HO_3.out) hb) (aC (Kd.R_below (rU HO160.out) hb) (aE (bs hb))); clear HO_3 HO160 HB; obtain ⟨HO_3, HO160, HB⟩ := n_))
        go_ret
        exact ⟨re, bl⟩
       ·replace c20 := Bool.eq_false_iff.mpr c20
        subst c20
        rw [if_neg Bool.false_ne_true] at H
        exact absurd ((Option.some.inj H).trans HR_.out) (by decide)
      ·exact absurd ((Option.some.inj H).trans HR_.out) (by decide)
     ·obtain ⟨t163, A26, H⟩ := oB H
      try dsimp only at H
      obtain rfl := Option.some.inj H
      go_wp2_with (first | (refine gF 11 33 Tryd.func11 #[] rfl rfl ?_; (with_reducible refine (incunablelaw25_Sane.calls kj6  t163 _ (TIs.on HTI) A26.out).mono ?_); rintro e w27 ⟨rfl, hb⟩; refine ⟨_, rfl, ?_⟩; have n_ := aC (Kd.R_below (rU HO_3.out) hb) (aE (bs hb)); clear HO_3 HB; obtain ⟨HO_3, HB⟩ := n_))
      go_ret
      exact ⟨re, bl⟩
def incunablelaw25_NoteGets.Pure : Prop := ∀ (l0 : List Int), (l0.length ≤ 9223372036854775807 ∧ l0.length * 1 ≤ 140737488351232 ∧ ∀ y0_ ∈ l0, (Lit.int .u8 y0_).wf = true) → ∃ k, incunablelaw25_NoteGets.f k l0 = some true
theorem incunablelaw25_NoteGets.walk (P : incunablelaw25_NoteGets.Pure) (A0 : Option Addr) (c0 : Nat) (l0 : List Int) (w : World) (hT0 : TIs w) (hr0 : Kd.C (Kd.int .u8) w A0 l0.length l0) (hc0 : l0.length ≤ c0) (g0 : l0.length ≤ 9223372036854775807 ∧ l0.length * 1 ≤ 140737488351232 ∧ ∀ y0_ ∈ l0, (Lit.int .u8 y0_).wf = true) :
  Calls Tryd.prog 7 #[.slice A0 l0.length c0] w fun e w' => e = .returned (.bool true) ∧ Below w.heap.size w w' := by
 obtain ⟨k, h⟩ := P l0 g0
 refine (incunablelaw25_NoteGets.calls k A0 c0 l0 true w hT0 hr0 hc0 h rfl).mono ?_
 rintro e w' ⟨rfl, hd⟩
 exact ⟨rfl, hd⟩
end Go.Proofs.YtacdchogjpeffaaDoor.PNoteGets
