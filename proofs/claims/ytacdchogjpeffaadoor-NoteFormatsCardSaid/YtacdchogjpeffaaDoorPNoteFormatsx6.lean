-- printed (wip/tools/myprint.py)
import Derived.Test.YtacdchogjpeffaaDoorPNoteFormatsx0
import Derived.Test.YtacdchogjpeffaaDoorPNoteFormatsx1
namespace Go.Proofs.YtacdchogjpeffaaDoor.PNoteFormats
open Go.RowKit Go.Proofs.YtacdchogjpeffaaDoorW.PrintWords Go.Proofs.YtacdchogjpeffaaDoorW.PrintLast Go.Proofs.YtacdchogjpeffaaDoorW.PrintMore
attribute [local go_sem] max2_int min2_int max_two min_two max_three min_three max_four min_four
set_option linter.unusedVariables false
set_option linter.unusedSimpArgs false
theorem want_ {c : Bool} {A B : Prop} (hc : c = true) (h : A) : if c = true then A else B := by rw [if_pos hc]; exact h
structure Pz where
 s : ByteArray
 at_ : Int
 vo : Value
 deep : Int
 many : Int
 done : Bool
 xk : Int
 xt : ByteArray
 xn : Int
 xv : Value
def Pz.cells (p : Pz) : Array Value := #[.string p.s, .int .i64 p.at_, p.vo, .int .i64 p.deep, .int .i64 p.many, .bool p.done, .int .i64 p.xk, .string p.xt, .int .i64 p.xn, p.xv]
def Pt (w0 w : World) (g : Nat) (p : Pz) (W : World) : Prop := W.heap[g]? = some (.cells p.cells 93 (0, 0)) ∧ KeepBut w W g none ∧ Below w0.heap.size w0 W ∧ w0.heap.size ≤ g
theorem Pt.at_S {w0 w W : World} {g : Nat} {p : Pz} (h : Pt w0 w g p W) (x : Int) : Pt w0 w g { p with at_ := x } (W.setCell ⟨g, 1, none⟩ (.int .i64 x)) := ⟨blk_put (cs := p.cells) h.1 1 _ rfl, h.2.1.set_ 1 _, below_set h.2.2.1 h.2.2.2, h.2.2.2⟩
theorem Pt.voS {w0 w W : World} {g : Nat} {p : Pz} (h : Pt w0 w g p W) (x : Value) : Pt w0 w g { p with vo := x } (W.setCell ⟨g, 2, none⟩ x) := ⟨blk_put (cs := p.cells) h.1 2 _ rfl, h.2.1.set_ 2 _, below_set h.2.2.1 h.2.2.2, h.2.2.2⟩
theorem Pt.deepS {w0 w W : World} {g : Nat} {p : Pz} (h : Pt w0 w g p W) (x : Int) : Pt w0 w g { p with deep := x } (W.setCell ⟨g, 3, none⟩ (.int .i64 x)) := ⟨blk_put (cs := p.cells) h.1 3 _ rfl, h.2.1.set_ 3 _, below_set h.2.2.1 h.2.2.2, h.2.2.2⟩
theorem Pt.manyS {w0 w W : World} {g : Nat} {p : Pz} (h : Pt w0 w g p W) (x : Int) : Pt w0 w g { p with many := x } (W.setCell ⟨g, 4, none⟩ (.int .i64 x)) := ⟨blk_put (cs := p.cells) h.1 4 _ rfl, h.2.1.set_ 4 _, below_set h.2.2.1 h.2.2.2, h.2.2.2⟩
theorem Pt.doneS {w0 w W : World} {g : Nat} {p : Pz} (h : Pt w0 w g p W) (x : Bool) : Pt w0 w g { p with done := x } (W.setCell ⟨g, 5, none⟩ (.bool x)) := ⟨blk_put (cs := p.cells) h.1 5 _ rfl, h.2.1.set_ 5 _, below_set h.2.2.1 h.2.2.2, h.2.2.2⟩
theorem Pt.xkS {w0 w W : World} {g : Nat} {p : Pz} (h : Pt w0 w g p W) (x : Int) : Pt w0 w g { p with xk := x } (W.setCell ⟨g, 6, none⟩ (.int .i64 x)) := ⟨blk_put (cs := p.cells) h.1 6 _ rfl, h.2.1.set_ 6 _, below_set h.2.2.1 h.2.2.2, h.2.2.2⟩
theorem Pt.xtS {w0 w W : World} {g : Nat} {p : Pz} (h : Pt w0 w g p W) (x : ByteArray) : Pt w0 w g { p with xt := x } (W.setCell ⟨g, 7, none⟩ (.string x)) := ⟨blk_put (cs := p.cells) h.1 7 _ rfl, h.2.1.set_ 7 _, below_set h.2.2.1 h.2.2.2, h.2.2.2⟩
theorem Pt.xnS {w0 w W : World} {g : Nat} {p : Pz} (h : Pt w0 w g p W) (x : Int) : Pt w0 w g { p with xn := x } (W.setCell ⟨g, 8, none⟩ (.int .i64 x)) := ⟨blk_put (cs := p.cells) h.1 8 _ rfl, h.2.1.set_ 8 _, below_set h.2.2.1 h.2.2.2, h.2.2.2⟩
theorem Pt.xvS {w0 w W : World} {g : Nat} {p : Pz} (h : Pt w0 w g p W) (x : Value) : Pt w0 w g { p with xv := x } (W.setCell ⟨g, 9, none⟩ x) := ⟨blk_put (cs := p.cells) h.1 9 _ rfl, h.2.1.set_ 9 _, below_set h.2.2.1 h.2.2.2, h.2.2.2⟩
theorem Pt.cz {w0 w W : World} {g : Nat} {p : Pz} (h : Pt w0 w g p W) : W.cell? ⟨g, 0, none⟩ = some (.string p.s) ∧ W.cell? ⟨g, 1, none⟩ = some (.int .i64 p.at_) ∧ W.cell? ⟨g, 2, none⟩ = some p.vo ∧ W.cell? ⟨g, 3, none⟩ = some (.int .i64 p.deep) ∧ W.cell? ⟨g, 4, none⟩ = some (.int .i64 p.many) ∧ W.cell? ⟨g, 5, none⟩ = some (.bool p.done) ∧ W.cell? ⟨g, 6, none⟩ = some (.int .i64 p.xk) ∧ W.cell? ⟨g, 7, none⟩ = some (.string p.xt) ∧ W.cell? ⟨g, 8, none⟩ = some (.int .i64 p.xn) ∧ W.cell? ⟨g, 9, none⟩ = some p.xv := ⟨(blk_cell h.1 0).trans rfl, (blk_cell h.1 1).trans rfl, (blk_cell h.1 2).trans rfl, (blk_cell h.1 3).trans rfl, (blk_cell h.1 4).trans rfl, (blk_cell h.1 5).trans rfl, (blk_cell h.1 6).trans rfl, (blk_cell h.1 7).trans rfl, (blk_cell h.1 8).trans rfl, (blk_cell h.1 9).trans rfl⟩
theorem Pt.cf {w0 w W : World} {g : Nat} {p : Pz} (h : Pt w0 w g p W) : W.frozen? ⟨g, 0, none⟩ = false ∧ W.frozen? ⟨g, 1, none⟩ = false ∧ W.frozen? ⟨g, 2, none⟩ = false ∧ W.frozen? ⟨g, 3, none⟩ = false ∧ W.frozen? ⟨g, 4, none⟩ = false ∧ W.frozen? ⟨g, 5, none⟩ = false ∧ W.frozen? ⟨g, 6, none⟩ = false ∧ W.frozen? ⟨g, 7, none⟩ = false ∧ W.frozen? ⟨g, 8, none⟩ = false ∧ W.frozen? ⟨g, 9, none⟩ = false := ⟨blk_frozen h.1 0, blk_frozen h.1 1, blk_frozen h.1 2, blk_frozen h.1 3, blk_frozen h.1 4, blk_frozen h.1 5, blk_frozen h.1 6, blk_frozen h.1 7, blk_frozen h.1 8, blk_frozen h.1 9⟩
theorem Pt.lt {w0 w W : World} {g : Nat} {p : Pz} (h : Pt w0 w g p W) : g < W.heap.size := blk_lt h.1
theorem Pt.below {w0 w W W1 : World} {g : Nat} {p : Pz} (h : Pt w0 w g p W) (hb : Below W.heap.size W W1) : Pt w0 w g p W1 :=
 ⟨blk_below h.1 hb, h.2.1.trans (KeepBut.of_below hb g none) (.inl rfl), below_step h.2.2.1 hb, h.2.2.2⟩
theorem Pt.call {w0 w W W1 : World} {g : Nat} {p q : Pz} (h : Pt w0 w g p W) (h1 : Pt w0 W g q W1) : Pt w0 w g q W1 := ⟨h1.1, h.2.1.trans h1.2.1 (.inl rfl), h1.2.2.1, h.2.2.2⟩
theorem Pt.grown {w0 w W W1 : World} {g : Nat} {p : Pz} {row : Option Nat} (h : Pt w0 w g p W) (hg : W.grownBy W1 row) (hrow : ∀ b, row = some b → w.heap.size ≤ b) (hlt : g < w.heap.size) : Pt w0 w g p W1 := by
 have hg0 := h.2.2.2
 refine ⟨(hg.block g (blk_lt h.1) (fun e => by have := hrow g e.symm; omega)).trans h.1, h.2.1.trans (KeepBut.of_grown hg g) ?_, h.2.2.1.grown hg h.2.2.1.size (fun k e => by have := hrow k e; omega), hg0⟩
 cases row with
 | none => exact .inl rfl
 | some b => exact .inr ⟨b, rfl, hrow b rfl⟩
theorem R_keepG {α : Type} {d : Kd α} {e base g : Nat} {ok : Nat → Prop} {W W1 : World} {v : Value} {xs : List α} (h : d.R e W base ok v xs) (hk : KeepBut W W1 g none) (hg : g < base) : d.R e W1 base ok v xs :=
 Kd.R_mono (Kd.R_move (Kd.R_bound h) (fun k hk' => hk.2 k hk'.2.2.1 (by have := hk'.2.1; omega) (by simp))) (fun _ h => h.1)
theorem Pt.now {w0 w W : World} {g : Nat} {p : Pz} (h : Pt w0 w g p W) : Pt w0 W g p W := ⟨h.1, KeepBut.refl _ _ _, h.2.2.1, h.2.2.2⟩
theorem Pt.drew {w0 w W : World} {g : Nat} {p : Pz} (h : Pt w0 w g p W) : Pt w0 w g p W.drew := h.below (below_drew1 (Below.refl _ _))
def note_parser_spaces.f : Nat → ByteArray → Int → Option Int
 | 0, _, _ => none
 | k + 1, s, i => if i < (s.size : Int) then (if 0 ≤ i then ((strings_IndexByte.f (⟨#[32, 9, 10]⟩ : ByteArray) (bt s i)).bind fun t => if t ≥ 0 then note_parser_spaces.f k s (wrap64 (i + 1)) else some i) else none) else some i
theorem note_parser_spaces.mono : ∀ k s i, LeO (note_parser_spaces.f k s i) (note_parser_spaces.f (k + 1) s i)
 | 0 => fun _ _ r h => by simp [note_parser_spaces.f] at h
 | k + 1 => by
  intro s i
  unfold note_parser_spaces.f
  exact LeO.ite (LeO.ite (LeO.bind (LeO.refl _) (fun _ => LeO.ite (note_parser_spaces.mono k _ _) (LeO.refl _))) (LeO.refl _)) (LeO.refl _)
def note_parser_spaces.T0 : Bool × List (List Nat × List Nat) := (true, [([], []), ([0], [0]), ([1], [1]), ([2], [2]), ([], []), ([4], [4]), ([5], [5]), ([6], [6]), ([7], [7]), ([3, 8], [3, 8]), ([9], [9]), ([10], [10]), ([11, 10], [10, 11]), ([12, 10], [10, 12]), ([13, 10], [10, 13]), ([10], [10]), ([15, 10], [10, 15]), ([16, 10], [10, 16]), ([17, 10], [10, 17]), ([14, 18, 10], [10, 14, 18]), ([19, 10, 10], [10, 19]), ([20, 10], [10, 20]), ([10, 21], [10, 21])])
def note_parser_spaces.B0 : List Nat := [0, 1, 3, 7, 0, 16, 48, 112, 240, 511, 1023, 2047, 4095, 8191, 16383, 2047, 34815, 100351, 231423, 524287, 1048575, 2097151, 4194303]
theorem note_parser_spaces.tab0 : rtab .any (opsOf Tryd.f62 0) = note_parser_spaces.T0 := by kernel_rfl
theorem note_parser_spaces.bits0 : waitsOk note_parser_spaces.T0.2 note_parser_spaces.B0 = true := by kernel_rfl
set_option maxHeartbeats 8000000 in
set_option maxRecDepth 100000 in
theorem note_parser_spaces.calls (k : Nat) (g : Nat) (p : Pz) (r : Int) (w0 w : World) (hI : Pt w0 w g p w) (h : note_parser_spaces.f k p.s p.at_ = some r) :
  Calls Tryd.prog 62 #[.pointer (some ⟨g, 0, none⟩)] w fun e w' => e = .returned (.tuple #[]) ∧ Pt w0 w g { p with at_ := r } w' := by
 have hu := Tryd.underlying93
 have HI := Aside0.mk hI
 have H' := Aside0.mk h
 clear hI h
 go_enter Tryd.func62, Tryd.ntmps62
 go_wp2
 go_loopg [] k (fun kq w' => ∃ (i1 : Int), Aside0 (note_parser_spaces.f kq p.s i1 = some r) ∧ Aside0 (kq ≤ k) ∧ Aside0 (Pt w0 w g { p with at_ := i1 } w'))
 case atStart => exact ⟨p.at_, H', ⟨Nat.le_refl _⟩, HI⟩
 case round =>
  clear H' HI
  obtain ⟨i1, HA, HK1, HI⟩ := hrel
  cases gk with
  | zero => exact absurd HA.out (by simp [note_parser_spaces.f])
  | succ k1 =>
   have H := HA.out
   clear HA
   simp only [note_parser_spaces.f] at H
   have HQ := aE HI.out.drew
   clear HI
   have HI := HQ
   clear HQ
   obtain ⟨z0, z1, z2, z3, z4, z5, z6, z7, z8, z9⟩ := HI.out.cz
   obtain ⟨y0, y1, y2, y3, y4, y5, y6, y7, y8, y9⟩ := HI.out.cf
   by_cases c1 : i1 < (p.s.size : Int)
   ·rw [if_pos c1] at H
    have b1 := decide_eq_true c1
    by_cases c2 : 0 ≤ i1
    ·rw [if_pos c2] at H
     obtain ⟨t, A1, H⟩ := oB H
     have hx := bt_at p.s i1
     replace c1 := eq_true c1
     replace c2 := eq_true c2
     go_wp2
     refine st 23 (fun w' => w'.cell? ⟨g, 0, none⟩ = some (.string p.s) ∧ w'.cell? ⟨g, 1, none⟩ = some (.int .i64 i1)) [] (bv 23 0) note_parser_spaces.tab0 note_parser_spaces.bits0 ⟨z0, z1⟩ (fun hHeld HT_ HW_ => ?_)
     clear z0 z1 z2 z3 z4 z5 z6 z7 z8 z9
     generalize wr.drew = w1 at HI hHeld ⊢
     refine pu 0 2 (bv 23 1) HT_ rfl rfl ?_
     refine pu 1 3 (bv 23 3) HT_ rfl rfl ?_
     refine pu 2 4 (bv 23 7) HT_ rfl rfl ?_
     refine tk 3 5 (bv 23 15) HT_ HW_ hHeld rfl rfl (by rintro w' ⟨s0, s1⟩; exact yl) ?_
     refine pu 4 6 (bv 23 31) HT_ rfl rfl ?_
     refine pu 5 7 (bv 23 63) HT_ rfl rfl ?_
     refine pu 6 8 (bv 23 127) HT_ rfl rfl ?_
     refine tk 7 9 (bv 23 255) HT_ HW_ hHeld rfl rfl (by rintro w' ⟨s0, s1⟩; exact yl) ?_
     refine pu 8 10 (bv 23 511) HT_ rfl rfl ?_
     refine pu 9 11 (bv 23 1023) HT_ rfl rfl ?_
     refine pu 10 12 (bv 23 2047) HT_ rfl rfl ?_
     refine pu 11 13 (bv 23 4095) HT_ rfl rfl ?_
     refine pu 12 14 (bv 23 8191) HT_ rfl rfl ?_
     refine pu 13 15 (bv 23 16383) HT_ rfl rfl ?_
     refine tk 14 16 (bv 23 32767) HT_ HW_ hHeld rfl rfl (by rintro w' ⟨s0, s1⟩; exact yl) ?_
     refine pu 15 17 (bv 23 65535) HT_ rfl rfl ?_
     refine pu 16 18 (bv 23 131071) HT_ rfl rfl ?_
     refine pu 17 19 (bv 23 262143) HT_ rfl rfl ?_
     refine tk 18 20 (bv 23 524287) HT_ HW_ hHeld rfl rfl (by rintro w' ⟨s0, s1⟩; exact yl) ?_
     refine pu 19 21 (bv 23 1048575) HT_ rfl rfl ?_
     refine one_ (i := 20) (N := some 22) (bv 23 2097151) rfl rfl (one_of HT_.out (by kernel_rfl)) (by decide) (fun K hK => ?_)
     refine gK Tryd.func83 rfl #[.string (⟨#[32, 9, 10]⟩ : ByteArray), .int .u8 (bt p.s i1)] rfl rfl ?_
     refine (strings_IndexByte.calls (⟨#[32, 9, 10]⟩ : ByteArray) (bt p.s i1) t _ A1.out).mono ?_
     rintro e_ w2 ⟨rfl, hb⟩
     refine ⟨_, rfl, ?_⟩
     have HQ := aE (HI.out.below hb)
     clear HI hb y0 y1 y2 y3 y4 y5 y6 y7 y8 y9
     have HI := HQ
     clear HQ
     obtain ⟨z0, z1, z2, z3, z4, z5, z6, z7, z8, z9⟩ := HI.out.cz
     obtain ⟨y0, y1, y2, y3, y4, y5, y6, y7, y8, y9⟩ := HI.out.cf
     refine hK.out _ _ ⟨z0, z1⟩ (fun hHeld => ?_)
     clear hK K
     refine nm (some 22) ?_
     by_cases c3 : t ≥ 0
     ·rw [if_pos c3] at H
      have H' := aE H
      have c3' : 0 ≤ t := c3
      have b3 := decide_eq_true c3'
      clear H c3
      refine pu 21 23 (bv 23 4194303) HT_ rfl rfl ?_
      refine pu 22 24 (bv 23 8388607) HT_ rfl rfl ?_
      refine done_ (done_of HT_.out (by kernel_rfl)) ?_
      clear hHeld HT_ HW_
      have HQ := aE (HI.out.at_S (wrap64 (i1 + 1)))
      go_wp2
      go_roundg k1
      case measure => have := HK1.out; omega
      case rel => exact ⟨wrap64 (i1 + 1), H', ⟨by have := HK1.out; omega⟩, HQ⟩
     ·rw [if_neg c3] at H
      obtain rfl := Option.some.inj H
      have c3' : ¬ 0 ≤ t := c3
      have b3 := decide_eq_false c3'
      clear H c3
      refine pu 21 23 (bv 23 4194303) HT_ rfl rfl ?_
      refine pu 22 24 (bv 23 8388607) HT_ rfl rfl ?_
      refine done_ (done_of HT_.out (by kernel_rfl)) ?_
      clear hHeld HT_ HW_
      go_wp2
      go_end0
      exact ⟨rfl, HI.out⟩
    ·rw [if_neg c2] at H
     exact absurd H (by simp)
   ·rw [if_neg c1] at H
    have b1 := decide_eq_false c1
    obtain rfl := Option.some.inj H
    clear H c1
    go_wp2
    refine st 23 (fun w' => w'.cell? ⟨g, 0, none⟩ = some (.string p.s) ∧ w'.cell? ⟨g, 1, none⟩ = some (.int .i64 i1)) [] (bv 23 0) note_parser_spaces.tab0 note_parser_spaces.bits0 ⟨z0, z1⟩ (fun hHeld HT_ HW_ => ?_)
    clear z0 z1 z2 z3 z4 z5 z6 z7 z8 z9
    generalize wr.drew = w1 at HI hHeld ⊢
    refine pu 0 2 (bv 23 1) HT_ rfl rfl ?_
    refine pu 1 3 (bv 23 3) HT_ rfl rfl ?_
    refine pu 2 4 (bv 23 7) HT_ rfl rfl ?_
    refine tk 3 5 (bv 23 15) HT_ HW_ hHeld rfl rfl (by rintro w' ⟨s0, s1⟩; exact yl) ?_
    refine pu 4 6 (bv 23 31) HT_ rfl rfl ?_
    refine pu 5 7 (bv 23 63) HT_ rfl rfl ?_
    refine pu 6 8 (bv 23 127) HT_ rfl rfl ?_
    refine tk 7 9 (bv 23 255) HT_ HW_ hHeld rfl rfl (by rintro w' ⟨s0, s1⟩; exact yl) ?_
    refine pu 8 10 (bv 23 511) HT_ rfl rfl ?_
    refine pu 9 11 (bv 23 1023) HT_ rfl rfl ?_
    refine pu 10 12 (bv 23 2047) HT_ rfl rfl ?_
    refine pn 11 13 (bv 23 4095) HT_ rfl rfl ?_
    refine pn 12 14 (bv 23 8191) HT_ rfl rfl ?_
    refine pn 13 15 (bv 23 16383) HT_ rfl rfl ?_
    refine pn 14 16 (bv 23 32767) HT_ rfl rfl ?_
    refine pn 15 17 (bv 23 65535) HT_ rfl rfl ?_
    refine pn 16 18 (bv 23 131071) HT_ rfl rfl ?_
    refine pn 17 19 (bv 23 262143) HT_ rfl rfl ?_
    refine pn 18 20 (bv 23 524287) HT_ rfl rfl ?_
    refine pn 19 21 (bv 23 1048575) HT_ rfl rfl ?_
    refine pn 20 22 (bv 23 2097151) HT_ rfl rfl ?_
    refine pn 21 23 (bv 23 4194303) HT_ rfl rfl ?_
    refine pu 22 24 (bv 23 8388607) HT_ rfl rfl ?_
    refine done_ (done_of HT_.out (by kernel_rfl)) ?_
    clear hHeld HT_ HW_
    obtain ⟨z0, z1, z2, z3, z4, z5, z6, z7, z8, z9⟩ := HI.out.cz
    go_wp2
    go_end0
    exact ⟨rfl, HI.out⟩
def note_parser_begins.T2 : Bool × List (List Nat × List Nat) := (true, [([], []), ([], []), ([1], [1]), ([2], [2]), ([3], [3]), ([], []), ([5], [5]), ([6], [6]), ([7], [7]), ([8], [8]), ([9], [9]), ([4, 10], [4, 10]), ([0, 0, 1, 2, 3, 4, 5, 6, 7, 8, 9, 10, 11], [0]), ([12, 0, 1, 2, 3, 4, 5, 6, 7, 8, 9, 10, 11], [12]), ([13, 11, 0, 1, 2, 3, 4, 5, 6, 7, 8, 9, 10, 11], [11, 13])])
def note_parser_begins.B2 : List Nat := [0, 0, 2, 6, 14, 0, 32, 96, 224, 480, 992, 2046, 4095, 8191, 16383]
theorem note_parser_begins.tab2 : rtab .any (opsOf Tryd.f85 2) = note_parser_begins.T2 := by kernel_rfl
theorem note_parser_begins.bits2 : waitsOk note_parser_begins.T2.2 note_parser_begins.B2 = true := by kernel_rfl
set_option maxHeartbeats 8000000 in
set_option maxRecDepth 100000 in
theorem note_parser_begins.calls (g : Nat) (p : Pz) (A : Option Addr) (n c : Nat) (w0 w : World) (hI : Pt w0 w g p w) (hv : p.vo = .slice A n c) (hn : n ≤ 1000000) :
  Calls Tryd.prog 85 #[.pointer (some ⟨g, 0, none⟩)] w fun e w' => e = .returned (.bool (!p.done)) ∧ Pt w0 w g { p with many := wrap64 (p.many + 1), deep := mx p.deep ((n : Int) + 1) } w' := by
 have hu := Tryd.underlying93
 have HI := Aside0.mk hI
 clear hI
 obtain ⟨z0, z1, z2, z3, z4, z5, z6, z7, z8, z9⟩ := HI.out.cz
 obtain ⟨y0, y1, y2, y3, y4, y5, y6, y7, y8, y9⟩ := HI.out.cf
 rw [hv] at z2
 go_enter Tryd.func85, Tryd.ntmps85
 go_wp2
 have HQ := aE (HI.out.manyS (wrap64 (p.many + 1))).drew
 clear HI z0 z1 z2 z3 z4 z5 z6 z7 z8 z9 y0 y1 y2 y3 y4 y5 y6 y7 y8 y9
 have HI := HQ
 clear HQ
 obtain ⟨z0, z1, z2, z3, z4, z5, z6, z7, z8, z9⟩ := HI.out.cz
 obtain ⟨y0, y1, y2, y3, y4, y5, y6, y7, y8, y9⟩ := HI.out.cf
 rw [show ({ p with many := wrap64 (p.many + 1) } : Pz).vo = .slice A n c from hv] at z2
 have ew : wrap64 ((n : Int) + 1) = (n : Int) + 1 := by unfold wrap64; omega
 refine st 15 (fun w' => w'.cell? ⟨g, 2, none⟩ = some (.slice A n c) ∧ w'.cell? ⟨g, 3, none⟩ = some (.int .i64 p.deep)) [14] (bv 15 0) note_parser_begins.tab2 note_parser_begins.bits2 ⟨z2, z3⟩ (fun hHeld HT_ HW_ => ?_)
 clear z0 z1 z2 z3 z4 z5 z6 z7 z8 z9
 generalize World.drew _ = w1 at HI hHeld ⊢
 refine pu 0 10 (bv 15 1) HT_ rfl rfl ?_
 refine pu 1 11 (bv 15 3) HT_ rfl rfl ?_
 refine pu 2 12 (bv 15 7) HT_ rfl rfl ?_
 refine pu 3 13 (bv 15 15) HT_ rfl rfl ?_
 refine tk 4 14 (bv 15 31) HT_ HW_ hHeld rfl rfl (by rintro w' ⟨s2, s3⟩; exact yl) ?_
 refine pu 5 15 (bv 15 63) HT_ rfl rfl ?_
 refine pu 6 16 (bv 15 127) HT_ rfl rfl ?_
 refine pu 7 17 (bv 15 255) HT_ rfl rfl ?_
 refine tk 8 18 (bv 15 511) HT_ HW_ hHeld rfl rfl (by rintro w' ⟨s2, s3⟩; exact yl) ?_
 refine pu 9 19 (bv 15 1023) HT_ rfl rfl ?_
 refine pu 10 20 (bv 15 2047) HT_ rfl rfl ?_
 refine pu 11 21 (bv 15 4095) HT_ rfl rfl ?_
 refine pu 12 22 (bv 15 8191) HT_ rfl rfl ?_
 refine pu 13 23 (bv 15 16383) HT_ rfl rfl ?_
 refine last_ (i := 14) (N := none) (bv 15 32767) rfl rfl (one_of HT_.out (by kernel_rfl)) (by decide) (fun K hK => ?_)
 refine want_ (by rfl) ?_
 obtain ⟨z0, z1, z2, z3, z4, z5, z6, z7, z8, z9⟩ := HI.out.cz
 obtain ⟨y0, y1, y2, y3, y4, y5, y6, y7, y8, y9⟩ := HI.out.cf
 unfold Oper.wp
 go_simp
 refine hK.out _ _ ?_
 clear hK K
 refine done_ (done_of HT_.out (by kernel_rfl)) ?_
 clear hHeld HT_ HW_
 obtain ⟨md, hmd⟩ : ∃ m, m = mx p.deep ((n : Int) + 1) := ⟨_, rfl⟩
 rw [show (if p.deep < (n : Int) + 1 then (n : Int) + 1 else p.deep) = md from hmd.symm]
 have HQ := aE (HI.out.deepS md)
 clear HI
 have HI := HQ
 clear HQ
 go_wp2
 go_ret
 subst hmd
 have hh := HI.out
 rw [hv] at hh
 exact ⟨re, hh⟩
end Go.Proofs.YtacdchogjpeffaaDoor.PNoteFormats
