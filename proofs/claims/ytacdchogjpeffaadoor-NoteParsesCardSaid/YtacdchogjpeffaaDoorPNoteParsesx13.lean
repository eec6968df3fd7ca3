-- printed (wip/tools/myprint.py)
import Derived.Test.YtacdchogjpeffaaDoorPNoteParsesx0
import Derived.Test.YtacdchogjpeffaaDoorPNoteParsesx2
import Derived.Test.YtacdchogjpeffaaDoorPNoteParsesx3
import Derived.Test.YtacdchogjpeffaaDoorPNoteParsesx4
import Derived.Test.YtacdchogjpeffaaDoorPNoteParsesx5
import Derived.Test.YtacdchogjpeffaaDoorPNoteParsesx6
import Derived.Test.YtacdchogjpeffaaDoorPNoteParsesx7
import Derived.Test.YtacdchogjpeffaaDoorPNoteParsesx12
namespace Go.Proofs.YtacdchogjpeffaaDoor.PNoteParses
open Go.RowKit Go.Proofs.YtacdchogjpeffaaDoorW.PrintWords Go.Proofs.YtacdchogjpeffaaDoorW.PrintLast Go.Proofs.YtacdchogjpeffaaDoorW.PrintMore
attribute [local go_sem] max2_int min2_int max_two min_two max_three min_three max_four min_four
set_option linter.unusedVariables false
set_option linter.unusedSimpArgs false
def incunableref25_Parse.f (k : Nat) (s : ByteArray) : Option (Int × ByteArray × Int × List S33 × Int) := if (s.size : Int) > 20000 then some (0, (⟨#[]⟩ : ByteArray), 0, [], 4) else ((incunableref25_reader_blank.f k s 0 false).bind fun b => (incunableref25_reader_one.f k b.1 b.2.1 b.2.2).bind fun t => (incunableref25_reader_blank.f k t.2.2.2.2.1 t.2.2.2.2.2.1 t.2.2.2.2.2.2).bind fun c => if c.2.2 = true then some (0, (⟨#[]⟩ : ByteArray), 0, [], 3) else (if c.2.1 ≠ (c.1.size : Int) then some (0, (⟨#[]⟩ : ByteArray), 0, [], 3) else ((incunableref25_small.f k t.1 t.2.1 t.2.2.1 t.2.2.2.1).bind fun m => if m = true then some (t.1, t.2.1, t.2.2.1, t.2.2.2.1, 0) else some (0, (⟨#[]⟩ : ByteArray), 0, [], 4))))
theorem incunableref25_Parse.mono (s : ByteArray) (k : Nat) : LeO (incunableref25_Parse.f k s) (incunableref25_Parse.f (k + 1) s) := LeO.ite (LeO.refl _) (LeO.bind (incunableref25_reader_blank.mono _ _ _ k) (fun _ => LeO.bind (incunableref25_reader_one.mono _ _ _ k) (fun _ => LeO.bind (incunableref25_reader_blank.mono _ _ _ k) (fun _ => LeO.ite (LeO.refl _) (LeO.ite (LeO.refl _) (LeO.bind (incunableref25_small.mono _ _ _ _ k) (fun _ => LeO.refl _)))))))
def incunableref25_Parse.T7 : Bool × List (List Nat × List Nat) := (true, [([], []), ([0], [0]), ([1], [1]), ([2], [2]), ([3], [3]), ([4], [4]), ([5, 4], [4, 5]), ([6, 4], [4, 6]), ([7, 4], [4, 7]), ([4], [4]), ([9, 4], [4, 9]), ([10, 4], [4, 10]), ([11, 4], [4, 11]), ([12, 4], [4, 12]), ([8, 13, 4], [4, 8, 13]), ([4, 14], [4, 14])])
def incunableref25_Parse.B7 : List Nat := [0, 1, 3, 7, 15, 31, 63, 127, 255, 31, 543, 1567, 3615, 7711, 16383, 32767]
theorem incunableref25_Parse.tab7 : rtab .any (opsOf Tryd.f37 7) = incunableref25_Parse.T7 := by kernel_rfl
theorem incunableref25_Parse.bits7 : waitsOk incunableref25_Parse.T7.2 incunableref25_Parse.B7 = true := by kernel_rfl
set_option maxHeartbeats 16000000 in
set_option maxRecDepth 100000 in
theorem incunableref25_Parse.calls (k : Nat) (a0 : ByteArray) (r1 : Int) (r2 : ByteArray) (r3 : Int) (r4 : List S33) (r5 : Int) (w : World) (h : incunableref25_Parse.f k a0 = some (r1, r2, r3, r4, r5)) :
  Calls Tryd.prog 37 #[.string a0] w fun e w' => ∃ v4_ : Value, e = .returned (.tuple #[.agg #[.int .i64 r1, .string r2, .int .i64 r3, v4_], .int .i64 r5]) ∧ Kd.R k33 33 w' w.heap.size (fun _ => True) v4_ r4 ∧ Below w.heap.size w w' := by
 have hu := Tryd.underlying96
 have hu33 := Tryd.underlying33
 unfold incunableref25_Parse.f at h
 have TK := aC trivial (aC trivial (aC trivial (aC trivial (aE trivial))))
 obtain ⟨K1, K2, K3, K4, K5⟩ := TK
 by_cases c0 : (a0.size : Int) > 20000
 ·rw [if_pos c0] at h
  simp only [Option.some.injEq, Prod.mk.injEq] at h
  obtain ⟨rfl, rfl, rfl, rfl, rfl⟩ := h
  have c0' : 20000 < (a0.size : Int) := c0
  have b0 := decide_eq_true c0'
  clear c0 c0'
  go_enter Tryd.func37, Tryd.ntmps37
  go_wp2_with (first | (clear K1; (with_reducible refine gd 2 rfl ?_); refine bx 2 #[.int .i64 0, .string (⟨#[]⟩ : ByteArray), .int .i64 0, .slice none 0 0] 33 rfl rfl ?_; intro gr hg_ wR hbox hb; have GE := aE (Nat.le_of_eq hg_.symm : w.heap.size ≤ gr); have HR := aE hb; have BK := hbox; obtain ⟨p0_, p1_, p2_, p3_, f0, f1, f2, f3⟩ := cz4f BK; clear hb hg_))
  refine bodyPost_ret (results_ct rfl _ _ gr 33 #[.int .i64 0, .string (⟨#[]⟩ : ByteArray), .int .i64 0, .slice none 0 0] (0, 0) _ rfl (fill4 BK _ _ _ _) Tryd.underlying33 rfl (by kernel_rfl)) rfl ?_
  exact ⟨_, rfl, Kd.R_nil _ _ _ _ _, below4 HR.out GE.out _ _ _ _⟩
 ·rw [if_neg c0] at h
  have c0' : ¬ 20000 < (a0.size : Int) := c0
  have b0 := decide_eq_false c0'
  clear c0 c0'
  obtain ⟨⟨s1, i1, d1⟩, A1, h⟩ := oB h
  obtain ⟨⟨t1, t2, t3, t4, s2, i2, d2⟩, A2, h⟩ := oB h
  obtain ⟨⟨s3, i3, d3⟩, A3, h⟩ := oB h
  try dsimp only at h
  have H := aE h
  clear h
  go_enter Tryd.func37, Tryd.ntmps37
  go_wp2_with (first | (clear K1; (with_reducible refine gd 2 rfl ?_); refine bx 2 #[.int .i64 0, .string (⟨#[]⟩ : ByteArray), .int .i64 0, .slice none 0 0] 33 rfl rfl ?_; intro gr hg_ wR hbox hb; have GE := aE (Nat.le_of_eq hg_.symm : w.heap.size ≤ gr); have HR := aE hb; have BK0 := aE hbox; have GR := aE (blk_lt hbox); clear hb hg_ hbox) | (clear K2; (with_reducible refine gd 12 rfl ?_); refine bx 12 #[.string a0, .int .i64 0, .bool false] 96 rfl rfl ?_; intro g hg_ w2 hbox hb; have HI := aE (show IsS96 wR w2 g a0 0 false from ⟨hbox, Nat.le_of_eq hg_.symm⟩); have HB := aE hb; clear hbox hb hg_) | (clear K3; refine gF 64 14 Tryd.func64 #[.pointer (some ⟨g, 0, none⟩)] rfl rfl ?_; refine (incunableref25_reader_blank.calls k g a0 0 false s1 i1 d1 wR _ HI.out HB.out A1.out).mono ?_; rintro e_ w3 ⟨rfl, hi, hb, _⟩; refine ⟨_, rfl, ?_⟩; clear HI HB; have HI := aE hi; have HB := aE hb; have GL := aE hi.lt; have GV := aE hb.size; have GW := aE (Nat.le_trans HR.out.size hb.size); clear hi hb) | (clear K4; refine gF 65 16 Tryd.func65 #[.pointer (some ⟨g, 0, none⟩)] rfl rfl ?_; refine (incunableref25_reader_one.calls k g s1 i1 d1 t1 t2 t3 t4 s2 i2 d2 wR _ HI.out HB.out A2.out).mono ?_; rintro e_ w4 ⟨v4, rfl, hx, hi, hb, _⟩; obtain ⟨Ax, cx, rfl⟩ := Kd.R_slice hx; refine ⟨_, rfl, ?_⟩; clear HI HB; have HI := aE hi; have HB := aE hb; have HX := aE hx; clear hi hb hx) | (clear K5; (with_reducible refine gd 5 rfl ?_); refine bx 5 #[.int .i64 0, .string (⟨#[]⟩ : ByteArray), .int .i64 0, .slice none 0 0] 33 rfl rfl ?_; intro gx hg_ w5 hbox hb; have HQ := aC (HI.out.below hb) (aC (below_step HB.out hb) (aC hbox (aC hb (aC (show g ≠ gx from fun e_ => by have := HI.out.lt; omega) (aC (show wR.heap.size ≤ gx from by have := HB.out.size; omega) (aE hg_)))))); clear HI HB hbox hb hg_; obtain ⟨HI, HB, BX, H45, NX, GX, EX⟩ := HQ; obtain ⟨x0, x1, x2, x3, y0, y1, y2, y3⟩ := cz4f BX.out) | (refine gF 64 18 Tryd.func64 #[.pointer (some ⟨g, 0, none⟩)] rfl rfl ?_; have NG : ∀ (j : Nat), g ≠ (⟨gx, j, none⟩ : Addr).block := fun _ => NX.out; have HI5 : IsS96 wR ((((w5.setCell ⟨gx, 0, none⟩ (.int .i64 t1)).setCell ⟨gx, 1, none⟩ (.string t2)).setCell ⟨gx, 2, none⟩ (.int .i64 t3)).setCell ⟨gx, 3, none⟩ (.slice Ax t4.length cx)) g s2 i2 d2 := (((HI.out.far (NG 0) _).far (NG 1) _).far (NG 2) _).far (NG 3) _; have HB5 : Below wR.heap.size wR ((((w5.setCell ⟨gx, 0, none⟩ (.int .i64 t1)).setCell ⟨gx, 1, none⟩ (.string t2)).setCell ⟨gx, 2, none⟩ (.int .i64 t3)).setCell ⟨gx, 3, none⟩ (.slice Ax t4.length cx)) := below4 HB.out GX.out _ _ _ _; have BX5 : ((((w5.setCell ⟨gx, 0, none⟩ (.int .i64 t1)).setCell ⟨gx, 1, none⟩ (.string t2)).setCell ⟨gx, 2, none⟩ (.int .i64 t3)).setCell ⟨gx, 3, none⟩ (.slice Ax t4.length cx)).heap[gx]? = some (.cells #[.int .i64 t1, .string t2, .int .i64 t3, .slice Ax t4.length cx] 33 (0, 0)) := fill4 BX.out _ _ _ _; have far : ∀ (W : World) (j : Nat) (u : Value) (k : Nat), k ≠ gx → (W.setCell ⟨gx, j, none⟩ u).heap[k]? = W.heap[k]? := fun W j u k hk => Below.heap_setCell W ⟨gx, j, none⟩ u k hk; have HX5 : Kd.R k33 33 ((((w5.setCell ⟨gx, 0, none⟩ (.int .i64 t1)).setCell ⟨gx, 1, none⟩ (.string t2)).setCell ⟨gx, 2, none⟩ (.int .i64 t3)).setCell ⟨gx, 3, none⟩ (.slice Ax t4.length cx)) w3.heap.size (fun _ => True) (.slice Ax t4.length cx) t4 := Kd.R_mono (Kd.R_move (Kd.R_bound HX.out) (fun k hk => by have h1 : k ≠ gx := (by have := hk.2.2.1; have := EX.out; omega); rw [far _ _ _ k h1, far _ _ _ k h1, far _ _ _ k h1, far _ _ _ k h1, H45.out.block k hk.2.2.1])) (fun _ _ => trivial); refine (incunableref25_reader_blank.calls k g s2 i2 d2 s3 i3 d3 wR _ HI5 HB5 A3.out).mono ?_; rintro e_ w6 ⟨rfl, hi, hb, hk⟩; refine ⟨_, rfl, ?_⟩; have HQ := aC hi (aC hb (aC (R_keepG HX5 hk GL.out) (aE ((hk.2 gx (blk_lt BX5) (fun e_ => NX.out e_.symm) (by simp)).trans BX5)))); clear HI HB HX BX HI5 HB5 BX5 HX5 hi hb hk far NG x0 x1 x2 x3 y0 y1 y2 y3; obtain ⟨HI, HB, HX, BX⟩ := HQ))
  have h := H.out
  clear H
  cases d3 with
  | true =>
   rw [if_pos rfl] at h
   simp only [Option.some.injEq, Prod.mk.injEq] at h
   obtain ⟨rfl, rfl, rfl, rfl, rfl⟩ := h
   obtain ⟨z0, z1, z2⟩ : w6.cell? ⟨g, 0, none⟩ = some (.string s3) ∧ w6.cell? ⟨g, 1, none⟩ = some (.int .i64 i3) ∧ w6.cell? ⟨g, 2, none⟩ = some (.bool true) := ⟨(blk_cell HI.out.1 0).trans rfl, (blk_cell HI.out.1 1).trans rfl, (blk_cell HI.out.1 2).trans rfl⟩
   refine st 16 (fun w' => w'.cell? ⟨g, 0, none⟩ = some (.string s3) ∧ w'.cell? ⟨g, 1, none⟩ = some (.int .i64 i3) ∧ w'.cell? ⟨g, 2, none⟩ = some (.bool true)) [] (bv 16 0) incunableref25_Parse.tab7 incunableref25_Parse.bits7 ⟨z0, z1, z2⟩ (fun hHeld HT_ HW_ => ?_)
   have HQ := aC (below_drew1 HB.out) (aC (Kd.R_drew HX.out) (aE (blk_drew BX.out)))
   clear HB HX BX HI z0 z1 z2
   obtain ⟨HB, HX, BX⟩ := HQ
   generalize World.drew _ = w9 at HB HX BX hHeld ⊢
   refine pu 0 19 (bv 16 1) HT_ rfl rfl ?_
   refine pu 1 20 (bv 16 3) HT_ rfl rfl ?_
   refine pu 2 21 (bv 16 7) HT_ rfl rfl ?_
   refine tk 3 22 (bv 16 15) HT_ HW_ hHeld rfl rfl (by rintro w' ⟨s0, s1, s2⟩; exact yl) ?_
   refine pu 4 23 (bv 16 31) HT_ rfl rfl ?_
   refine pn 5 24 (bv 16 63) HT_ rfl rfl ?_
   refine pn 6 25 (bv 16 127) HT_ rfl rfl ?_
   refine pn 7 26 (bv 16 255) HT_ rfl rfl ?_
   refine pn 8 27 (bv 16 511) HT_ rfl rfl ?_
   refine pn 9 28 (bv 16 1023) HT_ rfl rfl ?_
   refine pn 10 29 (bv 16 2047) HT_ rfl rfl ?_
   refine pn 11 30 (bv 16 4095) HT_ rfl rfl ?_
   refine pn 12 31 (bv 16 8191) HT_ rfl rfl ?_
   refine pn 13 32 (bv 16 16383) HT_ rfl rfl ?_
   refine pn 14 33 (bv 16 32767) HT_ rfl rfl ?_
   refine pu 15 34 (bv 16 65535) HT_ rfl rfl ?_
   refine done_ (done_of HT_.out (by kernel_rfl)) ?_
   clear hHeld HT_ HW_
   have BK := (HB.out.block gr GR.out).trans BK0.out
   obtain ⟨p0_, p1_, p2_, p3_, f0, f1, f2, f3⟩ := cz4f BK
   obtain ⟨x0, x1, x2, x3, _⟩ := cz4f BX.out
   go_wp2
   refine bodyPost_ret (results_ct rfl _ _ gr 33 #[.int .i64 0, .string (⟨#[]⟩ : ByteArray), .int .i64 0, .slice none 0 0] (0, 0) _ rfl (fill4 BK _ _ _ _) Tryd.underlying33 rfl (by kernel_rfl)) rfl ?_
   exact ⟨_, rfl, Kd.R_nil _ _ _ _ _, below4 (below_step HR.out HB.out) GE.out _ _ _ _⟩
  | false =>
   rw [if_neg Bool.false_ne_true] at h
   by_cases c1 : i3 = (s3.size : Int)
   case neg =>
    rw [if_pos c1] at h
    have b1 : (i3 != (s3.size : Int)) = true := bne_iff_ne.mpr c1
    simp only [Option.some.injEq, Prod.mk.injEq] at h
    obtain ⟨rfl, rfl, rfl, rfl, rfl⟩ := h
    obtain ⟨z0, z1, z2⟩ : w6.cell? ⟨g, 0, none⟩ = some (.string s3) ∧ w6.cell? ⟨g, 1, none⟩ = some (.int .i64 i3) ∧ w6.cell? ⟨g, 2, none⟩ = some (.bool false) := ⟨(blk_cell HI.out.1 0).trans rfl, (blk_cell HI.out.1 1).trans rfl, (blk_cell HI.out.1 2).trans rfl⟩
    refine st 16 (fun w' => w'.cell? ⟨g, 0, none⟩ = some (.string s3) ∧ w'.cell? ⟨g, 1, none⟩ = some (.int .i64 i3) ∧ w'.cell? ⟨g, 2, none⟩ = some (.bool false)) [] (bv 16 0) incunableref25_Parse.tab7 incunableref25_Parse.bits7 ⟨z0, z1, z2⟩ (fun hHeld HT_ HW_ => ?_)
    have HQ := aC (below_drew1 HB.out) (aC (Kd.R_drew HX.out) (aE (blk_drew BX.out)))
    clear HB HX BX HI z0 z1 z2
    obtain ⟨HB, HX, BX⟩ := HQ
    generalize World.drew _ = w9 at HB HX BX hHeld ⊢
    refine pu 0 19 (bv 16 1) HT_ rfl rfl ?_
    refine pu 1 20 (bv 16 3) HT_ rfl rfl ?_
    refine pu 2 21 (bv 16 7) HT_ rfl rfl ?_
    refine tk 3 22 (bv 16 15) HT_ HW_ hHeld rfl rfl (by rintro w' ⟨s0, s1, s2⟩; exact yl) ?_
    refine pu 4 23 (bv 16 31) HT_ rfl rfl ?_
    refine pu 5 24 (bv 16 63) HT_ rfl rfl ?_
    refine pu 6 25 (bv 16 127) HT_ rfl rfl ?_
    refine pu 7 26 (bv 16 255) HT_ rfl rfl ?_
    refine tk 8 27 (bv 16 511) HT_ HW_ hHeld rfl rfl (by rintro w' ⟨s0, s1, s2⟩; exact yl) ?_
    refine pu 9 28 (bv 16 1023) HT_ rfl rfl ?_
    refine pu 10 29 (bv 16 2047) HT_ rfl rfl ?_
    refine pu 11 30 (bv 16 4095) HT_ rfl rfl ?_
    refine tk 12 31 (bv 16 8191) HT_ HW_ hHeld rfl rfl (by rintro w' ⟨s0, s1, s2⟩; exact yl) ?_
    refine pu 13 32 (bv 16 16383) HT_ rfl rfl ?_
    refine pu 14 33 (bv 16 32767) HT_ rfl rfl ?_
    refine pu 15 34 (bv 16 65535) HT_ rfl rfl ?_
    refine done_ (done_of HT_.out (by kernel_rfl)) ?_
    clear hHeld HT_ HW_
    have BK := (HB.out.block gr GR.out).trans BK0.out
    obtain ⟨p0_, p1_, p2_, p3_, f0, f1, f2, f3⟩ := cz4f BK
    obtain ⟨x0, x1, x2, x3, _⟩ := cz4f BX.out
    go_wp2
    refine bodyPost_ret (results_ct rfl _ _ gr 33 #[.int .i64 0, .string (⟨#[]⟩ : ByteArray), .int .i64 0, .slice none 0 0] (0, 0) _ rfl (fill4 BK _ _ _ _) Tryd.underlying33 rfl (by kernel_rfl)) rfl ?_
    exact ⟨_, rfl, Kd.R_nil _ _ _ _ _, below4 (below_step HR.out HB.out) GE.out _ _ _ _⟩
   rw [if_neg (fun hn => hn c1)] at h
   have b1 : (i3 != (s3.size : Int)) = false := by rw [c1]; exact bne_self_eq_false _
   obtain ⟨m, A4, h⟩ := oB h
   have HL := aE (Kd.R_reads' HX.out).2.1
   obtain ⟨z0, z1, z2⟩ : w6.cell? ⟨g, 0, none⟩ = some (.string s3) ∧ w6.cell? ⟨g, 1, none⟩ = some (.int .i64 i3) ∧ w6.cell? ⟨g, 2, none⟩ = some (.bool false) := ⟨(blk_cell HI.out.1 0).trans rfl, (blk_cell HI.out.1 1).trans rfl, (blk_cell HI.out.1 2).trans rfl⟩
   refine st 16 (fun w' => w'.cell? ⟨g, 0, none⟩ = some (.string s3) ∧ w'.cell? ⟨g, 1, none⟩ = some (.int .i64 i3) ∧ w'.cell? ⟨g, 2, none⟩ = some (.bool false)) [] (bv 16 0) incunableref25_Parse.tab7 incunableref25_Parse.bits7 ⟨z0, z1, z2⟩ (fun hHeld HT_ HW_ => ?_)
   have HQ := aC (below_drew1 HB.out) (aC (Kd.R_drew HX.out) (aE (blk_drew BX.out)))
   clear HB HX BX HI z0 z1 z2
   obtain ⟨HB, HX, BX⟩ := HQ
   generalize World.drew _ = w9 at HB HX BX hHeld ⊢
   refine pu 0 19 (bv 16 1) HT_ rfl rfl ?_
   refine pu 1 20 (bv 16 3) HT_ rfl rfl ?_
   refine pu 2 21 (bv 16 7) HT_ rfl rfl ?_
   refine tk 3 22 (bv 16 15) HT_ HW_ hHeld rfl rfl (by rintro w' ⟨s0, s1, s2⟩; exact yl) ?_
   refine pu 4 23 (bv 16 31) HT_ rfl rfl ?_
   refine pu 5 24 (bv 16 63) HT_ rfl rfl ?_
   refine pu 6 25 (bv 16 127) HT_ rfl rfl ?_
   refine pu 7 26 (bv 16 255) HT_ rfl rfl ?_
   refine tk 8 27 (bv 16 511) HT_ HW_ hHeld rfl rfl (by rintro w' ⟨s0, s1, s2⟩; exact yl) ?_
   refine pu 9 28 (bv 16 1023) HT_ rfl rfl ?_
   refine pu 10 29 (bv 16 2047) HT_ rfl rfl ?_
   refine pu 11 30 (bv 16 4095) HT_ rfl rfl ?_
   refine tk 12 31 (bv 16 8191) HT_ HW_ hHeld rfl rfl (by rintro w' ⟨s0, s1, s2⟩; exact yl) ?_
   refine pu 13 32 (bv 16 16383) HT_ rfl rfl ?_
   refine pu 14 33 (bv 16 32767) HT_ rfl rfl ?_
   refine pu 15 34 (bv 16 65535) HT_ rfl rfl ?_
   refine done_ (done_of HT_.out (by kernel_rfl)) ?_
   clear hHeld HT_ HW_
   have BK := (HB.out.block gr GR.out).trans BK0.out
   obtain ⟨p0_, p1_, p2_, p3_, f0, f1, f2, f3⟩ := cz4f BK
   obtain ⟨x0, x1, x2, x3, _⟩ := cz4f BX.out
   have HC := aE (Kd.R_reads' HX.out).2.2
   cases m with
   | true =>
    rw [if_pos rfl] at h
    simp only [Option.some.injEq, Prod.mk.injEq] at h
    obtain ⟨rfl, rfl, rfl, rfl, rfl⟩ := h
    go_wp2_with (first | (refine gF 61 37 Tryd.func61 #[.agg #[.int .i64 t1, .string t2, .int .i64 t3, .slice Ax t4.length cx]] rfl rfl ?_; refine (incunableref25_small.calls k t1 t2 t3 Ax cx t4 _ _ HC.out HL.out A4.out).mono ?_; rintro e_ w10 ⟨rfl, hb⟩; refine ⟨_, rfl, ?_⟩; have HQ := aC (below_step HB.out hb) (aC (Kd.R_below HX.out hb) (aE (blk_below BX.out hb))); clear HB HX BX BK p0_ p1_ p2_ p3_ f0 f1 f2 f3 x0 x1 x2 x3 hb; obtain ⟨HB, HX, BX⟩ := HQ; have BK := (HB.out.block gr GR.out).trans BK0.out; obtain ⟨p0_, p1_, p2_, p3_, f0, f1, f2, f3⟩ := cz4f BK; obtain ⟨x0, x1, x2, x3, _⟩ := cz4f BX.out))
    refine bodyPost_ret (results_ct rfl _ _ gr 33 #[.int .i64 t1, .string t2, .int .i64 t3, .slice Ax t4.length cx] (0, 0) _ rfl (fill4 BK _ _ _ _) Tryd.underlying33 rfl (by kernel_rfl)) rfl ?_
    refine ⟨_, rfl, ?_, below4 (below_step HR.out HB.out) GE.out _ _ _ _⟩
    have far : ∀ (W : World) (j : Nat) (u : Value) (k : Nat), wR.heap.size ≤ k → (W.setCell ⟨gr, j, none⟩ u).heap[k]? = W.heap[k]? := fun W j u k hk => Below.heap_setCell W ⟨gr, j, none⟩ u k (by have := GR.out; show k ≠ gr; omega)
    refine Kd.R_lower (Kd.R_mono (Kd.R_move (Kd.R_bound HX.out) (fun k hk => ?_)) (fun _ _ => trivial)) GW.out
    rw [far _ _ _ k (Nat.le_trans GV.out hk.2.1), far _ _ _ k (Nat.le_trans GV.out hk.2.1), far _ _ _ k (Nat.le_trans GV.out hk.2.1), far _ _ _ k (Nat.le_trans GV.out hk.2.1)]
   | false =>
    rw [if_neg Bool.false_ne_true] at h
    simp only [Option.some.injEq, Prod.mk.injEq] at h
    obtain ⟨rfl, rfl, rfl, rfl, rfl⟩ := h
    go_wp2_with (first | (refine gF 61 37 Tryd.func61 #[.agg #[.int .i64 t1, .string t2, .int .i64 t3, .slice Ax t4.length cx]] rfl rfl ?_; refine (incunableref25_small.calls k t1 t2 t3 Ax cx t4 _ _ HC.out HL.out A4.out).mono ?_; rintro e_ w10 ⟨rfl, hb⟩; refine ⟨_, rfl, ?_⟩; have HQ := aC (below_step HB.out hb) (aC (Kd.R_below HX.out hb) (aE (blk_below BX.out hb))); clear HB HX BX BK p0_ p1_ p2_ p3_ f0 f1 f2 f3 x0 x1 x2 x3 hb; obtain ⟨HB, HX, BX⟩ := HQ; have BK := (HB.out.block gr GR.out).trans BK0.out; obtain ⟨p0_, p1_, p2_, p3_, f0, f1, f2, f3⟩ := cz4f BK; obtain ⟨x0, x1, x2, x3, _⟩ := cz4f BX.out))
    refine bodyPost_ret (results_ct rfl _ _ gr 33 #[.int .i64 0, .string (⟨#[]⟩ : ByteArray), .int .i64 0, .slice none 0 0] (0, 0) _ rfl (fill4 BK _ _ _ _) Tryd.underlying33 rfl (by kernel_rfl)) rfl ?_
    exact ⟨_, rfl, Kd.R_nil _ _ _ _ _, below4 (below_step HR.out HB.out) GE.out _ _ _ _⟩
mutual
def incunablelaw25_NoteParses.j0 : Nat → ByteArray → Bool → Option (Bool)
 | 0, _, _ => none
 | k + 1, x0, x21 => if x21 = true then ((incunablelaw25_Sane.f k).bind fun t183 => (some t183)) else ((note_Parse.f k x0).bind fun bt184 => ((incunableref25_Parse.f k x0).bind fun bt192 => (if bt184.2.2.2.2 = bt192.2.2.2.2 then ((incunableref25_SameExpr.f k bt184.1 bt184.2.1 bt184.2.2.1 bt184.2.2.2.1 bt192.1 bt192.2.1 bt192.2.2.1 bt192.2.2.2.1).bind fun t200 => (incunablelaw25_NoteParses.j1 k bt184.2.2.2.2 (!t200) bt184.1 bt184.2.1 bt184.2.2.1 bt184.2.2.2.1)) else (incunablelaw25_NoteParses.j1 k bt184.2.2.2.2 true bt184.1 bt184.2.1 bt184.2.2.1 bt184.2.2.2.1))))
def incunablelaw25_NoteParses.j1 : Nat → Int → Bool → Int → ByteArray → Int → List (S33) → Option (Bool)
 | 0, _, _, _, _, _, _ => none
 | k + 1, x4, x41, x192000, x192001, x192002, x192003 => if x41 = true then (some false) else (if x4 = 0 then ((note_Format.f k x192000 x192001 x192002 x192003).bind fun bt202 => ((note_Parse.f k bt202.1).bind fun bt204 => (if bt202.2 = 0 then (if bt204.2.2.2.2 = 0 then ((incunableref25_SameExpr.f k bt204.1 bt204.2.1 bt204.2.2.1 bt204.2.2.2.1 x192000 x192001 x192002 x192003).bind fun t212 => (if t212 = true then ((incunablelaw25_Sane.f k).bind fun t213 => (some t213)) else (some false))) else (some false)) else (some false)))) else ((incunablelaw25_Sane.f k).bind fun t201 => (some t201)))
end
def incunablelaw25_NoteParses.f (k : Nat) (a0 : ByteArray) : Option (Bool) := if (a0.size : Int) > 3000 then (if (a0.size : Int) ≤ 20000 then (incunablelaw25_NoteParses.j0 k a0 true) else (incunablelaw25_NoteParses.j0 k a0 (decide ((a0.size : Int) > 30000)))) else (incunablelaw25_NoteParses.j0 k a0 (decide ((a0.size : Int) > 30000)))
theorem incunablelaw25_NoteParses.mono_l : ∀ k, (∀ y0 y1, LeO (incunablelaw25_NoteParses.j0 k y0 y1) (incunablelaw25_NoteParses.j0 (k + 1) y0 y1)) ∧ (∀ y0 y1 y2 y3 y4 y5, LeO (incunablelaw25_NoteParses.j1 k y0 y1 y2 y3 y4 y5) (incunablelaw25_NoteParses.j1 (k + 1) y0 y1 y2 y3 y4 y5))
 | 0 => ⟨fun _ _ r h => by simp [incunablelaw25_NoteParses.j0] at h, fun _ _ _ _ _ _ r h => by simp [incunablelaw25_NoteParses.j1] at h⟩
 | k + 1 => by
  obtain ⟨ih0, ih1⟩ := incunablelaw25_NoteParses.mono_l k
  refine ⟨?_, ?_⟩
  ·intro y0 y1
   unfold incunablelaw25_NoteParses.j0
   repeat' first
   | (with_reducible exact ih0 _ _)
   | (with_reducible exact ih1 _ _ _ _ _ _)
   | (with_reducible exact incunablelaw25_Sane.mono _)
   | (with_reducible exact incunableref25_Parse.mono _ _)
   | (with_reducible exact incunableref25_SameExpr.mono _ _ _ _ _ _ _ _ _)
   | (with_reducible exact note_Format.mono _ _ _ _ _)
   | (with_reducible exact note_Parse.mono _ _)
   | (with_reducible first | exact LeO.refl _ | exact LeO.none _ | refine LeO.ite ?_ ?_ | refine LeO.bind ?_ (fun _ => ?_))
  ·intro y0 y1 y2 y3 y4 y5
   unfold incunablelaw25_NoteParses.j1
   repeat' first
   | (with_reducible exact ih0 _ _)
   | (with_reducible exact ih1 _ _ _ _ _ _)
   | (with_reducible exact incunablelaw25_Sane.mono _)
   | (with_reducible exact incunableref25_Parse.mono _ _)
   | (with_reducible exact incunableref25_SameExpr.mono _ _ _ _ _ _ _ _ _)
   | (with_reducible exact note_Format.mono _ _ _ _ _)
   | (with_reducible exact note_Parse.mono _ _)
   | (with_reducible first | exact LeO.refl _ | exact LeO.none _ | refine LeO.ite ?_ ?_ | refine LeO.bind ?_ (fun _ => ?_))
theorem incunablelaw25_NoteParses.mono : ∀ a0 k, LeO (incunablelaw25_NoteParses.f k a0) (incunablelaw25_NoteParses.f (k + 1) a0) := by
 intro a0 k
 obtain ⟨ih0, ih1⟩ := incunablelaw25_NoteParses.mono_l k
 unfold incunablelaw25_NoteParses.f
 repeat' first
   | (with_reducible exact ih0 _ _)
   | (with_reducible exact ih1 _ _ _ _ _ _)
   | (with_reducible exact incunablelaw25_Sane.mono _)
   | (with_reducible exact incunableref25_Parse.mono _ _)
   | (with_reducible exact incunableref25_SameExpr.mono _ _ _ _ _ _ _ _ _)
   | (with_reducible exact note_Format.mono _ _ _ _ _)
   | (with_reducible exact note_Parse.mono _ _)
   | (with_reducible first | exact LeO.refl _ | exact LeO.none _ | refine LeO.ite ?_ ?_ | refine LeO.bind ?_ (fun _ => ?_))
set_option maxHeartbeats 8000000 in
set_option maxRecDepth 100000 in
theorem incunablelaw25_NoteParses.calls (k : Nat) (a0 : ByteArray) (r : Bool) (w : World) (hT0 : TIs w) (h : incunablelaw25_NoteParses.f k a0 = some r) (hr_ : r = true) :
  Calls Tryd.prog 9 #[.string a0] w fun e w' => e = .returned (.bool r) ∧ Below w.heap.size w w' := by
 have HTI := Aside0.mk hT0
 clear hT0
 have HR_ := Aside0.mk hr_
 clear hr_
 have hu33 := Tryd.underlying33
 have HB := Aside0.mk (Below.refl w.heap.size w)
 have H := h
 unfold incunablelaw25_NoteParses.f at H
 clear h
 have HC2 := Aside0.mk H
 clear H
 go_enter Tryd.func9, Tryd.ntmps9
 go_upto_region 1 with (fail)
 go_cut [21] (fun v21 wc => ∃ (kq : Nat) (x21_1 : Bool), v21 = .bool x21_1 ∧ Aside0 (incunablelaw25_NoteParses.j0 kq a0 x21_1 = some r) ∧ Aside0 (kq ≤ k) ∧ Aside0 (Below w.heap.size w wc))
 case first =>
  have H := HC2.out
  clear HC2
  by_cases c3 : (a0.size : Int) > 3000
  ·rw [if_pos c3] at H
   have c3b0 := decide_eq_true c3
   have c3b1 : decide (3000 < a0.size) = true := decide_eq_true (by omega)
   clear c3
   (first | rw [c3b0] | (simp only [i64_w, i32_w]; rw [c3b0]) | skip)
   by_cases c4 : (a0.size : Int) ≤ 20000
   ·rw [if_pos c4] at H
    have c4b0 := decide_eq_true c4
    have c4b1 : decide (a0.size ≤ 20000) = true := decide_eq_true (by omega)
    clear c4
    have H' := Aside0.mk H
    clear H
    go_wp2
    go_meet
    case rel => exact ⟨_, (true), rq, H', ⟨by first | omega | exact Nat.le_refl _⟩, ⟨bl⟩⟩
   ·rw [if_neg c4] at H
    have c4b0 := decide_eq_false c4
    have c4b1 : decide (a0.size ≤ 20000) = false := decide_eq_false (by omega)
    clear c4
    have H' := Aside0.mk H
    clear H
    go_wp2
    go_meet
    case rel => exact ⟨_, (decide ((a0.size : Int) > 30000)), rq, H', ⟨by first | omega | exact Nat.le_refl _⟩, ⟨bl⟩⟩
  ·rw [if_neg c3] at H
   have c3b0 := decide_eq_false c3
   have c3b1 : decide (3000 < a0.size) = false := decide_eq_false (by omega)
   clear c3
   (first | rw [c3b0] | (simp only [i64_w, i32_w]; rw [c3b0]) | skip)
   have H' := Aside0.mk H
   clear H
   go_wp2
   go_meet
   case rel => exact ⟨_, (decide ((a0.size : Int) > 30000)), rq, H', ⟨by first | omega | exact Nat.le_refl _⟩, ⟨bl⟩⟩
 case rest =>
  clear HC2
  obtain ⟨kq, x21_1, rfl, HA, HJ1, HB⟩ := hcut
  cases kq with
  | zero => exact absurd HA.out (by simp [incunablelaw25_NoteParses.j0])
  | succ kj1 =>
   have H := HA.out
   clear HA
   simp only [incunablelaw25_NoteParses.j0] at H
   by_cases c5 : x21_1 = true
   ·subst c5
    rw [if_pos rfl] at H
    obtain ⟨t183, A6, H⟩ := oB H
    try dsimp only at H
    obtain rfl := Option.some.inj H
    go_wp2_with (first | (refine gF 11 22 Tryd.func11 #[] rfl rfl ?_; (with_reducible refine (incunablelaw25_Sane.calls kj1  t183 _ (TIs.on HTI) A6.out).mono ?_); rintro e w7 ⟨rfl, hb⟩; refine ⟨_, rfl, ?_⟩; have n_ := aE (bs hb); clear HB; have HB := n_; clear n_))
    go_ret
    exact ⟨re, bl⟩
   ·replace c5 := Bool.eq_false_iff.mpr c5
    subst c5
    rw [if_neg Bool.false_ne_true] at H
    obtain ⟨⟨t184, t185, t186, t187, t190⟩, A8, H⟩ := oB H
    try dsimp only at H
    obtain ⟨⟨t192, t193, t194, t195, t198⟩, A9, H⟩ := oB H
    try dsimp only at H
    have HC10 := Aside0.mk H
    clear H
    go_upto_region 5 with (first | (refine gF 35 25 Tryd.func35 #[.string a0] rfl rfl ?_; (with_reducible refine (note_Parse.calls kj1 a0 t184 t185 t186 t187 t190 _ (TIs.on HTI) A8.out).mono ?_); rintro e w11 ⟨v188, rfl, ho0, hb⟩; refine ⟨_, rfl, ?_⟩; have n_ := aC (Kd.R_lower ho0 bz) (aE (bs hb)); clear HB; obtain ⟨HO189, HB⟩ := n_) | ((with_reducible refine gd 3 rfl ?_); (try (refine gate_guard (by rfl) ?_; dsimp only)); refine bx 3 #[.int .i64 0, .string (⟨#[]⟩ : ByteArray), .int .i64 0, .slice none 0 0] 33 rfl rfl ?_; intro gb191 hg w12 hbox hb; have n_ := aC (Kd.R_below (Kd.R_elderB (rU HO189.out) gb191 (Nat.le_of_eq hg.symm)) hb) (aC (bs hb) (aC hbox (aC (gz hg) (aE (gz hg))))); clear HO189 HB; obtain ⟨HO189, HB, BK191, GW191, GE191⟩ := n_; clear hb hbox hg; obtain ⟨hcz13_0, hcz13_1, hcz13_2, hcz13_3, hfz13_0, hfz13_1, hfz13_2, hfz13_3⟩ := cz4f BK191.out; obtain ⟨Ao14, co14, eo14⟩ := Kd.R_slice HO189.out; subst eo14) | (refine gF 37 30 Tryd.func37 #[.string a0] rfl rfl ?_; (with_reducible refine (incunableref25_Parse.calls kj1 a0 t192 t193 t194 t195 t198 _ A9.out).mono ?_); rintro e w15 ⟨v196, rfl, ho0, hb⟩; refine ⟨_, rfl, ?_⟩; have n_ := aC (Kd.R_elder' (rU (Kd.R_mono (Kd.R_far (p := ⟨gb191, 3, none⟩) (Kd.R_far (p := ⟨gb191, 2, none⟩) (Kd.R_far (p := ⟨gb191, 1, none⟩) (Kd.R_far (p := ⟨gb191, 0, none⟩) (Kd.R_mono HO189.out (fun k_ hk => (⟨hk, hk.2⟩ : _ ∧ k_ ≠ gb191))) (fun _ hk => hk.2) (.int .i64 t184)) (fun _ hk => hk.2) (.string t185)) (fun _ hk => hk.2) (.int .i64 t186)) (fun _ hk => hk.2) (.slice Ao14 t187.length co14)) (fun _ h_ => h_.1))) (Kd.R_base ho0) hb) (aC (Kd.R_lower (Kd.R_newB (Kd.R_new' ho0 (Kd.R_lt (rU (Kd.R_mono (Kd.R_far (p := ⟨gb191, 3, none⟩) (Kd.R_far (p := ⟨gb191, 2, none⟩) (Kd.R_far (p := ⟨gb191, 1, none⟩) (Kd.R_far (p := ⟨gb191, 0, none⟩) (Kd.R_mono HO189.out (fun k_ hk => (⟨hk, hk.2⟩ : _ ∧ k_ ≠ gb191))) (fun _ hk => hk.2) (.int .i64 t184)) (fun _ hk => hk.2) (.string t185)) (fun _ hk => hk.2) (.int .i64 t186)) (fun _ hk => hk.2) (.slice Ao14 t187.length co14)) (fun _ h_ => h_.1))))) (g := gb191) (o := .cells #[.int .i64 t184, .string t185, .int .i64 t186, .slice Ao14 t187.length co14] 33 (0, 0)) (by (with_reducible repeat (first | refine blk_drewN ?_ _ | refine blk_drew ?_ | refine blk_alloc ?_ _)); refine blk_put (cs := #[.int .i64 t184, .string t185, .int .i64 t186, .slice none 0 0]) ?_ 3 _ rfl; (with_reducible repeat (first | refine blk_drewN ?_ _ | refine blk_drew ?_ | refine blk_alloc ?_ _)); refine blk_put (cs := #[.int .i64 t184, .string t185, .int .i64 0, .slice none 0 0]) ?_ 2 _ rfl; (with_reducible repeat (first | refine blk_drewN ?_ _ | refine blk_drew ?_ | refine blk_alloc ?_ _)); refine blk_put (cs := #[.int .i64 t184, .string (⟨#[]⟩ : ByteArray), .int .i64 0, .slice none 0 0]) ?_ 1 _ rfl; (with_reducible repeat (first | refine blk_drewN ?_ _ | refine blk_drew ?_ | refine blk_alloc ?_ _)); refine blk_put (cs := #[.int .i64 0, .string (⟨#[]⟩ : ByteArray), .int .i64 0, .slice none 0 0]) ?_ 0 _ rfl; (with_reducible repeat (first | refine blk_drewN ?_ _ | refine blk_drew ?_ | refine blk_alloc ?_ _)); exact BK191.out)) bz) (aC (blk_below (g := gb191) (o := .cells #[.int .i64 t184, .string t185, .int .i64 t186, .slice Ao14 t187.length co14] 33 (0, 0)) (by (with_reducible repeat (first | refine blk_drewN ?_ _ | refine blk_drew ?_ | refine blk_alloc ?_ _)); refine blk_put (cs := #[.int .i64 t184, .string t185, .int .i64 t186, .slice none 0 0]) ?_ 3 _ rfl; (with_reducible repeat (first | refine blk_drewN ?_ _ | refine blk_drew ?_ | refine blk_alloc ?_ _)); refine blk_put (cs := #[.int .i64 t184, .string t185, .int .i64 0, .slice none 0 0]) ?_ 2 _ rfl; (with_reducible repeat (first | refine blk_drewN ?_ _ | refine blk_drew ?_ | refine blk_alloc ?_ _)); refine blk_put (cs := #[.int .i64 t184, .string (⟨#[]⟩ : ByteArray), .int .i64 0, .slice none 0 0]) ?_ 1 _ rfl; (with_reducible repeat (first | refine blk_drewN ?_ _ | refine blk_drew ?_ | refine blk_alloc ?_ _)); refine blk_put (cs := #[.int .i64 0, .string (⟨#[]⟩ : ByteArray), .int .i64 0, .slice none 0 0]) ?_ 0 _ rfl; (with_reducible repeat (first | refine blk_drewN ?_ _ | refine blk_drew ?_ | refine blk_alloc ?_ _)); exact BK191.out) hb) (aE (bs hb)))); clear HO189 BK191 HB; obtain ⟨HO189, HO197, BK191, HB⟩ := n_) | ((with_reducible refine gd 5 rfl ?_); (try (refine gate_guard (by rfl) ?_; dsimp only)); refine bx 5 #[.int .i64 0, .string (⟨#[]⟩ : ByteArray), .int .i64 0, .slice none 0 0] 33 rfl rfl ?_; intro gb199 hg w16 hbox hb; have n_ := aC (Kd.R_below (Kd.R_elderB (rU HO189.out) gb199 (Nat.le_of_eq hg.symm)) hb) (aC (Kd.R_below (Kd.R_elderB (rU HO197.out) gb199 (Nat.le_of_eq hg.symm)) hb) (aC (blk_below (bU BK191.out) hb) (aC (bs hb) (aC hbox (aC (gz hg) (aC (gz hg) (aC (gn hg (bU BK191.out)) (aE (gm hg (bU BK191.out)))))))))); clear HO189 HO197 BK191 HB; obtain ⟨HO189, HO197, BK191, HB, BK199, GW199, GE199, NB191_199, NB199_191⟩ := n_; clear hb hbox hg; have hnb17 := NB199_191.out; have hnc17 := NB191_199.out; obtain ⟨hcz18_0, hcz18_1, hcz18_2, hcz18_3, hfz18_0, hfz18_1, hfz18_2, hfz18_3⟩ := cz4f BK199.out; obtain ⟨Ao19, co19, eo19⟩ := Kd.R_slice HO197.out; subst eo19))
    (try simp only [Act.put, List.setIfInBounds_toArray, List.set_cons_zero, List.set_cons_succ])
    go_cut [41] (fun v41 wc => ∃ (kq : Nat) (x41_9 : Bool), v41 = .bool x41_9 ∧ Aside0 (incunablelaw25_NoteParses.j1 kq t190 x41_9 t184 t185 t186 t187 = some r) ∧ Aside0 (kq ≤ kj1) ∧ Aside0 (Kd.R k33 33 wc w.heap.size (fun k_ => some k_ ≠ ((.slice Ao19 t195.length co19) : Value).ownBlock ∧ k_ ≠ gb191 ∧ k_ ≠ gb199) (.slice Ao14 t187.length co14) t187) ∧ Aside0 (Kd.R k33 33 wc w.heap.size (fun k_ => some k_ ≠ ((.slice Ao14 t187.length co14) : Value).ownBlock ∧ k_ ≠ gb191 ∧ k_ ≠ gb199) (.slice Ao19 t195.length co19) t195) ∧ Aside0 (wc.heap[gb191]? = some (.cells #[.int .i64 t184, .string t185, .int .i64 t186, (.slice Ao14 t187.length co14)] 33 (0, 0))) ∧ Aside0 (wc.heap[gb199]? = some (.cells #[.int .i64 t192, .string t193, .int .i64 t194, (.slice Ao19 t195.length co19)] 33 (0, 0))) ∧ Aside0 (Below w.heap.size w wc))
    case first =>
     have H := HC10.out
     clear HC10
     rcases iE H with H1 | H1 <;> clear H <;> obtain ⟨H, c20b0, c20b1, c20⟩ := H1
     ·(first | rw [c20b0] | (simp only [i64_w, i32_w]; rw [c20b0]) | skip)
      obtain ⟨t200, A21, H⟩ := oB H
      try dsimp only at H
      have H' := Aside0.mk H
      clear H
      have hnb22 := NB191_199.out
      have hnc22 := NB199_191.out
      obtain ⟨hcz23_0, hcz23_1, hcz23_2, hcz23_3, hfz23_0, hfz23_1, hfz23_2, hfz23_3⟩ := cz4f BK191.out
      obtain ⟨hcz24_0, hcz24_1, hcz24_2, hcz24_3, hfz24_0, hfz24_1, hfz24_2, hfz24_3⟩ := cz4f BK199.out
      go_wp2_with (first | (go_at_call 36; (with_reducible refine (incunableref25_SameExpr.calls kj1 t184 t185 t186 _ _ t187 t192 t193 t194 _ _ t195 t200 _ ?side1 ?side2 ?side3 ?side4 A21.out).mono ?_); (case side1 => refine (Kd.R_reads' (e := 33) (base := w.heap.size) (ok := fun k_ => (((True ∧ k_ ≠ gb191) ∧ some k_ ≠ (.slice Ao19 t195.length co19 : Value).ownBlock) ∧ k_ ≠ gb199)) (n := t187.length) (c := co14) ?_).2.2; exact (rU (Kd.R_mono (Kd.R_far (p := ⟨gb199, 3, none⟩) (Kd.R_far (p := ⟨gb199, 2, none⟩) (Kd.R_far (p := ⟨gb199, 1, none⟩) (Kd.R_far (p := ⟨gb199, 0, none⟩) (Kd.R_mono HO189.out (fun k_ hk => (⟨hk, hk.2⟩ : _ ∧ k_ ≠ gb199))) (fun _ hk => hk.2) (.int .i64 t192)) (fun _ hk => hk.2) (.string t193)) (fun _ hk => hk.2) (.int .i64 t194)) (fun _ hk => hk.2) (.slice Ao19 t195.length co19)) (fun _ h_ => h_.1)))); (case side2 => exact (Kd.R_reads' HO189.out).2.1); (case side3 => refine (Kd.R_reads' (e := 33) (base := w.heap.size) (ok := fun k_ => (((True ∧ some k_ ≠ (.slice Ao14 t187.length co14 : Value).ownBlock) ∧ k_ ≠ gb191) ∧ k_ ≠ gb199)) (n := t195.length) (c := co19) ?_).2.2; exact (rU (Kd.R_mono (Kd.R_far (p := ⟨gb199, 3, none⟩) (Kd.R_far (p := ⟨gb199, 2, none⟩) (Kd.R_far (p := ⟨gb199, 1, none⟩) (Kd.R_far (p := ⟨gb199, 0, none⟩) (Kd.R_mono HO197.out (fun k_ hk => (⟨hk, hk.2⟩ : _ ∧ k_ ≠ gb199))) (fun _ hk => hk.2) (.int .i64 t192)) (fun _ hk => hk.2) (.string t193)) (fun _ hk => hk.2) (.int .i64 t194)) (fun _ hk => hk.2) (.slice Ao19 t195.length co19)) (fun _ h_ => h_.1)))); (case side4 => exact (Kd.R_reads' HO197.out).2.1); rintro e w25 ⟨rfl, hb⟩; have n_ := aC (Kd.R_below (rU (Kd.R_mono (Kd.R_far (p := ⟨gb199, 3, none⟩) (Kd.R_far (p := ⟨gb199, 2, none⟩) (Kd.R_far (p := ⟨gb199, 1, none⟩) (Kd.R_far (p := ⟨gb199, 0, none⟩) (Kd.R_mono HO189.out (fun k_ hk => (⟨hk, hk.2⟩ : _ ∧ k_ ≠ gb199))) (fun _ hk => hk.2) (.int .i64 t192)) (fun _ hk => hk.2) (.string t193)) (fun _ hk => hk.2) (.int .i64 t194)) (fun _ hk => hk.2) (.slice Ao19 t195.length co19)) (fun _ h_ => h_.1))) hb) (aC (Kd.R_below (rU (Kd.R_mono (Kd.R_far (p := ⟨gb199, 3, none⟩) (Kd.R_far (p := ⟨gb199, 2, none⟩) (Kd.R_far (p := ⟨gb199, 1, none⟩) (Kd.R_far (p := ⟨gb199, 0, none⟩) (Kd.R_mono HO197.out (fun k_ hk => (⟨hk, hk.2⟩ : _ ∧ k_ ≠ gb199))) (fun _ hk => hk.2) (.int .i64 t192)) (fun _ hk => hk.2) (.string t193)) (fun _ hk => hk.2) (.int .i64 t194)) (fun _ hk => hk.2) (.slice Ao19 t195.length co19)) (fun _ h_ => h_.1))) hb) (aC (blk_below (g := gb191) (o := .cells #[.int .i64 t184, .string t185, .int .i64 t186, .slice Ao14 t187.length co14] 33 (0, 0)) (by (with_reducible repeat (first | refine blk_drewN ?_ _ | refine blk_drew ?_ | refine blk_alloc ?_ _)); refine blk_far ?_ NB191_199.out _; (with_reducible repeat (first | refine blk_drewN ?_ _ | refine blk_drew ?_ | refine blk_alloc ?_ _)); refine blk_far ?_ NB191_199.out _; (with_reducible repeat (first | refine blk_drewN ?_ _ | refine blk_drew ?_ | refine blk_alloc ?_ _)); refine blk_far ?_ NB191_199.out _; (with_reducible repeat (first | refine blk_drewN ?_ _ | refine blk_drew ?_ | refine blk_alloc ?_ _)); refine blk_far ?_ NB191_199.out _; (with_reducible repeat (first | refine blk_drewN ?_ _ | refine blk_drew ?_ | refine blk_alloc ?_ _)); exact BK191.out) hb) (aC (blk_below (g := gb199) (o := .cells #[.int .i64 t192, .string t193, .int .i64 t194, .slice Ao19 t195.length co19] 33 (0, 0)) (by (with_reducible repeat (first | refine blk_drewN ?_ _ | refine blk_drew ?_ | refine blk_alloc ?_ _)); refine blk_put (cs := #[.int .i64 t192, .string t193, .int .i64 t194, .slice none 0 0]) ?_ 3 _ rfl; (with_reducible repeat (first | refine blk_drewN ?_ _ | refine blk_drew ?_ | refine blk_alloc ?_ _)); refine blk_put (cs := #[.int .i64 t192, .string t193, .int .i64 0, .slice none 0 0]) ?_ 2 _ rfl; (with_reducible repeat (first | refine blk_drewN ?_ _ | refine blk_drew ?_ | refine blk_alloc ?_ _)); refine blk_put (cs := #[.int .i64 t192, .string (⟨#[]⟩ : ByteArray), .int .i64 0, .slice none 0 0]) ?_ 1 _ rfl; (with_reducible repeat (first | refine blk_drewN ?_ _ | refine blk_drew ?_ | refine blk_alloc ?_ _)); refine blk_put (cs := #[.int .i64 0, .string (⟨#[]⟩ : ByteArray), .int .i64 0, .slice none 0 0]) ?_ 0 _ rfl; (with_reducible repeat (first | refine blk_drewN ?_ _ | refine blk_drew ?_ | refine blk_alloc ?_ _)); exact BK199.out) hb) (aE (bs hb))))); clear HO189 HO197 BK191 BK199 HB; obtain ⟨HO189, HO197, BK191, BK199, HB⟩ := n_))
      go_meet
      case rel => exact ⟨_, (!t200), rq, H', ⟨by have := HJ1.out; first | omega | exact Nat.le_refl _⟩, ⟨rU (Kd.R_mono HO189.out (fun _ hk => ⟨hk.1.2, ⟨hk.1.1.2, hk.2⟩⟩))⟩, ⟨rU (Kd.R_mono HO197.out (fun _ hk => ⟨hk.1.1.2, ⟨hk.1.2, hk.2⟩⟩))⟩, ⟨bU BK191.out⟩, ⟨bU BK199.out⟩, ⟨bl⟩⟩
     ·(first | rw [c20b0] | (simp only [i64_w, i32_w]; rw [c20b0]) | skip)
      have H' := Aside0.mk H
      clear H
      go_wp2
      go_meet
      case rel => exact ⟨_, (true), rq, H', ⟨by have := HJ1.out; first | omega | exact Nat.le_refl _⟩, ⟨rU (Kd.R_mono (Kd.R_far (p := ⟨gb199, 3, none⟩) (Kd.R_far (p := ⟨gb199, 2, none⟩) (Kd.R_far (p := ⟨gb199, 1, none⟩) (Kd.R_far (p := ⟨gb199, 0, none⟩) (Kd.R_mono HO189.out (fun k_ hk => (⟨hk, hk.2⟩ : _ ∧ k_ ≠ gb199))) (fun _ hk => hk.2) (.int .i64 t192)) (fun _ hk => hk.2) (.string t193)) (fun _ hk => hk.2) (.int .i64 t194)) (fun _ hk => hk.2) (.slice Ao19 t195.length co19)) (fun _ hk => ⟨hk.1.1.2, ⟨hk.1.1.1.2, hk.1.2⟩⟩))⟩, ⟨rU (Kd.R_mono (Kd.R_far (p := ⟨gb199, 3, none⟩) (Kd.R_far (p := ⟨gb199, 2, none⟩) (Kd.R_far (p := ⟨gb199, 1, none⟩) (Kd.R_far (p := ⟨gb199, 0, none⟩) (Kd.R_mono HO197.out (fun k_ hk => (⟨hk, hk.2⟩ : _ ∧ k_ ≠ gb199))) (fun _ hk => hk.2) (.int .i64 t192)) (fun _ hk => hk.2) (.string t193)) (fun _ hk => hk.2) (.int .i64 t194)) (fun _ hk => hk.2) (.slice Ao19 t195.length co19)) (fun _ hk => ⟨hk.1.1.1.2, ⟨hk.1.1.2, hk.1.2⟩⟩))⟩, ⟨by (with_reducible repeat (first | refine blk_drewN ?_ _ | refine blk_drew ?_ | refine blk_alloc ?_ _)); refine blk_far ?_ NB191_199.out _; (with_reducible repeat (first | refine blk_drewN ?_ _ | refine blk_drew ?_ | refine blk_alloc ?_ _)); refine blk_far ?_ NB191_199.out _; (with_reducible repeat (first | refine blk_drewN ?_ _ | refine blk_drew ?_ | refine blk_alloc ?_ _)); refine blk_far ?_ NB191_199.out _; (with_reducible repeat (first | refine blk_drewN ?_ _ | refine blk_drew ?_ | refine blk_alloc ?_ _)); refine blk_far ?_ NB191_199.out _; (with_reducible repeat (first | refine blk_drewN ?_ _ | refine blk_drew ?_ | refine blk_alloc ?_ _)); exact BK191.out⟩, ⟨by (with_reducible repeat (first | refine blk_drewN ?_ _ | refine blk_drew ?_ | refine blk_alloc ?_ _)); refine blk_put (cs := #[.int .i64 t192, .string t193, .int .i64 t194, .slice none 0 0]) ?_ 3 _ rfl; (with_reducible repeat (first | refine blk_drewN ?_ _ | refine blk_drew ?_ | refine blk_alloc ?_ _)); refine blk_put (cs := #[.int .i64 t192, .string t193, .int .i64 0, .slice none 0 0]) ?_ 2 _ rfl; (with_reducible repeat (first | refine blk_drewN ?_ _ | refine blk_drew ?_ | refine blk_alloc ?_ _)); refine blk_put (cs := #[.int .i64 t192, .string (⟨#[]⟩ : ByteArray), .int .i64 0, .slice none 0 0]) ?_ 1 _ rfl; (with_reducible repeat (first | refine blk_drewN ?_ _ | refine blk_drew ?_ | refine blk_alloc ?_ _)); refine blk_put (cs := #[.int .i64 0, .string (⟨#[]⟩ : ByteArray), .int .i64 0, .slice none 0 0]) ?_ 0 _ rfl; (with_reducible repeat (first | refine blk_drewN ?_ _ | refine blk_drew ?_ | refine blk_alloc ?_ _)); exact BK199.out⟩, ⟨bl⟩⟩
    case rest =>
     clear HC10
     obtain ⟨kq, x41_9, rfl, HA, HJ9, HO_192003, HO_200003, BK191, BK199, HB⟩ := hcut
     cases kq with
     | zero => exact absurd HA.out (by simp [incunablelaw25_NoteParses.j1])
     | succ kj9 =>
      have H := HA.out
      clear HA
      simp only [incunablelaw25_NoteParses.j1] at H
      by_cases c26 : x41_9 = true
      ·subst c26
       rw [if_pos rfl] at H
       exact absurd ((Option.some.inj H).trans HR_.out) (by decide)
      ·replace c26 := Bool.eq_false_iff.mpr c26
       subst c26
       rw [if_neg Bool.false_ne_true] at H
       rcases iE H with H1 | H1 <;> clear H <;> obtain ⟨H, c27b0, c27b1, c27⟩ := H1
       ·obtain ⟨⟨t202, t203⟩, A28, H⟩ := oB H
        try dsimp only at H
        obtain ⟨⟨t204, t205, t206, t207, t210⟩, A29, H⟩ := oB H
        try dsimp only at H
        rcases iE H with H1 | H1 <;> clear H <;> obtain ⟨H, c30b0, c30b1, c30⟩ := H1
        ·rcases iE H with H1 | H1 <;> clear H <;> obtain ⟨H, c31b0, c31b1, c31⟩ := H1
         ·obtain ⟨t212, A32, H⟩ := oB H
          try dsimp only at H
          by_cases c33 : t212 = true
          ·subst c33
           rw [if_pos rfl] at H
           obtain ⟨t213, A34, H⟩ := oB H
           try dsimp only at H
           obtain rfl := Option.some.inj H
           have hnb35 := NB191_199.out
           have hnc35 := NB199_191.out
           obtain ⟨hcz36_0, hcz36_1, hcz36_2, hcz36_3, hfz36_0, hfz36_1, hfz36_2, hfz36_3⟩ := cz4f BK191.out
           go_wp2_with (first | (refine gF 31 47 Tryd.func31 #[.agg #[.int .i64 t184, .string t185, .int .i64 t186, .slice Ao14 t187.length co14]] rfl rfl ?_; (with_reducible refine (note_Format.calls kj9 t184 t185 t186 _ _ t187 t202 t203 _ (TIs.on HTI) ?side1 ?side2 A28.out).mono ?_); (case side1 => exact cU (Kd.R_reads' HO_192003.out).2.2); (case side2 => exact (Kd.R_reads' HO_192003.out).2.1); rintro e w37 ⟨rfl, hb⟩; refine ⟨_, rfl, ?_⟩; have n_ := aC (Kd.R_below (rU HO_192003.out) hb) (aC (Kd.R_below (rU HO_200003.out) hb) (aC (blk_below (bU BK191.out) hb) (aC (blk_below (bU BK199.out) hb) (aE (bs hb))))); clear HO_192003 HO_200003 BK191 BK199 HB; obtain ⟨HO_192003, HO_200003, BK191, BK199, HB⟩ := n_) | (refine gF 35 52 Tryd.func35 #[.string t202] rfl rfl ?_; (with_reducible refine (note_Parse.calls kj9 t202 t204 t205 t206 t207 t210 _ (TIs.on HTI) A29.out).mono ?_); rintro e w38 ⟨v208, rfl, ho0, hb⟩; refine ⟨_, rfl, ?_⟩; have n_ := aC (Kd.R_elder' (rU HO_192003.out) (Kd.R_base ho0) hb) (aC (Kd.R_elder' (rU HO_200003.out) (Kd.R_base ho0) hb) (aC (Kd.R_lower (Kd.R_newB (Kd.R_newB (Kd.R_new' (Kd.R_new' ho0 (Kd.R_lt (rU HO_192003.out))) (Kd.R_lt (rU HO_200003.out))) (bU BK191.out)) (bU BK199.out)) bz) (aC (blk_below (bU BK191.out) hb) (aC (blk_below (bU BK199.out) hb) (aE (bs hb)))))); clear HO_192003 HO_200003 BK191 BK199 HB; obtain ⟨HO_192003, HO_200003, HO209, BK191, BK199, HB⟩ := n_) | ((with_reducible refine gd 8 rfl ?_); (try (refine gate_guard (by rfl) ?_; dsimp only)); refine bx 8 #[.int .i64 0, .string (⟨#[]⟩ : ByteArray), .int .i64 0, .slice none 0 0] 33 rfl rfl ?_; intro gb211 hg w39 hbox hb; have n_ := aC (Kd.R_below (Kd.R_elderB (rU HO_192003.out) gb211 (Nat.le_of_eq hg.symm)) hb) (aC (Kd.R_below (Kd.R_elderB (rU HO_200003.out) gb211 (Nat.le_of_eq hg.symm)) hb) (aC (Kd.R_below (Kd.R_elderB (rU HO209.out) gb211 (Nat.le_of_eq hg.symm)) hb) (aC (blk_below (bU BK191.out) hb) (aC (blk_below (bU BK199.out) hb) (aC (bs hb) (aC hbox (aC (gz hg) (aC (gz hg) (aC (gn hg (bU BK191.out)) (aC (gm hg (bU BK191.out)) (aC (gn hg (bU BK199.out)) (aE (gm hg (bU BK199.out)))))))))))))); clear HO_192003 HO_200003 HO209 BK191 BK199 HB; obtain ⟨HO_192003, HO_200003, HO209, BK191, BK199, HB, BK211, GW211, GE211, NB191_211, NB211_191, NB199_211, NB211_199⟩ := n_; clear hb hbox hg; have hnb40 := NB211_191.out; have hnc40 := NB191_211.out; have hnb41 := NB211_199.out; have hnc41 := NB199_211.out; obtain ⟨hcz42_0, hcz42_1, hcz42_2, hcz42_3, hfz42_0, hfz42_1, hfz42_2, hfz42_3⟩ := cz4f BK211.out; obtain ⟨Ao43, co43, eo43⟩ := Kd.R_slice HO209.out; subst eo43; obtain ⟨hcz44_0, hcz44_1, hcz44_2, hcz44_3, hfz44_0, hfz44_1, hfz44_2, hfz44_3⟩ := cz4f BK191.out) | (go_at_call 36; (with_reducible refine (incunableref25_SameExpr.calls kj9 t204 t205 t206 _ _ t207 t184 t185 t186 _ _ t187 true _ ?side1 ?side2 ?side3 ?side4 A32.out).mono ?_); (case side1 => refine (Kd.R_reads' (e := 33) (base := w.heap.size) (ok := fun k_ => (((((True ∧ some k_ ≠ (.slice Ao14 t187.length co14 : Value).ownBlock) ∧ some k_ ≠ (.slice Ao19 t195.length co19 : Value).ownBlock) ∧ k_ ≠ gb191) ∧ k_ ≠ gb199) ∧ k_ ≠ gb211)) (n := t207.length) (c := co43) ?_).2.2; exact (rU (Kd.R_mono (Kd.R_far (p := ⟨gb211, 3, none⟩) (Kd.R_far (p := ⟨gb211, 2, none⟩) (Kd.R_far (p := ⟨gb211, 1, none⟩) (Kd.R_far (p := ⟨gb211, 0, none⟩) (Kd.R_mono HO209.out (fun k_ hk => (⟨hk, hk.2⟩ : _ ∧ k_ ≠ gb211))) (fun _ hk => hk.2) (.int .i64 t204)) (fun _ hk => hk.2) (.string t205)) (fun _ hk => hk.2) (.int .i64 t206)) (fun _ hk => hk.2) (.slice Ao43 t207.length co43)) (fun _ h_ => h_.1)))); (case side2 => exact (Kd.R_reads' HO209.out).2.1); (case side3 => refine (Kd.R_reads' (e := 33) (base := w.heap.size) (ok := fun k_ => (((some k_ ≠ (.slice Ao19 t195.length co19 : Value).ownBlock ∧ (k_ ≠ gb191 ∧ k_ ≠ gb199)) ∧ some k_ ≠ (.slice Ao43 t207.length co43 : Value).ownBlock) ∧ k_ ≠ gb211)) (n := t187.length) (c := co14) ?_).2.2; exact (rU (Kd.R_mono (Kd.R_far (p := ⟨gb211, 3, none⟩) (Kd.R_far (p := ⟨gb211, 2, none⟩) (Kd.R_far (p := ⟨gb211, 1, none⟩) (Kd.R_far (p := ⟨gb211, 0, none⟩) (Kd.R_mono HO_192003.out (fun k_ hk => (⟨hk, hk.2⟩ : _ ∧ k_ ≠ gb211))) (fun _ hk => hk.2) (.int .i64 t204)) (fun _ hk => hk.2) (.string t205)) (fun _ hk => hk.2) (.int .i64 t206)) (fun _ hk => hk.2) (.slice Ao43 t207.length co43)) (fun _ h_ => h_.1)))); (case side4 => exact (Kd.R_reads' HO_192003.out).2.1); rintro e w45 ⟨rfl, hb⟩; have n_ := aC (Kd.R_below (rU (Kd.R_mono (Kd.R_far (p := ⟨gb211, 3, none⟩) (Kd.R_far (p := ⟨gb211, 2, none⟩) (Kd.R_far (p := ⟨gb211, 1, none⟩) (Kd.R_far (p := ⟨gb211, 0, none⟩) (Kd.R_mono HO_192003.out (fun k_ hk => (⟨hk, hk.2⟩ : _ ∧ k_ ≠ gb211))) (fun _ hk => hk.2) (.int .i64 t204)) (fun _ hk => hk.2) (.string t205)) (fun _ hk => hk.2) (.int .i64 t206)) (fun _ hk => hk.2) (.slice Ao43 t207.length co43)) (fun _ h_ => h_.1))) hb) (aC (Kd.R_below (rU (Kd.R_mono (Kd.R_far (p := ⟨gb211, 3, none⟩) (Kd.R_far (p := ⟨gb211, 2, none⟩) (Kd.R_far (p := ⟨gb211, 1, none⟩) (Kd.R_far (p := ⟨gb211, 0, none⟩) (Kd.R_mono HO_200003.out (fun k_ hk => (⟨hk, hk.2⟩ : _ ∧ k_ ≠ gb211))) (fun _ hk => hk.2) (.int .i64 t204)) (fun _ hk => hk.2) (.string t205)) (fun _ hk => hk.2) (.int .i64 t206)) (fun _ hk => hk.2) (.slice Ao43 t207.length co43)) (fun _ h_ => h_.1))) hb) (aC (Kd.R_below (rU (Kd.R_mono (Kd.R_far (p := ⟨gb211, 3, none⟩) (Kd.R_far (p := ⟨gb211, 2, none⟩) (Kd.R_far (p := ⟨gb211, 1, none⟩) (Kd.R_far (p := ⟨gb211, 0, none⟩) (Kd.R_mono HO209.out (fun k_ hk => (⟨hk, hk.2⟩ : _ ∧ k_ ≠ gb211))) (fun _ hk => hk.2) (.int .i64 t204)) (fun _ hk => hk.2) (.string t205)) (fun _ hk => hk.2) (.int .i64 t206)) (fun _ hk => hk.2) (.slice Ao43 t207.length co43)) (fun _ h_ => h_.1))) hb) (aC (blk_below (g := gb191) (o := .cells #[.int .i64 t184, .string t185, .int .i64 t186, .slice Ao14 t187.length co14] 33 (0, 0)) (by (with_reducible repeat (first | refine blk_drewN ?_ _ | refine blk_drew ?_ | refine blk_alloc ?_ _)); refine blk_far ?_ NB191_211.out _; (with_reducible repeat (first | refine blk_drewN ?_ _ | refine blk_drew ?_ | refine blk_alloc ?_ _)); refine blk_far ?_ NB191_211.out _; (with_reducible repeat (first | refine blk_drewN ?_ _ | refine blk_drew ?_ | refine blk_alloc ?_ _)); refine blk_far ?_ NB191_211.out _; (with_reducible repeat (first | refine blk_drewN ?_ _ | refine blk_drew ?_ | refine blk_alloc ?_ _)); refine blk_far ?_ NB191_211.out _; (with_reducible repeat (first | refine blk_drewN ?_ _ | refine blk_drew ?_ | refine blk_alloc ?_ _)); exact BK191.out) hb) (aC (blk_below (g := gb199) (o := .cells #[.int .i64 t192, .string t193, .int .i64 t194, .slice Ao19 t195.length co19] 33 (0, 0)) (by (with_reducible repeat (first | refine blk_drewN ?_ _ | refine blk_drew ?_ | refine blk_alloc ?_ _)); refine blk_far ?_ NB199_211.out _; (with_reducible repeat (first | refine blk_drewN ?_ _ | refine blk_drew ?_ | refine blk_alloc ?_ _)); refine blk_far ?_ NB199_211.out _; (with_reducible repeat (first | refine blk_drewN ?_ _ | refine blk_drew ?_ | refine blk_alloc ?_ _)); refine blk_far ?_ NB199_211.out _; (with_reducible repeat (first | refine blk_drewN ?_ _ | refine blk_drew ?_ | refine blk_alloc ?_ _)); refine blk_far ?_ NB199_211.out _; (with_reducible repeat (first | refine blk_drewN ?_ _ | refine blk_drew ?_ | refine blk_alloc ?_ _)); exact BK199.out) hb) (aC (blk_below (g := gb211) (o := .cells #[.int .i64 t204, .string t205, .int .i64 t206, .slice Ao43 t207.length co43] 33 (0, 0)) (by (with_reducible repeat (first | refine blk_drewN ?_ _ | refine blk_drew ?_ | refine blk_alloc ?_ _)); refine blk_put (cs := #[.int .i64 t204, .string t205, .int .i64 t206, .slice none 0 0]) ?_ 3 _ rfl; (with_reducible repeat (first | refine blk_drewN ?_ _ | refine blk_drew ?_ | refine blk_alloc ?_ _)); refine blk_put (cs := #[.int .i64 t204, .string t205, .int .i64 0, .slice none 0 0]) ?_ 2 _ rfl; (with_reducible repeat (first | refine blk_drewN ?_ _ | refine blk_drew ?_ | refine blk_alloc ?_ _)); refine blk_put (cs := #[.int .i64 t204, .string (⟨#[]⟩ : ByteArray), .int .i64 0, .slice none 0 0]) ?_ 1 _ rfl; (with_reducible repeat (first | refine blk_drewN ?_ _ | refine blk_drew ?_ | refine blk_alloc ?_ _)); refine blk_put (cs := #[.int .i64 0, .string (⟨#[]⟩ : ByteArray), .int .i64 0, .slice none 0 0]) ?_ 0 _ rfl; (with_reducible repeat (first | refine blk_drewN ?_ _ | refine blk_drew ?_ | refine blk_alloc ?_ _)); exact BK211.out) hb) (aE (bs hb))))))); clear HO_192003 HO_200003 HO209 BK191 BK199 BK211 HB; obtain ⟨HO_192003, HO_200003, HO209, BK191, BK199, BK211, HB⟩ := n_) | (go_at_call 11; (with_reducible refine (incunablelaw25_Sane.calls kj9  t213 _ (TIs.on HTI) A34.out).mono ?_); rintro e w46 ⟨rfl, hb⟩; have n_ := aC (Kd.R_below (rU HO_192003.out) hb) (aC (Kd.R_below (rU HO_200003.out) hb) (aC (Kd.R_below (rU HO209.out) hb) (aC (blk_below (bU BK191.out) hb) (aC (blk_below (bU BK199.out) hb) (aC (blk_below (bU BK211.out) hb) (aE (bs hb))))))); clear HO_192003 HO_200003 HO209 BK191 BK199 BK211 HB; obtain ⟨HO_192003, HO_200003, HO209, BK191, BK199, BK211, HB⟩ := n_))
           go_ret
           exact ⟨re, bl⟩
          ·replace c33 := Bool.eq_false_iff.mpr c33
           subst c33
           rw [if_neg Bool.false_ne_true] at H
           exact absurd ((Option.some.inj H).trans HR_.out) (by decide)
         ·exact absurd ((Option.some.inj H).trans HR_.out) (by decide)
        ·exact absurd ((Option.some.inj H).trans HR_.out) (by decide)
       ·obtain ⟨t201, A47, H⟩ := oB H
        try dsimp only at H
        obtain rfl := Option.some.inj H
        go_wp2_with (first | (refine gF 11 44 Tryd.func11 #[] rfl rfl ?_; (with_reducible refine (incunablelaw25_Sane.calls kj9  t201 _ (TIs.on HTI) A47.out).mono ?_); rintro e w48 ⟨rfl, hb⟩; refine ⟨_, rfl, ?_⟩; have n_ := aC (Kd.R_below (rU HO_192003.out) hb) (aC (Kd.R_below (rU HO_200003.out) hb) (aC (blk_below (bU BK191.out) hb) (aC (blk_below (bU BK199.out) hb) (aE (bs hb))))); clear HO_192003 HO_200003 BK191 BK199 HB; obtain ⟨HO_192003, HO_200003, BK191, BK199, HB⟩ := n_))
        go_ret
        exact ⟨re, bl⟩
def incunablelaw25_NoteParses.Pure : Prop := ∀ (a0 : ByteArray), (a0.size ≤ 140737488351232) → ∃ k, incunablelaw25_NoteParses.f k a0 = some true
theorem incunablelaw25_NoteParses.walk (P : incunablelaw25_NoteParses.Pure) (a0 : ByteArray) (w : World) (hT0 : TIs w)  (g0 : a0.size ≤ 140737488351232) :
  Calls Tryd.prog 9 #[.string a0] w fun e w' => e = .returned (.bool true) ∧ Below w.heap.size w w' := by
 obtain ⟨k, h⟩ := P a0 g0
 refine (incunablelaw25_NoteParses.calls k a0 true w hT0 h rfl).mono ?_
 rintro e w' ⟨rfl, hd⟩
 exact ⟨rfl, hd⟩
end Go.Proofs.YtacdchogjpeffaaDoor.PNoteParses
