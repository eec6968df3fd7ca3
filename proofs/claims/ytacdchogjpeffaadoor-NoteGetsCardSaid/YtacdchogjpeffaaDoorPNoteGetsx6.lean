-- printed (wip/tools/myprint.py)
import Derived.Test.YtacdchogjpeffaaDoorPNoteGetsx0
import Derived.Test.YtacdchogjpeffaaDoorPNoteGetsx4
import Derived.Test.YtacdchogjpeffaaDoorPNoteGetsx5
namespace Go.Proofs.YtacdchogjpeffaaDoor.PNoteGets
open Go.RowKit Go.Proofs.YtacdchogjpeffaaDoorW.PrintWords Go.Proofs.YtacdchogjpeffaaDoorW.PrintLast Go.Proofs.YtacdchogjpeffaaDoorW.PrintMore
attribute [local go_sem] max2_int min2_int max_two min_two max_three min_three max_four min_four
set_option linter.unusedVariables false
set_option linter.unusedSimpArgs false
def Rd (g : Nat) (A : Option Addr) (c : Nat) (l : List Int) (pos many err : Int) (W : World) : Prop := W.heap[g]? = some (.cells #[.slice A l.length c, .int .i64 pos, .int .i64 many, .int .i64 err] 79 (0, 0))
def St (w0 w : World) (g : Nat) (A : Option Addr) (c : Nat) (l : List Int) (pos many err : Int) (W : World) : Prop := Rd g A c l pos many err W ∧ KeepBut w W g none ∧ Below w0.heap.size w0 W ∧ w0.heap.size ≤ g
theorem St.err {w0 w W : World} {g : Nat} {A : Option Addr} {c : Nat} {l : List Int} {pos many err : Int} (h : St w0 w g A c l pos many err W) (x : Int) : St w0 w g A c l pos many x (W.setCell ⟨g, 3, none⟩ (.int .i64 x)) :=
 ⟨blk_put (cs := #[.slice A l.length c, .int .i64 pos, .int .i64 many, .int .i64 err]) h.1 3 _ rfl, h.2.1.set_ 3 _, below_set h.2.2.1 h.2.2.2, h.2.2.2⟩
theorem St.many {w0 w W : World} {g : Nat} {A : Option Addr} {c : Nat} {l : List Int} {pos many err : Int} (h : St w0 w g A c l pos many err W) (x : Int) : St w0 w g A c l pos x err (W.setCell ⟨g, 2, none⟩ (.int .i64 x)) :=
 ⟨blk_put (cs := #[.slice A l.length c, .int .i64 pos, .int .i64 many, .int .i64 err]) h.1 2 _ rfl, h.2.1.set_ 2 _, below_set h.2.2.1 h.2.2.2, h.2.2.2⟩
theorem St.pos {w0 w W : World} {g : Nat} {A : Option Addr} {c : Nat} {l : List Int} {pos many err : Int} (h : St w0 w g A c l pos many err W) (x : Int) : St w0 w g A c l x many err (W.setCell ⟨g, 1, none⟩ (.int .i64 x)) :=
 ⟨blk_put (cs := #[.slice A l.length c, .int .i64 pos, .int .i64 many, .int .i64 err]) h.1 1 _ rfl, h.2.1.set_ 1 _, below_set h.2.2.1 h.2.2.2, h.2.2.2⟩
theorem St.below {w0 w W W1 : World} {g : Nat} {A : Option Addr} {c : Nat} {l : List Int} {pos many err : Int} (h : St w0 w g A c l pos many err W) (hb : Below W.heap.size W W1) : St w0 w g A c l pos many err W1 :=
 ⟨blk_below h.1 hb, h.2.1.trans (KeepBut.of_below hb g none) (.inl rfl), below_step h.2.2.1 hb, h.2.2.2⟩
theorem St.call {w0 w W W1 : World} {g : Nat} {A : Option Addr} {c : Nat} {l : List Int} {pos many err pos1 many1 err1 : Int} (h : St w0 w g A c l pos many err W) (h1 : St w0 W g A c l pos1 many1 err1 W1) : St w0 w g A c l pos1 many1 err1 W1 :=
 ⟨h1.1, h.2.1.trans h1.2.1 (.inl rfl), h1.2.2.1, h.2.2.2⟩
def note_reader_size.f (k : Nat) (l : List Int) (pos err low high : Int) : Option (Int × Int × Int) := if err = 0 then ((bits_GetSize.f k l pos).bind fun t => if t.2.2 = 0 then (if t.1 < low then some (0, pos, 3) else (if t.1 > high then some (0, pos, 3) else some (t.1, t.2.1, 0))) else some (0, pos, t.2.2)) else some (0, pos, err)
theorem note_reader_size.mono : ∀ a0 a1 a2 a3 a4 k, LeO (note_reader_size.f k a0 a1 a2 a3 a4) (note_reader_size.f (k + 1) a0 a1 a2 a3 a4) := by
 intro a0 a1 a2 a3 a4 k
 unfold note_reader_size.f
 exact LeO.ite (LeO.bind (bits_GetSize.mono _ _ k) (fun _ => LeO.refl _)) (LeO.refl _)
def note_reader_size.T3 : Bool × List (List Nat × List Nat) := (true, [([], []), ([0], [0]), ([1], [1]), ([2], [2]), ([], []), ([4], [4]), ([5], [5]), ([6], [6]), ([3, 7], [3, 7]), ([8], [8]), ([9], [9]), ([9], [9]), ([9], [9]), ([10, 8, 0, 1, 2, 3, 4, 5, 6, 7, 8, 9, 10], [10]), ([11, 13, 0, 1, 2, 3, 4, 5, 6, 7, 8, 9, 10, 11, 13], [11]), ([12, 14, 0, 1, 2, 3, 4, 5, 6, 7, 8, 9, 10, 11, 12, 13, 14], [12])])
def note_reader_size.B3 : List Nat := [0, 1, 3, 7, 0, 16, 48, 112, 255, 511, 1023, 1023, 1023, 2047, 12287, 32767]
theorem note_reader_size.tab3 : rtab .any (opsOf Tryd.f74 3) = note_reader_size.T3 := by kernel_rfl
theorem note_reader_size.bits3 : waitsOk note_reader_size.T3.2 note_reader_size.B3 = true := by kernel_rfl
set_option maxHeartbeats 8000000 in
set_option maxRecDepth 100000 in
theorem note_reader_size.calls (k : Nat) (g : Nat) (A : Option Addr) (c : Nat) (l : List Int) (pos many err low high : Int) (r1 r2 r3 : Int) (w0 w : World) (hI : Rd g A c l pos many err w) (hB : Below w0.heap.size w0 w) (hg : w0.heap.size ≤ g) (hr : Kd.C (Kd.int .u8) w0 A l.length l) (hc : l.length ≤ c) (h : note_reader_size.f k l pos err low high = some (r1, r2, r3)) :
  Calls Tryd.prog 74 #[.pointer (some ⟨g, 0, none⟩), .int .i64 low, .int .i64 high] w fun e w' => e = .returned (.int .i64 r1) ∧ St w0 w g A c l r2 many r3 w' := by
 have hu := Tryd.underlying79
 unfold note_reader_size.f at h
 have HS : Aside0 (St w0 w g A c l pos many err w) := ⟨hI, KeepBut.refl _ _ _, hB, hg⟩
 have HR := Aside0.mk hr
 have HC := Aside0.mk hc
 obtain ⟨z0, z1, z2, z3, f0, f1, f2, f3⟩ := cz4f hI
 clear hI hB hg hr hc
 by_cases ce : err = 0
 ·rw [if_pos ce] at h
  subst ce
  obtain ⟨⟨n, nx, e⟩, A1, h⟩ := oB h
  have H := Aside0.mk h
  clear h
  go_enter Tryd.func74, Tryd.ntmps74
  go_wp2
  refine st 16 (fun w' => w'.cell? ⟨g, 0, none⟩ = some (.slice A l.length c) ∧ w'.cell? ⟨g, 1, none⟩ = some (.int .i64 pos)) [] (bv 16 0) note_reader_size.tab3 note_reader_size.bits3 ⟨z0, z1⟩ (fun hHeld HT_ HW_ => ?_)
  have n_ := aE (HS.out.below (below_drew1 (Below.refl _ _)))
  clear HS z0 z1 z2 z3 f0 f1 f2 f3
  have HS := n_
  clear n_
  generalize w.drew = w9 at HS hHeld ⊢
  refine pu 0 16 (bv 16 1) HT_ rfl rfl ?_
  refine pu 1 17 (bv 16 3) HT_ rfl rfl ?_
  refine pu 2 18 (bv 16 7) HT_ rfl rfl ?_
  refine pu 4 20 (bv 16 23) HT_ rfl rfl ?_
  refine pu 5 21 (bv 16 55) HT_ rfl rfl ?_
  refine pu 6 22 (bv 16 119) HT_ rfl rfl ?_
  refine tk 3 19 (bv 16 127) HT_ HW_ hHeld rfl rfl (by rintro w' ⟨s0, s1⟩; exact yl) ?_
  refine tk 7 23 (bv 16 255) HT_ HW_ hHeld rfl rfl (by rintro w' ⟨s0, s1⟩; exact yl) ?_
  refine one_ (i := 8) (N := some 24) (bv 16 511) rfl rfl (one_of HT_.out (by kernel_rfl)) (by decide) (fun K hK => ?_)
  refine gK Tryd.func92 rfl #[.slice A l.length c, .int .i64 pos] rfl rfl ?_
  refine (bits_GetSize.calls k A c l pos n nx e _ (Kd.C_below HR.out HS.out.2.2.1) HC.out A1.out).mono ?_
  rintro e_ w10 ⟨rfl, hd⟩
  refine ⟨_, rfl, ?_⟩
  have n_ := aE (HS.out.below hd.below)
  clear HS hd
  have HS := n_
  clear n_
  obtain ⟨z0, z1, z2, z3, f0, f1, f2, f3⟩ := cz4f HS.out.1
  refine hK.out _ _ ⟨z0, z1⟩ (fun hHeld => ?_)
  clear hK K
  refine nm (some 24) ?_
  refine pu 9 15 (bv 16 1023) HT_ rfl rfl ?_
  refine pu 10 25 (bv 16 2047) HT_ rfl rfl ?_
  refine pu 11 26 (bv 16 4095) HT_ rfl rfl ?_
  refine pu 12 27 (bv 16 8191) HT_ rfl rfl ?_
  refine pu 13 7 (bv 16 16383) HT_ rfl rfl ?_
  refine pu 14 8 (bv 16 32767) HT_ rfl rfl ?_
  refine pu 15 9 (bv 16 65535) HT_ rfl rfl ?_
  refine done_ (done_of HT_.out (by kernel_rfl)) ?_
  clear hHeld HT_ HW_
  have h := H.out
  clear H
  by_cases c1 : e = 0
  ·rw [if_pos c1] at h
   subst c1
   by_cases c2 : n < low
   ·rw [if_pos c2] at h
    have b2 := decide_eq_true c2
    clear c2
    simp only [Option.some.injEq, Prod.mk.injEq] at h
    obtain ⟨rfl, rfl, rfl⟩ := h
    go_wp2
    go_ret
    exact ⟨re, HS.out.err 3⟩
   ·rw [if_neg c2] at h
    have b2 := decide_eq_false c2
    clear c2
    by_cases c3 : n > high
    ·rw [if_pos c3] at h
     have c3' : high < n := c3
     have b3 := decide_eq_true c3'
     clear c3 c3'
     simp only [Option.some.injEq, Prod.mk.injEq] at h
     obtain ⟨rfl, rfl, rfl⟩ := h
     go_wp2
     go_ret
     exact ⟨re, HS.out.err 3⟩
    ·rw [if_neg c3] at h
     have c3' : ¬ high < n := c3
     have b3 := decide_eq_false c3'
     clear c3 c3'
     simp only [Option.some.injEq, Prod.mk.injEq] at h
     obtain ⟨rfl, rfl, rfl⟩ := h
     go_wp2
     go_ret
     exact ⟨re, (HS.out.err 0).pos nx⟩
  ·rw [if_neg c1] at h
   have b1 : (e == 0) = false := beq_eq_false_iff_ne.mpr c1
   have b1' : (e != 0) = true := bne_iff_ne.mpr c1
   have c1' : e ≠ 0 := c1
   clear c1
   simp only [Option.some.injEq, Prod.mk.injEq] at h
   obtain ⟨rfl, rfl, rfl⟩ := h
   go_wp2
   go_ret
   exact ⟨re, HS.out.err _⟩
 ·rw [if_neg ce] at h
  have b1 : (err == 0) = false := beq_eq_false_iff_ne.mpr ce
  have b1' : (err != 0) = true := bne_iff_ne.mpr ce
  clear ce
  simp only [Option.some.injEq, Prod.mk.injEq] at h
  obtain ⟨rfl, rfl, rfl⟩ := h
  go_enter Tryd.func74, Tryd.ntmps74
  go_wp2
  go_ret
  exact ⟨re, HS.out⟩
def note_reader_title.f (k : Nat) (l : List Int) (pos err : Int) : Option (ByteArray × Int × Int) := (note_reader_size.f k l pos err 0 200).bind fun t => if t.2.2 = 0 then (if wrap64 ((l.length : Int) - t.2.1) < t.1 then some ((⟨#[]⟩ : ByteArray), t.2.1, 6) else (if 0 ≤ t.2.1 ∧ 0 ≤ t.1 ∧ t.2.1 + t.1 ≤ (l.length : Int) ∧ (l.length : Int) ≤ 9223372036854775807 then some (strOfNums ((l.take (t.2.1 + t.1).toNat).drop t.2.1.toNat), t.2.1 + t.1, 0) else none)) else some ((⟨#[]⟩ : ByteArray), t.2.1, t.2.2)
theorem note_reader_title.mono : ∀ a0 a1 a2 k, LeO (note_reader_title.f k a0 a1 a2) (note_reader_title.f (k + 1) a0 a1 a2) := by
 intro a0 a1 a2 k
 unfold note_reader_title.f
 exact LeO.bind (note_reader_size.mono _ _ _ _ _ k) (fun _ => LeO.refl _)
def note_reader_title.T2 : Bool × List (List Nat × List Nat) := (true, [([], []), ([0], [0]), ([1], [1]), ([2], [2]), ([3], [3]), ([4], [4]), ([5], [5]), ([6, 5], [5, 6]), ([7, 5], [5, 7]), ([8, 5], [5, 8]), ([9, 5], [5, 9]), ([5], [5]), ([11, 5], [5, 11]), ([12, 5], [5, 12]), ([13, 5], [5, 13]), ([10, 14, 5], [5, 10, 14]), ([5], [5]), ([15, 16, 5], [5, 15, 16]), ([5, 17], [5, 17])])
def note_reader_title.B2 : List Nat := [0, 1, 3, 7, 15, 31, 63, 127, 255, 511, 1023, 63, 2111, 6207, 14399, 32767, 63, 131071, 262143]
def note_reader_title.T7 : Bool × List (List Nat × List Nat) := (true, [([], []), ([0], [0]), ([1], [1]), ([2], [2]), ([], []), ([4], [4]), ([5], [5]), ([6], [6]), ([], []), ([7, 8], [7, 8]), ([], []), ([10], [10]), ([11], [11]), ([12], [12]), ([3, 9, 13], [3, 9, 13]), ([14], [14]), ([15, 0, 1, 2, 3, 4, 5, 6, 7, 8, 9, 10, 11, 12, 13, 14, 15], [15])])
def note_reader_title.B7 : List Nat := [0, 1, 3, 7, 0, 16, 48, 112, 0, 496, 0, 1024, 3072, 7168, 16383, 32767, 65535]
theorem note_reader_title.tab2 : rtab .any (opsOf Tryd.f75 2) = note_reader_title.T2 := by kernel_rfl
theorem note_reader_title.bits2 : waitsOk note_reader_title.T2.2 note_reader_title.B2 = true := by kernel_rfl
theorem note_reader_title.tab7 : rtab .any (opsOf Tryd.f75 7) = note_reader_title.T7 := by kernel_rfl
theorem note_reader_title.bits7 : waitsOk note_reader_title.T7.2 note_reader_title.B7 = true := by kernel_rfl
theorem conv_str {o : Oper} {a : Act} {W : World} {ta tb e : TypeId} {x : Operand} {A : Option Addr} {n c : Nat} {xs : List Int} (ho : o.op = .convert ta tb x) (hx : a.eval x = .slice A n c)
  (h1 : Tryd.prog.underlying ta = some (.slice e)) (h2 : Tryd.prog.underlying e = some (.int .u8)) (h3 : Tryd.prog.underlying tb = some .string) (h : (Kd.int .u8).C W A n xs) :
  (execOp a.eval o).run Tryd.prog W = .ok (.value (.string (strOfNums xs))) W := by
 have hr := Kd.C_string (P := Tryd.prog) (c := c) h1 h2 h3 h
 unfold execOp
 simp [ho, hx, hr]
set_option maxHeartbeats 8000000 in
set_option maxRecDepth 100000 in
theorem note_reader_title.calls (k : Nat) (g : Nat) (A : Option Addr) (c : Nat) (l : List Int) (pos many err : Int) (r1 : ByteArray) (r2 r3 : Int) (w0 w : World) (hI : Rd g A c l pos many err w) (hB : Below w0.heap.size w0 w) (hg : w0.heap.size ≤ g) (hr : Kd.C (Kd.int .u8) w0 A l.length l) (hc : l.length ≤ c) (h : note_reader_title.f k l pos err = some (r1, r2, r3)) :
  Calls Tryd.prog 75 #[.pointer (some ⟨g, 0, none⟩)] w fun e w' => e = .returned (.string r1) ∧ St w0 w g A c l r2 many r3 w' := by
 have hu := Tryd.underlying79
 unfold note_reader_title.f at h
 obtain ⟨⟨n, nx, e⟩, A1, h⟩ := oB h
 have H := Aside0.mk h
 have HI := Aside0.mk hI
 have HB := Aside0.mk hB
 have HG := Aside0.mk hg
 have HR := Aside0.mk hr
 have HC := Aside0.mk hc
 clear hI hB hg hr hc h
 go_enter Tryd.func75, Tryd.ntmps75
 go_wp2_with (first | (refine gF 74 5 Tryd.func74 #[.pointer (some ⟨g, 0, none⟩), .int .i64 0, .int .i64 200] rfl rfl ?_; refine (note_reader_size.calls k g A c l pos many err 0 200 n nx e w0 _ HI.out HB.out HG.out HR.out HC.out A1.out).mono ?_; rintro e_ w2 ⟨rfl, hs⟩; refine ⟨_, rfl, ?_⟩; have HS := Aside0.mk hs; clear hs))
 clear HI HB
 have n_ := aE (HS.out.below (below_drew1 (Below.refl _ _)))
 clear HS
 have HS := n_
 clear n_
 obtain ⟨z0, z1, z2, z3⟩ := cz4 HS.out.1
 refine st 19 (fun w' => w'.cell? ⟨g, 0, none⟩ = some (.slice A l.length c) ∧ w'.cell? ⟨g, 1, none⟩ = some (.int .i64 nx) ∧ w'.cell? ⟨g, 3, none⟩ = some (.int .i64 e)) [] (bv 19 0) note_reader_title.tab2 note_reader_title.bits2 ⟨z0, z1, z3⟩ (fun hHeld HT_ HW_ => ?_)
 clear z0 z1 z2 z3
 generalize w2.drew = w9 at HS hHeld ⊢
 refine pu 0 6 (bv 19 1) HT_ rfl rfl ?_
 refine pu 1 7 (bv 19 3) HT_ rfl rfl ?_
 refine pu 2 8 (bv 19 7) HT_ rfl rfl ?_
 refine tk 3 9 (bv 19 15) HT_ HW_ hHeld rfl rfl (by rintro w' ⟨s0, s1, s3⟩; exact yl) ?_
 have h := H.out
 clear H
 by_cases c1 : e = 0
 ·rw [if_pos c1] at h
  subst c1
  refine pu 4 10 (bv 19 31) HT_ rfl rfl ?_
  refine pu 5 11 (bv 19 63) HT_ rfl rfl ?_
  refine pu 6 12 (bv 19 127) HT_ rfl rfl ?_
  refine pu 7 13 (bv 19 255) HT_ rfl rfl ?_
  refine pu 8 14 (bv 19 511) HT_ rfl rfl ?_
  refine pu 11 17 (bv 19 2559) HT_ rfl rfl ?_
  refine pu 12 18 (bv 19 6655) HT_ rfl rfl ?_
  refine pu 13 19 (bv 19 14847) HT_ rfl rfl ?_
  refine pu 16 22 (bv 19 80383) HT_ rfl rfl ?_
  refine tk 9 15 (bv 19 80895) HT_ HW_ hHeld rfl rfl (by rintro w' ⟨s0, s1, s3⟩; exact yl) ?_
  refine tk 14 20 (bv 19 97279) HT_ HW_ hHeld rfl rfl (by rintro w' ⟨s0, s1, s3⟩; exact yl) ?_
  refine pu 10 16 (bv 19 98303) HT_ rfl rfl ?_
  refine pu 15 21 (bv 19 131071) HT_ rfl rfl ?_
  by_cases c2 : wrap64 ((l.length : Int) - nx) < n
  ·rw [if_pos c2] at h
   have b2 := decide_eq_true c2
   clear c2
   simp only [Option.some.injEq, Prod.mk.injEq] at h
   obtain ⟨rfl, rfl, rfl⟩ := h
   refine pu 17 23 (bv 19 262143) HT_ rfl rfl ?_
   refine pu 18 24 (bv 19 524287) HT_ rfl rfl ?_
   refine done_ (done_of HT_.out (by kernel_rfl)) ?_
   clear hHeld HT_ HW_
   obtain ⟨z0, z1, z2, z3, f0, f1, f2, f3⟩ := cz4f HS.out.1
   go_wp2
   go_ret
   exact ⟨re, HS.out.err 6⟩
  ·rw [if_neg c2] at h
   have b2 := decide_eq_false c2
   clear c2
   by_cases c3 : 0 ≤ nx ∧ 0 ≤ n ∧ nx + n ≤ (l.length : Int) ∧ (l.length : Int) ≤ 9223372036854775807
   ·rw [if_pos c3] at h
    simp only [Option.some.injEq, Prod.mk.injEq] at h
    obtain ⟨rfl, rfl, rfl⟩ := h
    refine pu 17 23 (bv 19 262143) HT_ rfl rfl ?_
    refine pu 18 24 (bv 19 524287) HT_ rfl rfl ?_
    refine done_ (done_of HT_.out (by kernel_rfl)) ?_
    clear hHeld HT_ HW_
    obtain ⟨z0, z1, z2, z3, f0, f1, f2, f3⟩ := cz4f HS.out.1
    obtain ⟨c30, c31, c32, c33⟩ := c3
    obtain ⟨q, hq⟩ : ∃ q, q = nx + n := ⟨_, rfl⟩
    have ew1 : wrap64 (nx + n) = q := by unfold wrap64; omega
    rw [← hq] at c32
    have HQ := Aside0.mk hq
    have ew2 : wrap64 (q - n) = nx := by unfold wrap64; omega
    obtain ⟨i0, hi0, hz0⟩ := Option.map_eq_some_iff.1 infoU
    simp only [Prod.mk.injEq] at hz0
    have hcut := cut_mid (P := Tryd.prog) 44 5 .i64 .i64 Tryd.underlying44 hi0 1 hz0.2.1 A l.length c nx q c30 (by omega) c32 HC.out
    have HS2 := Aside0.mk (HS.out.pos q)
    have hC : Kd.C (Kd.int .u8) w0 (if c = nx.toNat then A else A.map (·.add (nx.toNat * 1))) (q.toNat - nx.toNat) ((l.take q.toNat).drop nx.toNat) := by
     have h1 := Kd.C_mid (lo := nx.toNat) (hi := q.toNat) HR.out (by omega) (by omega) HC.out
     have e1 : ((l.take q.toNat).drop nx.toNat).length = q.toNat - nx.toNat := by rw [List.length_drop, List.length_take]; omega
     rw [e1] at h1
     exact h1
    generalize (if c = nx.toNat then A else A.map (·.add (nx.toNat * 1))) = B at hcut hC
    have HCC := Aside0.mk hC
    clear hC c30 c31 c32 c33 hz0 hi0 hq
    go_wp2
    have n_ := aE (HS2.out.below (below_drew1 (Below.refl _ _)))
    clear HS HS2 z0 z1 z2 z3 f0 f1 f2 f3
    have HS := n_
    clear n_
    obtain ⟨z0, z1, z2, z3⟩ := cz4 HS.out.1
    refine st 17 (fun w' => w'.cell? ⟨g, 0, none⟩ = some (.slice A l.length c) ∧ w'.cell? ⟨g, 1, none⟩ = some (.int .i64 q)) [] (bv 17 0) note_reader_title.tab7 note_reader_title.bits7 ⟨z0, z1⟩ (fun hHeld HT_ HW_ => ?_)
    clear z0 z1 z2 z3
    generalize (w9.setCell ⟨g, 1, none⟩ (.int .i64 q)).drew = w10 at HS hHeld ⊢
    refine pu 0 41 (bv 17 1) HT_ rfl rfl ?_
    refine pu 1 42 (bv 17 3) HT_ rfl rfl ?_
    refine pu 2 43 (bv 17 7) HT_ rfl rfl ?_
    refine pu 4 45 (bv 17 23) HT_ rfl rfl ?_
    refine pu 5 46 (bv 17 55) HT_ rfl rfl ?_
    refine pu 6 47 (bv 17 119) HT_ rfl rfl ?_
    refine pu 8 49 (bv 17 375) HT_ rfl rfl ?_
    refine pu 10 51 (bv 17 1399) HT_ rfl rfl ?_
    refine pu 11 52 (bv 17 3447) HT_ rfl rfl ?_
    refine pu 12 53 (bv 17 7543) HT_ rfl rfl ?_
    refine tk 3 44 (bv 17 7551) HT_ HW_ hHeld rfl rfl (by rintro w' ⟨s0, s1⟩; exact yl) ?_
    refine tk 7 48 (bv 17 7679) HT_ HW_ hHeld rfl rfl (by rintro w' ⟨s0, s1⟩; exact yl) ?_
    refine tk 13 54 (bv 17 15871) HT_ HW_ hHeld rfl rfl (by rintro w' ⟨s0, s1⟩; exact yl) ?_
    refine pu 9 50 (bv 17 16383) HT_ rfl rfl ?_
    refine pu 14 55 (bv 17 32767) HT_ rfl rfl ?_
    refine one_ (i := 15) (N := some 56) (bv 17 65535) rfl rfl (one_of HT_.out (by kernel_rfl)) (by decide) (fun K hK => ?_)
    refine value_ (w1 := ?_) (v := ?_) (by rfl) rfl ?_ ?_
    rotate_left 2
    ·refine conv_str (ta := 44) (tb := 9) (e := 5) (x := .tmp 55) (c := c - nx.toNat) ?_ ?_ Tryd.underlying44 Tryd.underlying5 Tryd.underlying9 (Kd.C_below HCC.out HS.out.2.2.1)
     ·rfl
     ·rfl
    obtain ⟨z0, z1, z2, z3⟩ := cz4 HS.out.1
    refine hK.out _ _ ⟨z0, z1⟩ (fun hHeld => ?_)
    clear hK K
    refine nm (some 56) ?_
    refine pu 16 2 (bv 17 131071) HT_ rfl rfl ?_
    refine done_ (done_of HT_.out (by kernel_rfl)) ?_
    go_wp2
    go_ret
    have hq := HQ.out
    subst hq
    exact ⟨re, HS.out⟩
   ·rw [if_neg c3] at h
    cases h
 ·rw [if_neg c1] at h
  have b1 : (e == 0) = false := beq_eq_false_iff_ne.mpr c1
  have b1' : (e != 0) = true := bne_iff_ne.mpr c1
  clear c1
  simp only [Option.some.injEq, Prod.mk.injEq] at h
  obtain ⟨rfl, rfl, rfl⟩ := h
  refine pu 4 10 (bv 19 31) HT_ rfl rfl ?_
  refine pu 5 11 (bv 19 63) HT_ rfl rfl ?_
  refine pn 6 12 (bv 19 127) HT_ rfl rfl ?_
  refine pn 7 13 (bv 19 255) HT_ rfl rfl ?_
  refine pn 8 14 (bv 19 511) HT_ rfl rfl ?_
  refine pn 9 15 (bv 19 1023) HT_ rfl rfl ?_
  refine pn 10 16 (bv 19 2047) HT_ rfl rfl ?_
  refine pn 11 17 (bv 19 4095) HT_ rfl rfl ?_
  refine pn 12 18 (bv 19 8191) HT_ rfl rfl ?_
  refine pn 13 19 (bv 19 16383) HT_ rfl rfl ?_
  refine pn 14 20 (bv 19 32767) HT_ rfl rfl ?_
  refine pn 15 21 (bv 19 65535) HT_ rfl rfl ?_
  refine pn 16 22 (bv 19 131071) HT_ rfl rfl ?_
  refine pn 17 23 (bv 19 262143) HT_ rfl rfl ?_
  refine pu 18 24 (bv 19 524287) HT_ rfl rfl ?_
  refine done_ (done_of HT_.out (by kernel_rfl)) ?_
  clear hHeld HT_ HW_
  obtain ⟨z0, z1, z2, z3, f0, f1, f2, f3⟩ := cz4f HS.out.1
  go_wp2
  go_ret
  exact ⟨re, HS.out⟩
theorem R_keep {α : Type} {d : Kd α} {e base g : Nat} {ok : Nat → Prop} {W W1 : World} {v : Value} {xs : List α} (h : d.R e W base ok v xs) (hk : KeepBut W W1 g none) (hg : g < base) : d.R e W1 base ok v xs :=
 Kd.R_mono (Kd.R_move (Kd.R_bound h) (fun k hk' => hk.2 k hk'.2.2.1 (by have := hk'.2.1; omega) (by simp))) (fun _ h => h.1)
theorem R_far {α : Type} {d : Kd α} {e base gb j : Nat} {W : World} {v : Value} {xs : List α} (h : d.R e W base (fun k => k ≠ gb) v xs) (u : Value) : d.R e (W.setCell ⟨gb, j, none⟩ u) base (fun k => k ≠ gb) v xs :=
 Kd.R_move h (fun k hk => Below.heap_setCell W ⟨gb, j, none⟩ u k hk)
theorem R_not {α : Type} {d : Kd α} {e base gb : Nat} {ok : Nat → Prop} {W : World} {v : Value} {xs : List α} (h : d.R e W base ok v xs) (hg : gb = W.heap.size) : d.R e W base (fun k => k ≠ gb) v xs :=
 Kd.R_mono (Kd.R_bound h) (fun k hk => by have := hk.2.2.1; omega)
theorem St.far {w0 w W : World} {g : Nat} {A : Option Addr} {c : Nat} {l : List Int} {pos many err : Int} {gb : Nat} (h : St w0 w g A c l pos many err W) (hn : gb ≠ g) (hw : w.heap.size ≤ gb) (j : Nat) (u : Value) (h0 : w0.heap.size ≤ gb) : St w0 w g A c l pos many err (W.setCell ⟨gb, j, none⟩ u) :=
 ⟨(Below.heap_setCell W ⟨gb, j, none⟩ u g (fun e => hn e.symm)).trans h.1, keep_far h.2.1 (p := ⟨gb, j, none⟩) hw u, below_set h.2.2.1 h0, h.2.2.2⟩
theorem St.grown {w0 w W W1 : World} {g : Nat} {A : Option Addr} {c : Nat} {l : List Int} {pos many err : Int} {row : Option Nat} (h : St w0 w g A c l pos many err W) (hg : W.grownBy W1 row) (hrow : ∀ b, row = some b → w.heap.size ≤ b) (hlt : g < w.heap.size) : St w0 w g A c l pos many err W1 := by
 have hg0 := h.2.2.2
 refine ⟨(hg.block g (blk_lt h.1) (fun e => by have := hrow g e.symm; omega)).trans h.1, h.2.1.trans (KeepBut.of_grown hg g) ?_, h.2.2.1.grown hg h.2.2.1.size (fun k e => by have := hrow k e; omega), hg0⟩
 cases row with
 | none => exact .inl rfl
 | some b => exact .inr ⟨b, rfl, hrow b rfl⟩
mutual
def note_reader_list.l0 : Nat → List Int → Int → List (S61) → Int → Int → Int → Int → Option (List (S61) × Int × Int × Int)
 | 0, _, _, _, _, _, _, _ => none
 | k + 1, l, d, o, n, pos, many, err => if n > 0 then (if err = 0 then (if wrap64 (many + 1) > 400 then some (([] : List (S61)), pos, wrap64 (many + 1), 4) else (if d > 20 then some (([] : List (S61)), pos, wrap64 (many + 1), 4) else ((note_reader_title.f k l pos 0).bind fun t1 => (note_reader_size.f k l t1.2.1 t1.2.2 1 1000).bind fun t2 => (note_reader_list.f k l (wrap64 (d + 1)) t2.2.1 (wrap64 (many + 1)) t2.2.2).bind fun t3 => if (o.length + 1) * 48 ≤ 140737488355328 then note_reader_list.l0 k l d (o ++ [⟨t1.1, t2.1, t3.1⟩]) (wrap64 (n - 1)) t3.2.1 t3.2.2.1 t3.2.2.2 else none))) else some (o, pos, many, err)) else some (o, pos, many, err)
def note_reader_list.f : Nat → List Int → Int → Int → Int → Int → Option (List (S61) × Int × Int × Int)
 | 0, _, _, _, _, _ => none
 | k + 1, l, d, pos, many, err => (note_reader_size.f k l pos err 0 2147483648).bind fun t => note_reader_list.l0 k l d ([] : List (S61)) t.1 t.2.1 many t.2.2
end
theorem note_reader_list.mono_l : ∀ k, (∀ y0 y1 y2 y3 y4 y5 y6, LeO (note_reader_list.l0 k y0 y1 y2 y3 y4 y5 y6) (note_reader_list.l0 (k + 1) y0 y1 y2 y3 y4 y5 y6)) ∧ (∀ y0 y1 y2 y3 y4, LeO (note_reader_list.f k y0 y1 y2 y3 y4) (note_reader_list.f (k + 1) y0 y1 y2 y3 y4))
 | 0 => ⟨fun _ _ _ _ _ _ _ r h => by simp [note_reader_list.l0] at h, fun _ _ _ _ _ r h => by simp [note_reader_list.f] at h⟩
 | k + 1 => by
  obtain ⟨ih0, ih1⟩ := note_reader_list.mono_l k
  refine ⟨fun y0 y1 y2 y3 y4 y5 y6 => ?_, fun y0 y1 y2 y3 y4 => ?_⟩
  ·unfold note_reader_list.l0
   exact LeO.ite (LeO.ite (LeO.ite (LeO.refl _) (LeO.ite (LeO.refl _) (LeO.bind (note_reader_title.mono _ _ _ k) (fun _ => LeO.bind (note_reader_size.mono _ _ _ _ _ k) (fun _ => LeO.bind (ih1 _ _ _ _ _) (fun _ => LeO.ite (ih0 _ _ _ _ _ _ _) (LeO.refl _))))))) (LeO.refl _)) (LeO.refl _)
  ·unfold note_reader_list.f
   exact LeO.bind (note_reader_size.mono _ _ _ _ _ k) (fun _ => ih0 _ _ _ _ _ _ _)
theorem note_reader_list.mono : ∀ a0 a1 a2 a3 a4 k, LeO (note_reader_list.f k a0 a1 a2 a3 a4) (note_reader_list.f (k + 1) a0 a1 a2 a3 a4) := fun a0 a1 a2 a3 a4 k => (note_reader_list.mono_l k).2 a0 a1 a2 a3 a4
set_option maxHeartbeats 8000000 in
set_option maxRecDepth 100000 in
theorem note_reader_list.calls (k : Nat) : ∀ (g : Nat) (A : Option Addr) (c : Nat) (l : List Int) (d pos many err : Int) (r1 : List (S61)) (r2 r3 r4 : Int) (w0 w : World) (hI : Rd g A c l pos many err w) (hB : Below w0.heap.size w0 w) (hg : w0.heap.size ≤ g) (hr : Kd.C (Kd.int .u8) w0 A l.length l) (hc : l.length ≤ c) (h : note_reader_list.f k l d pos many err = some (r1, r2, r3, r4)),
  Calls Tryd.prog 54 #[.pointer (some ⟨g, 0, none⟩), .int .i64 d] w fun e w' => ∃ v0_ : Value, e = .returned v0_ ∧ Kd.R k61 61 w' w.heap.size (fun _ => True) v0_ r1 ∧ St w0 w g A c l r2 r3 r4 w' := by
 induction k using Nat.strongRecOn with
 | _ k ih =>
 intro g A c l d pos many err r1 r2 r3 r4 w0 w hI hB hg hr hc h
 cases k with
 | zero => exact absurd h (by simp [note_reader_list.f])
 | succ k =>
 simp only [note_reader_list.f] at h
 have hu := Tryd.underlying79
 have hu61 := Tryd.underlying61
 obtain ⟨⟨n, nx, e0⟩, A0_, h⟩ := oB h
 have GL := Aside0.mk (blk_lt hI)
 have HI := Aside0.mk hI
 have HB := Aside0.mk hB
 have HG := Aside0.mk hg
 have HR := Aside0.mk hr
 have HC := Aside0.mk hc
 have H' := Aside0.mk h
 clear hI hB hg hr hc h
 go_enter Tryd.func54, Tryd.ntmps54
 go_wp2_with (first | (refine gF 74 9 Tryd.func74 #[.pointer (some ⟨g, 0, none⟩), .int .i64 0, .int .i64 2147483648] rfl rfl ?_; refine (note_reader_size.calls k g A c l pos many err 0 2147483648 n nx e0 w0 _ HI.out HB.out HG.out HR.out HC.out A0_.out).mono ?_; rintro e_ w2 ⟨rfl, hs⟩; refine ⟨_, rfl, ?_⟩; have HS := Aside0.mk hs; clear hs))
 clear HI HB
 go_loopg [5, 6] k (fun kq v5 v6 w' => ∃ (o1 : List (S61)) (n1 p1 m1 e1 : Int), v6 = .int .i64 n1 ∧ Aside0 (note_reader_list.l0 kq l d o1 n1 p1 m1 e1 = some (r1, r2, r3, r4)) ∧ Aside0 (kq ≤ k) ∧ Aside0 (Kd.R k61 61 w' w.heap.size (fun _ => True) v5 o1) ∧ Aside0 (St w0 w g A c l p1 m1 e1 w'))
 case atStart => exact ⟨([] : List (S61)), n, nx, many, e0, rq, H', ⟨Nat.le_refl _⟩, ⟨Kd.R_nil _ _ _ _ _⟩, HS⟩
 case round =>
  clear H' HS
  obtain ⟨o1, n1, p1, m1, e1, rfl, HA, HK1, HO, HS⟩ := hrel
  cases gk with
  | zero => exact absurd HA.out (by simp [note_reader_list.l0])
  | succ k1 =>
   have H := HA.out
   clear HA
   simp only [note_reader_list.l0] at H
   obtain ⟨z0, z1, z2, z3, f0, f1, f2, f3⟩ := cz4f HS.out.1
   by_cases c1 : n1 > 0
   ·rw [if_pos c1] at H
    have c1' : 0 < n1 := c1
    have b1 := decide_eq_true c1'
    clear c1 c1'
    by_cases c2 : e1 = 0
    ·rw [if_pos c2] at H
     subst c2
     have HS1 := Aside0.mk (HS.out.many (wrap64 (m1 + 1)))
     by_cases c3 : wrap64 (m1 + 1) > 400
     ·rw [if_pos c3] at H
      have c3' : 400 < wrap64 (m1 + 1) := c3
      have b3 := decide_eq_true c3'
      clear c3 c3'
      simp only [Option.some.injEq, Prod.mk.injEq] at H
      obtain ⟨rfl, rfl, rfl, rfl⟩ := H
      go_wp2
      go_ret
      exact ⟨_, re, Kd.R_nil _ _ _ _ _, HS1.out.err 4⟩
     ·rw [if_neg c3] at H
      have c3' : ¬ 400 < wrap64 (m1 + 1) := c3
      have b3 := decide_eq_false c3'
      clear c3 c3'
      by_cases c4 : d > 20
      ·rw [if_pos c4] at H
       have c4' : 20 < d := c4
       have b4 := decide_eq_true c4'
       clear c4 c4'
       simp only [Option.some.injEq, Prod.mk.injEq] at H
       obtain ⟨rfl, rfl, rfl, rfl⟩ := H
       go_wp2
       go_ret
       exact ⟨_, re, Kd.R_nil _ _ _ _ _, HS1.out.err 4⟩
      ·rw [if_neg c4] at H
       have c4' : ¬ 20 < d := c4
       have b4 := decide_eq_false c4'
       clear c4 c4'
       obtain ⟨⟨s1, p2, e2⟩, A1, H⟩ := oB H
       obtain ⟨⟨g1, p3, e3⟩, A2, H⟩ := oB H
       obtain ⟨⟨ks, p4, m4, e4⟩, A3, H⟩ := oB H
       by_cases lm : (o1.length + 1) * 48 ≤ 140737488355328
       ·rw [if_pos lm] at H
        have LM := aE lm
        have H' := aE H
        clear lm H
        have HO1 := Aside0.mk (R_keep HO.out (show KeepBut wr (wr.setCell ⟨g, 2, none⟩ (.int .i64 (wrap64 (m1 + 1)))) g none from (KeepBut.refl _ _ _).set_ 2 _) GL.out)
        clear HO HS
        have TK := aC trivial (aC trivial (aC trivial (aE trivial)))
        obtain ⟨K1, K2, K3, K4⟩ := TK
        go_wp2_with (first | (clear K1; refine gF 75 41 Tryd.func75 #[.pointer (some ⟨g, 0, none⟩)] rfl rfl ?_; refine (note_reader_title.calls k1 g A c l p1 (wrap64 (m1 + 1)) 0 s1 p2 e2 w0 _ HS1.out.1 HS1.out.2.2.1 HG.out HR.out HC.out A1.out).mono ?_; rintro e_ w10 ⟨rfl, hs⟩; refine ⟨_, rfl, ?_⟩; have n_ := aC (R_keep HO1.out hs.2.1 GL.out) (aE (HS1.out.call hs)); clear HO1 HS1 hs z0 z1 z2 z3 f0 f1 f2 f3; obtain ⟨HO, HS⟩ := n_) | (clear K2; (with_reducible refine gd 7 rfl ?_); refine bx 7 #[.string (⟨#[]⟩ : ByteArray), .int .i64 0, .slice none 0 0] 61 rfl rfl ?_; intro gb hg_ w11 hbox hb; obtain ⟨z0, z1, z2, f0, f1, f2⟩ := cz3f hbox; have m_ := fill3 hbox hb hg_ (.string s1) (.int .i64 0) (.slice none 0 0); have NG := Aside0.mk (show gb ≠ g from by have := blk_lt HS.out.1; omega); have GE := Aside0.mk (show w.heap.size ≤ gb from by rw [hg_]; exact HS.out.2.1.1); have n_ := aC m_.2 (aC (Kd.R_below (R_not HO.out hg_) m_.1) (aE (HS.out.below m_.1))); clear HO HS m_ hbox hb hg_; obtain ⟨BK, HO, HS⟩ := n_) | (clear K3; refine gF 74 44 Tryd.func74 #[.pointer (some ⟨g, 0, none⟩), .int .i64 1, .int .i64 1000] rfl rfl ?_; refine (note_reader_size.calls k1 g A c l p2 (wrap64 (m1 + 1)) e2 1 1000 g1 p3 e3 w0 _ HS.out.1 HS.out.2.2.1 HG.out HR.out HC.out A2.out).mono ?_; rintro e_ w12 ⟨rfl, hs⟩; refine ⟨_, rfl, ?_⟩; clear z0 z1 z2 f0 f1 f2; have bk := hs.2.1.blk BK.out NG.out (by simp); obtain ⟨z0, z1, z2, f0, f1, f2⟩ := cz3f bk; have n_ := aC (show (w12.setCell ⟨gb, 1, none⟩ (.int .i64 g1)).heap[gb]? = some (.cells #[.string s1, .int .i64 g1, .slice none 0 0] 61 (0, 0)) from blk_put (cs := #[.string s1, .int .i64 0, .slice none 0 0]) bk 1 _ rfl) (aC (R_far (j := 1) (R_keep HO.out hs.2.1 GL.out) (.int .i64 g1)) (aE ((HS.out.call hs).far NG.out GE.out 1 (.int .i64 g1) (by have := HG.out; have := GL.out; have := GE.out; omega)))); clear BK HO HS bk hs; obtain ⟨BK, HO, HS⟩ := n_) | (clear K4; refine gF 54 49 Tryd.func54 #[.pointer (some ⟨g, 0, none⟩), .int .i64 (wrap64 (d + 1))] rfl rfl ?_; refine (ih k1 (by have := HK1.out; omega) g A c l (wrap64 (d + 1)) p3 (wrap64 (m1 + 1)) e3 ks p4 m4 e4 w0 _ HS.out.1 HS.out.2.2.1 HG.out HR.out HC.out A3.out).mono ?_; rintro e_ w13 ⟨v49, rfl, ho, hs⟩; refine ⟨_, rfl, ?_⟩; obtain ⟨A9, c9, e9⟩ := Kd.R_slice ho; subst e9; clear z0 z1 z2 f0 f1 f2; have bk := hs.2.1.blk BK.out NG.out (by simp); obtain ⟨z0, z1, z2, f0, f1, f2⟩ := cz3f bk; have hb0 := own_lt HO.out; have R9 := Aside0.mk (show Kd.R k61 61 (w13.setCell ⟨gb, 2, none⟩ (.slice A9 ks.length c9)) w.heap.size (fun q => q ≠ gb ∧ some q ≠ u5.ownBlock) (.slice A9 ks.length c9) ks from by have hq := Kd.R_bound ho; have hq2 := Kd.R_lower (Kd.R_mono (ok' := fun q => q ≠ gb ∧ some q ≠ u5.ownBlock) hq (fun q h_ => by have h1 := h_.2.1; have h2 := blk_lt BK.out; exact ⟨by omega, fun e_ => by have h3 := hb0 q e_.symm; omega⟩)) HS.out.2.1.1; exact Kd.R_move hq2 (fun q h_ => Below.heap_setCell w13 ⟨gb, 2, none⟩ _ q h_.1)); have n_ := aC (show (w13.setCell ⟨gb, 2, none⟩ (.slice A9 ks.length c9)).heap[gb]? = some (.cells #[.string s1, .int .i64 g1, .slice A9 ks.length c9] 61 (0, 0)) from blk_put (cs := #[.string s1, .int .i64 g1, .slice none 0 0]) bk 2 _ rfl) (aC (R_far (j := 2) (R_keep HO.out hs.2.1 GL.out) (.slice A9 ks.length c9)) (aE ((HS.out.call hs).far NG.out GE.out 2 (.slice A9 ks.length c9) (by have := HG.out; have := GL.out; have := GE.out; omega)))); clear BK HO HS bk hs ho hb0; obtain ⟨BK, HO, HS⟩ := n_) | ((with_reducible refine gate_builtin (b := .append) (xs := #[.tmp 51, .tmp 53]) rfl ?_); at_builtin; refine Kd.R_append k61 (w0 := w13.setCell ⟨gb, 2, none⟩ (.slice A9 ks.length c9)) w.heap.size rfl (.tmp 51) (.tmp 53) 22 61 (.agg #[(.string ⟨#[]⟩), (.int .i64 0), (.slice none 0 0)]) 48 rfl Tryd.underlying22 infoO rfl (by decide) (by omega) u5 o1 (⟨s1, g1, ks⟩ : S61) [.string s1, .int .i64 g1, .slice A9 ks.length c9] (fun _ => True) (fun q => q ≠ gb ∧ some q ≠ u5.ownBlock) rfl (congrArg (fun n => Value.slice (some ⟨n, 0, none⟩) 1 1) (show w13.heap.size = _ by simp [World.setCell])) ?aP (fun _ hk => ⟨trivial, hk.2⟩) ?aF ?aO ?aB ?aS ?aL ?_; (case aP => exact k61_mkM _ _ _ (⟨s1, g1, ks⟩ : S61) R9.out); (case aB => exact Below.refl _ _); (case aF => exact (fun _ _ => trivial)); (case aO => exact Kd.R_mono HO.out (fun _ _ => trivial)); (case aS => exact HS.out.2.1.1); (case aL => have := LM.out; omega); intro v54 w16 ho hb hg hat; have n_ := aC ho (aE (HS.out.grown hg (fun b hb_ => Kd.R_base HO.out b hb_) GL.out)); clear HO HS BK R9; obtain ⟨HO, HS⟩ := n_; clear ho hb hg hat))
        go_roundg k1
        case measure => have := HK1.out; omega
        case rel => exact ⟨_, wrap64 (n1 - 1), p4, m4, e4, rq, H', ⟨by have := HK1.out; omega⟩, HO, HS⟩
       ·rw [if_neg lm] at H
        exact absurd H (by simp)
    ·rw [if_neg c2] at H
     have b2 : (e1 == 0) = false := beq_eq_false_iff_ne.mpr c2
     have b2' : (e1 != 0) = true := bne_iff_ne.mpr c2
     clear c2
     simp only [Option.some.injEq, Prod.mk.injEq] at H
     obtain ⟨rfl, rfl, rfl, rfl⟩ := H
     go_wp2
     go_ret
     exact ⟨_, re, HO.out, HS.out⟩
   ·rw [if_neg c1] at H
    have c1' : ¬ 0 < n1 := c1
    have b1 := decide_eq_false c1'
    clear c1 c1'
    simp only [Option.some.injEq, Prod.mk.injEq] at H
    obtain ⟨rfl, rfl, rfl, rfl⟩ := H
    go_wp2
    go_ret
    exact ⟨_, re, HO.out, HS.out⟩
def note_GetOutlines.f (k : Nat) (l : List Int) : Option (List (S61) × Int) := (note_reader_list.f k l 1 0 0 0).bind fun t => if t.2.2.2 = 0 then (if t.2.1 < (l.length : Int) then some (([] : List (S61)), 3) else some (t.1, 0)) else some (([] : List (S61)), t.2.2.2)
theorem note_GetOutlines.mono : ∀ a0 k, LeO (note_GetOutlines.f k a0) (note_GetOutlines.f (k + 1) a0) := by
 intro a0 k
 unfold note_GetOutlines.f
 exact LeO.bind (note_reader_list.mono _ _ _ _ _ k) (fun _ => LeO.refl _)
def note_GetOutlines.T4 : Bool × List (List Nat × List Nat) := (true, [([], []), ([0], [0]), ([1], [1]), ([2], [2]), ([], []), ([3, 4, 0, 1, 2, 3, 4], [3])])
def note_GetOutlines.B4 : List Nat := [0, 1, 3, 7, 0, 31]
theorem note_GetOutlines.tab4 : rtab .any (opsOf Tryd.f29 4) = note_GetOutlines.T4 := by kernel_rfl
theorem note_GetOutlines.bits4 : waitsOk note_GetOutlines.T4.2 note_GetOutlines.B4 = true := by kernel_rfl
set_option maxHeartbeats 8000000 in
set_option maxRecDepth 100000 in
theorem note_GetOutlines.calls (k : Nat) (A0 : Option Addr) (c0 : Nat) (l0 : List Int) (r1 : List (S61)) (r2 : Int) (w : World) (hr0 : Kd.C (Kd.int .u8) w A0 l0.length l0) (hc0 : l0.length ≤ c0) (h : note_GetOutlines.f k l0 = some (r1, r2)) :
  Calls Tryd.prog 29 #[.slice A0 l0.length c0] w fun e w' => ∃ v0_ : Value, e = .returned (.tuple #[v0_, .int .i64 r2]) ∧ Kd.R k61 61 w' w.heap.size (fun _ => True) v0_ r1 ∧ Below w.heap.size w w' := by
 have hu := Tryd.underlying79
 unfold note_GetOutlines.f at h
 obtain ⟨⟨ls, nx, mn, er⟩, A1, h⟩ := oB h
 have H := Aside0.mk h
 have HR := Aside0.mk hr0
 have HC := Aside0.mk hc0
 clear hr0 hc0 h
 go_enter Tryd.func29, Tryd.ntmps29
 have TK := aC trivial (aE trivial)
 obtain ⟨K1, K2⟩ := TK
 go_wp2_with (first | (clear K1; (with_reducible refine gd 8 rfl ?_); refine bx 8 #[.slice A0 l0.length c0, .int .i64 0, .int .i64 0, .int .i64 0] 79 rfl rfl ?_; intro g hg_ w1 hbox hb; have HS := Aside0.mk (show St w w1 g A0 c0 l0 0 0 0 w1 from ⟨hbox, KeepBut.refl _ _ _, hb, by rw [hg_]; exact Nat.le_refl _⟩); clear hbox hb hg_) | (clear K2; refine gF 54 10 Tryd.func54 #[.pointer (some ⟨g, 0, none⟩), .int .i64 1] rfl rfl ?_; refine (note_reader_list.calls k g A0 c0 l0 1 0 0 0 ls nx mn er w _ HS.out.1 HS.out.2.2.1 HS.out.2.2.2 HR.out HC.out A1.out).mono ?_; rintro e_ w2 ⟨v5, rfl, ho, hs⟩; refine ⟨_, rfl, ?_⟩; have n_ := aC (Kd.R_lower (Kd.R_mono (ok' := fun _ => True) ho (fun _ _ => trivial)) HS.out.2.2.1.size) (aE (HS.out.call hs)); clear HS ho hs; obtain ⟨HO, HS⟩ := n_; obtain ⟨z0, z1, z2, z3, f0, f1, f2, f3⟩ := cz4f HS.out.1))
 ·rename_i b1 _ _
  have h := H.out
  rw [if_neg (bne_iff_ne.mp b1)] at h
  simp only [Option.some.injEq, Prod.mk.injEq] at h
  obtain ⟨rfl, rfl⟩ := h
  have n_ := aE (HS.out.below (below_drew1 (Below.refl _ _)))
  clear HS HO z0 z1 z2 f0 f1 f2 f3
  refine st 6 (fun w' => w'.cell? ⟨g, 3, none⟩ = some (.int .i64 er)) [] (bv 6 0) note_GetOutlines.tab4 note_GetOutlines.bits4 z3 (fun hHeld HT_ HW_ => ?_)
  clear z3
  generalize w2.drew = w9 at n_ hHeld ⊢
  refine pu 0 17 (bv 6 1) HT_ rfl rfl ?_
  refine pu 1 18 (bv 6 3) HT_ rfl rfl ?_
  refine pu 2 19 (bv 6 7) HT_ rfl rfl ?_
  refine tk 3 20 (bv 6 15) HT_ HW_ hHeld rfl rfl (by rintro w' s3; exact yl) ?_
  refine pu 4 2 (bv 6 31) HT_ rfl rfl ?_
  refine pu 5 3 (bv 6 63) HT_ rfl rfl ?_
  refine done_ (done_of HT_.out (by kernel_rfl)) ?_
  clear hHeld HT_ HW_
  go_wp2
  go_ret2
  exact ⟨_, re, Kd.R_nil _ _ _ _ _, n_.out.2.2.1⟩
 ·have h := H.out
  rw [if_pos (bne_eq_false_iff_eq.mp ‹(er != 0) = false›), if_pos ‹nx < (l0.length : Int)›] at h
  simp only [Option.some.injEq, Prod.mk.injEq] at h
  obtain ⟨rfl, rfl⟩ := h
  go_ret2
  exact ⟨_, re, Kd.R_nil _ _ _ _ _, HS.out.2.2.1⟩
 ·have h := H.out
  rw [if_pos (bne_eq_false_iff_eq.mp ‹(er != 0) = false›), if_neg (Int.not_lt.mpr ‹(l0.length : Int) ≤ nx›)] at h
  simp only [Option.some.injEq, Prod.mk.injEq] at h
  obtain ⟨rfl, rfl⟩ := h
  go_ret2
  exact ⟨_, re, HO.out, HS.out.2.2.1⟩
mutual
def incunableref01_GetSize.j0 : Nat → List Int → Int → Bool → Option (Int × Int × Int)
 | 0, _, _, _ => none
 | k + 1, x0, x1, x17 => if x17 = true then (some (0, 0, 2)) else (incunableref01_GetSize.l0 k x0 x1 0 0)
def incunableref01_GetSize.l0 : Nat → List Int → Int → Int → Int → Option (Int × Int × Int)
 | 0, _, _, _, _ => none
 | k + 1, x0, x1, x7, x8 => if x8 < 5 then (if (wrap64 (x1 + x8)) ≥ (x0.length : Int) then (some (0, 0, 6)) else (if 0 ≤ (wrap64 (x1 + x8)) then (if (wrap64 (x1 + x8)) < (x0.length : Int) then (if (wrap64 (rd x0 (wrap64 (x1 + x8)))) < 128 then (if (wrap64 ((wrap64 (128 * x7)) + (Int.tmod (wrap64 (rd x0 (wrap64 (x1 + x8)))) 128))) > 2147483647 then (some (0, 0, 3)) else (if x8 > 0 then (if 0 ≤ x1 then (if x1 < (x0.length : Int) then (if (rd x0 x1) = 128 then (some (0, 0, 3)) else (some (wrap64 ((wrap64 (128 * x7)) + (Int.tmod (wrap64 (rd x0 (wrap64 (x1 + x8)))) 128)), wrap64 ((wrap64 (x1 + x8)) + 1), 0))) else (none)) else (none)) else (some (wrap64 ((wrap64 (128 * x7)) + (Int.tmod (wrap64 (rd x0 (wrap64 (x1 + x8)))) 128)), wrap64 ((wrap64 (x1 + x8)) + 1), 0)))) else (incunableref01_GetSize.l0 k x0 x1 (wrap64 ((wrap64 (128 * x7)) + (Int.tmod (wrap64 (rd x0 (wrap64 (x1 + x8)))) 128))) (wrap64 (x8 + 1)))) else (none)) else (none))) else (some (0, 0, 3))
end
def incunableref01_GetSize.f (k : Nat) (l0 : List Int) (a1 : Int) : Option (Int × Int × Int) := if a1 < 0 then (incunableref01_GetSize.j0 k l0 a1 true) else (incunableref01_GetSize.j0 k l0 a1 (decide (a1 > (l0.length : Int))))
theorem incunableref01_GetSize.mono_l : ∀ k, (∀ y0 y1 y2, LeO (incunableref01_GetSize.j0 k y0 y1 y2) (incunableref01_GetSize.j0 (k + 1) y0 y1 y2)) ∧ (∀ y0 y1 y2 y3, LeO (incunableref01_GetSize.l0 k y0 y1 y2 y3) (incunableref01_GetSize.l0 (k + 1) y0 y1 y2 y3))
 | 0 => ⟨fun _ _ _ r h => by simp [incunableref01_GetSize.j0] at h, fun _ _ _ _ r h => by simp [incunableref01_GetSize.l0] at h⟩
 | k + 1 => by
  obtain ⟨ih0, ih1⟩ := incunableref01_GetSize.mono_l k
  refine ⟨?_, ?_⟩
  ·intro y0 y1 y2
   unfold incunableref01_GetSize.j0
   repeat' first
   | (with_reducible exact ih0 _ _ _)
   | (with_reducible exact ih1 _ _ _ _)
   | (with_reducible first | exact LeO.refl _ | exact LeO.none _ | refine LeO.ite ?_ ?_ | refine LeO.bind ?_ (fun _ => ?_))
  ·intro y0 y1 y2 y3
   unfold incunableref01_GetSize.l0
   repeat' first
   | (with_reducible exact ih0 _ _ _)
   | (with_reducible exact ih1 _ _ _ _)
   | (with_reducible first | exact LeO.refl _ | exact LeO.none _ | refine LeO.ite ?_ ?_ | refine LeO.bind ?_ (fun _ => ?_))
theorem incunableref01_GetSize.mono : ∀ a0 a1 k, LeO (incunableref01_GetSize.f k a0 a1) (incunableref01_GetSize.f (k + 1) a0 a1) := by
 intro a0 a1 k
 obtain ⟨ih0, ih1⟩ := incunableref01_GetSize.mono_l k
 unfold incunableref01_GetSize.f
 repeat' first
   | (with_reducible exact ih0 _ _ _)
   | (with_reducible exact ih1 _ _ _ _)
   | (with_reducible first | exact LeO.refl _ | exact LeO.none _ | refine LeO.ite ?_ ?_ | refine LeO.bind ?_ (fun _ => ?_))
set_option maxHeartbeats 8000000 in
set_option maxRecDepth 100000 in
theorem incunableref01_GetSize.calls (k : Nat) (A0 : Option Addr) (c0 : Nat) (l0 : List Int) (a1 : Int) (r1 : Int) (r2 : Int) (r3 : Int) (w : World) (hr0 : Kd.C (Kd.int .u8) w A0 l0.length l0) (hc0 : l0.length ≤ c0) (h : incunableref01_GetSize.f k l0 a1 = some (r1, r2, r3)) :
  Calls Tryd.prog 93 #[.slice A0 l0.length c0, .int .i64 a1] w fun e w' => e = .returned (.tuple #[.int .i64 r1, .int .i64 r2, .int .i64 r3]) ∧ Drawn0 w w' := by
 have HR0 := Aside0.mk hr0
 have HC0 := Aside0.mk hc0
 clear hr0 hc0
 have H := h
 unfold incunableref01_GetSize.f at H
 clear h
 have HC3 := Aside0.mk H
 clear H
 go_enter Tryd.func93, Tryd.ntmps93
 go_upto_region 1 with (fail)
 go_cut [17] (fun v17 wc => ∃ (kq : Nat) (x17_2 : Bool), v17 = .bool x17_2 ∧ Aside0 (incunableref01_GetSize.j0 kq l0 a1 x17_2 = some (r1, r2, r3)) ∧ Aside0 (kq ≤ k) ∧ Drawn0 w wc)
 case first =>
  have H := HC3.out
  clear HC3
  rcases iL H with H1 | H1 <;> clear H <;> obtain ⟨H, c4b0⟩ := H1
  ·(first | rw [c4b0] | (simp only [i64_w, i32_w]; rw [c4b0]) | skip)
   have H' := Aside0.mk H
   clear H
   go_wp2
   go_meet
   case rel => exact ⟨_, (true), rq, H', ⟨by first | omega | exact Nat.le_refl _⟩, by repeat (first | exact Drawn0.refl _ | apply Drawn0.step)⟩
  ·(first | rw [c4b0] | (simp only [i64_w, i32_w]; rw [c4b0]) | skip)
   have H' := Aside0.mk H
   clear H
   go_wp2
   go_meet
   case rel => exact ⟨_, (decide (a1 > (l0.length : Int))), rq, H', ⟨by first | omega | exact Nat.le_refl _⟩, by repeat (first | exact Drawn0.refl _ | apply Drawn0.step)⟩
 case rest =>
  clear HC3
  obtain ⟨kq, x17_2, rfl, HA, HJ2, ⟨mc2, rfl⟩⟩ := hcut
  cases kq with
  | zero => exact absurd HA.out (by simp [incunableref01_GetSize.j0])
  | succ kj2 =>
   have H := HA.out
   clear HA
   simp only [incunableref01_GetSize.j0] at H
   by_cases c5 : x17_2 = true
   ·subst c5
    rw [if_pos rfl] at H
    simp only [Option.some.injEq, Prod.mk.injEq] at H
    obtain ⟨rfl, rfl, rfl⟩ := H
    go_wp2
    go_ret3
    exact ⟨by first | rfl | (simp; done) | (simp [*]; done), by repeat (first | exact Drawn0.refl _ | apply Drawn0.step)⟩
   ·replace c5 := Bool.eq_false_iff.mpr c5
    subst c5
    rw [if_neg Bool.false_ne_true] at H
    have H' := Aside0.mk H
    clear H
    go_wp2
    go_loopg [7, 8] kj2 (fun kq v7 v8 w' => ∃ (x7_2 : Int) (x8_2 : Int), v7 = .int .i64 x7_2 ∧ v8 = .int .i64 x8_2 ∧ Aside0 (incunableref01_GetSize.l0 kq l0 a1 x7_2 x8_2 = some (r1, r2, r3)) ∧ Aside0 (kq ≤ kj2) ∧ Drawn0 w w')
    case atStart => exact ⟨(0), (0), rq, rq, H', ⟨Nat.le_refl _⟩, by repeat (first | exact Drawn0.refl _ | apply Drawn0.step)⟩
    case round =>
     clear H'
     obtain ⟨x7_2, x8_2, rfl, rfl, HA, HK2, ⟨m2, rfl⟩⟩ := hrel
     cases gk with
     | zero => exact absurd HA.out (by simp [incunableref01_GetSize.l0])
     | succ k2 =>
      have H := HA.out
      clear HA
      simp only [incunableref01_GetSize.l0] at H
      rcases iL H with H1 | H1 <;> clear H <;> obtain ⟨H, c6b0⟩ := H1
      ·rcases iL H with H1 | H1 <;> clear H <;> obtain ⟨H, c7b0⟩ := H1
       ·simp only [Option.some.injEq, Prod.mk.injEq] at H
        obtain ⟨rfl, rfl, rfl⟩ := H
        go_wp2
        go_ret3
        exact ⟨by first | rfl | (simp; done) | (simp [*]; done), by repeat (first | exact Drawn0.refl _ | apply Drawn0.step)⟩
       ·obtain ⟨ji8, hji8⟩ : ∃ j_ : Int, (wrap64 (a1 + x8_2)) = j_ := ⟨_, rfl⟩
        replace H : (if 0 ≤ (ji8) then (if (ji8) < (l0.length : Int) then (if (wrap64 (rd l0 (ji8))) < 128 then (if (wrap64 ((wrap64 (128 * x7_2)) + (Int.tmod (wrap64 (rd l0 (ji8))) 128))) > 2147483647 then (some (0, 0, 3)) else (if x8_2 > 0 then (if 0 ≤ a1 then (if a1 < (l0.length : Int) then (if (rd l0 a1) = 128 then (some (0, 0, 3)) else (some (wrap64 ((wrap64 (128 * x7_2)) + (Int.tmod (wrap64 (rd l0 (ji8))) 128)), wrap64 ((ji8) + 1), 0))) else (none)) else (none)) else (some (wrap64 ((wrap64 (128 * x7_2)) + (Int.tmod (wrap64 (rd l0 (ji8))) 128)), wrap64 ((ji8) + 1), 0)))) else (incunableref01_GetSize.l0 k2 l0 a1 (wrap64 ((wrap64 (128 * x7_2)) + (Int.tmod (wrap64 (rd l0 (ji8))) 128))) (wrap64 (x8_2 + 1)))) else (none)) else (none)) = some (r1, r2, r3) := by first | (rw [hji8] at H; exact H) | (simp only [hji8] at H ⊢; exact H)
        (try rw [hji8] at c7b0)
        have hji8w : (IntKind.i64.wrap (a1 + x8_2)) = ji8 := (i64_w _).trans hji8
        by_cases c9 : 0 ≤ (ji8)
        ·rw [if_pos c9] at H
         have c9b0 := decide_eq_true c9
         clear c9
         by_cases c10 : (ji8) < (l0.length : Int)
         ·rw [if_pos c10] at H
          have c10b0 := decide_eq_true c10
          clear c10
          rcases iL H with H1 | H1 <;> clear H <;> obtain ⟨H, c11b0⟩ := H1
          ·rcases iL H with H1 | H1 <;> clear H <;> obtain ⟨H, c12b0⟩ := H1
           ·simp only [Option.some.injEq, Prod.mk.injEq] at H
            obtain ⟨rfl, rfl, rfl⟩ := H
            have p145 : 0 ≤ ((ji8) : Int) := dt
            have q145 : (ji8) < (l0.length : Int) := dt
            obtain ⟨ad145, e145, hx145_0⟩ := Kd.at_int HR0.out (ji8) p145 q145
            cases e145
            replace p145 := eq_true p145
            replace q145 := eq_true q145
            go_wp2
            go_ret3
            exact ⟨by first | rfl | (simp; done) | (simp only [← hji8] <;> (first | rfl | simp)) | (simp [*]; done), by repeat (first | exact Drawn0.refl _ | apply Drawn0.step)⟩
           ·rcases iL H with H1 | H1 <;> clear H <;> obtain ⟨H, c13b0⟩ := H1
            ·by_cases c14 : 0 ≤ a1
             ·rw [if_pos c14] at H
              have c14b0 := decide_eq_true c14
              clear c14
              by_cases c15 : a1 < (l0.length : Int)
              ·rw [if_pos c15] at H
               have c15b0 := decide_eq_true c15
               clear c15
               rcases iE H with H1 | H1 <;> clear H <;> obtain ⟨H, c16b0, c16b1, c16⟩ := H1
               ·simp only [Option.some.injEq, Prod.mk.injEq] at H
                obtain ⟨rfl, rfl, rfl⟩ := H
                have p145 : 0 ≤ ((ji8) : Int) := dt
                have q145 : (ji8) < (l0.length : Int) := dt
                obtain ⟨ad145, e145, hx145_0⟩ := Kd.at_int HR0.out (ji8) p145 q145
                cases e145
                replace p145 := eq_true p145
                replace q145 := eq_true q145
                have p146 : 0 ≤ (a1 : Int) := dt
                have q146 : a1 < (l0.length : Int) := dt
                obtain ⟨ad146, e146, hx146_0⟩ := Kd.at_int HR0.out a1 p146 q146
                obtain rfl : ad145 = ad146 := (by injection e146)
                replace p146 := eq_true p146
                replace q146 := eq_true q146
                go_wp2
                go_ret3
                exact ⟨by first | rfl | (simp; done) | (simp only [← hji8] <;> (first | rfl | simp)) | (simp [*]; done), by repeat (first | exact Drawn0.refl _ | apply Drawn0.step)⟩
               ·simp only [Option.some.injEq, Prod.mk.injEq] at H
                obtain ⟨rfl, rfl, rfl⟩ := H
                have p145 : 0 ≤ ((ji8) : Int) := dt
                have q145 : (ji8) < (l0.length : Int) := dt
                obtain ⟨ad145, e145, hx145_0⟩ := Kd.at_int HR0.out (ji8) p145 q145
                cases e145
                replace p145 := eq_true p145
                replace q145 := eq_true q145
                have p146 : 0 ≤ (a1 : Int) := dt
                have q146 : a1 < (l0.length : Int) := dt
                obtain ⟨ad146, e146, hx146_0⟩ := Kd.at_int HR0.out a1 p146 q146
                obtain rfl : ad145 = ad146 := (by injection e146)
                replace p146 := eq_true p146
                replace q146 := eq_true q146
                go_wp2
                go_ret3
                exact ⟨by first | rfl | (simp; done) | (simp only [← hji8] <;> (first | rfl | simp)) | (simp [*]; done), by repeat (first | exact Drawn0.refl _ | apply Drawn0.step)⟩
              ·rw [if_neg c15] at H
               exact absurd H (by simp)
             ·rw [if_neg c14] at H
              exact absurd H (by simp)
            ·simp only [Option.some.injEq, Prod.mk.injEq] at H
             obtain ⟨rfl, rfl, rfl⟩ := H
             have p145 : 0 ≤ ((ji8) : Int) := dt
             have q145 : (ji8) < (l0.length : Int) := dt
             obtain ⟨ad145, e145, hx145_0⟩ := Kd.at_int HR0.out (ji8) p145 q145
             cases e145
             replace p145 := eq_true p145
             replace q145 := eq_true q145
             go_wp2
             go_ret3
             exact ⟨by first | rfl | (simp; done) | (simp only [← hji8] <;> (first | rfl | simp)) | (simp [*]; done), by repeat (first | exact Drawn0.refl _ | apply Drawn0.step)⟩
          ·have H' := Aside0.mk H
           clear H
           have p145 : 0 ≤ ((ji8) : Int) := dt
           have q145 : (ji8) < (l0.length : Int) := dt
           obtain ⟨ad145, e145, hx145_0⟩ := Kd.at_int HR0.out (ji8) p145 q145
           cases e145
           replace p145 := eq_true p145
           replace q145 := eq_true q145
           go_wp2
           go_roundg k2
           case measure => have := HJ2.out; have := HK2.out; omega
           case rel => exact ⟨(wrap64 ((wrap64 (128 * x7_2)) + (Int.tmod (wrap64 (rd l0 (ji8))) 128))), (wrap64 (x8_2 + 1)), (by first | rfl | (simp; done) | (simp only [← hji8] <;> (first | rfl | simp)) | (simp [*]; done)), rq, H', ⟨by have := HJ2.out; have := HK2.out; omega⟩, by repeat (first | exact Drawn0.refl _ | apply Drawn0.step)⟩
         ·rw [if_neg c10] at H
          exact absurd H (by simp)
        ·rw [if_neg c9] at H
         exact absurd H (by simp)
      ·simp only [Option.some.injEq, Prod.mk.injEq] at H
       obtain ⟨rfl, rfl, rfl⟩ := H
       go_wp2
       go_ret3
       exact ⟨by first | rfl | (simp; done) | (simp [*]; done), by repeat (first | exact Drawn0.refl _ | apply Drawn0.step)⟩
end Go.Proofs.YtacdchogjpeffaaDoor.PNoteGets
