-- printed (wip/tools/myprint.py)
import Derived.Test.YtacdchogjpeffaaDoorPNoteParsesx0
import Derived.Test.YtacdchogjpeffaaDoorPNoteParsesx1
import Derived.Test.YtacdchogjpeffaaDoorPNoteParsesx2
namespace Go.Proofs.YtacdchogjpeffaaDoor.PNoteParses
open Go.RowKit Go.Proofs.YtacdchogjpeffaaDoorW.PrintWords Go.Proofs.YtacdchogjpeffaaDoorW.PrintLast Go.Proofs.YtacdchogjpeffaaDoorW.PrintMore
attribute [local go_sem] max2_int min2_int max_two min_two max_three min_three max_four min_four
set_option linter.unusedVariables false
set_option linter.unusedSimpArgs false
def note_parser_quoted.l0 : Nat → ByteArray → List Int → Int → Option (ByteArray × Bool × Int)
 | 0, _, _, _ => none
 | k + 1, s, o, i => if i < (s.size : Int) then (if 0 ≤ i then (if bt s i = 34 then some (strOfNums o, decide ((o.length : Int) ≤ 200), wrap64 (i + 1)) else (if bt s i = 92 then (if wrap64 (i + 1) = (s.size : Int) then some ((⟨#[]⟩ : ByteArray), false, wrap64 (i + 1)) else (if 0 ≤ wrap64 (i + 1) then (if wrap64 (i + 1) < (s.size : Int) then (if bt s (wrap64 (i + 1)) = 34 then (if (o.length + 1) * 1 ≤ 140737488355328 then note_parser_quoted.l0 k s (o ++ [bt s (wrap64 (i + 1))]) (wrap64 (wrap64 (i + 1) + 1)) else none) else (if bt s (wrap64 (i + 1)) = 92 then (if (o.length + 1) * 1 ≤ 140737488355328 then note_parser_quoted.l0 k s (o ++ [bt s (wrap64 (i + 1))]) (wrap64 (wrap64 (i + 1) + 1)) else none) else some ((⟨#[]⟩ : ByteArray), false, wrap64 (i + 1)))) else none) else none)) else (if (o.length + 1) * 1 ≤ 140737488355328 then note_parser_quoted.l0 k s (o ++ [bt s i]) (wrap64 (i + 1)) else none))) else none) else some ((⟨#[]⟩ : ByteArray), false, i)
theorem note_parser_quoted.mono_l : ∀ k s o i, LeO (note_parser_quoted.l0 k s o i) (note_parser_quoted.l0 (k + 1) s o i)
 | 0 => fun _ _ _ r h => by simp [note_parser_quoted.l0] at h
 | k + 1 => by
  intro s o i
  have ih := note_parser_quoted.mono_l k
  unfold note_parser_quoted.l0
  repeat' first
  | (with_reducible exact ih _ _ _)
  | (with_reducible first | exact LeO.refl _ | exact LeO.none _ | refine LeO.ite ?_ ?_ | refine LeO.bind ?_ (fun _ => ?_))
def note_parser_quoted.T2 : Bool × List (List Nat × List Nat) := (true, [([], []), ([0], [0]), ([1], [1]), ([2], [2]), ([], []), ([4], [4]), ([5], [5]), ([6], [6]), ([7], [7]), ([3, 8], [3, 8])])
def note_parser_quoted.B2 : List Nat := [0, 1, 3, 7, 0, 16, 48, 112, 240, 511]
theorem note_parser_quoted.tab2 : rtab .any (opsOf Tryd.f86 2) = note_parser_quoted.T2 := by kernel_rfl
theorem note_parser_quoted.bits2 : waitsOk note_parser_quoted.T2.2 note_parser_quoted.B2 = true := by kernel_rfl
def note_parser_quoted.T3 : Bool × List (List Nat × List Nat) := (true, [([], []), ([0], [0]), ([1], [1]), ([2], [2]), ([], []), ([4], [4]), ([5], [5]), ([6], [6]), ([3, 7], [3, 7]), ([8, 0, 1, 2, 3, 4, 5, 6, 7, 8], [8])])
def note_parser_quoted.B3 : List Nat := [0, 1, 3, 7, 0, 16, 48, 112, 255, 511]
theorem note_parser_quoted.tab3 : rtab .any (opsOf Tryd.f86 3) = note_parser_quoted.T3 := by kernel_rfl
theorem note_parser_quoted.bits3 : waitsOk note_parser_quoted.T3.2 note_parser_quoted.B3 = true := by kernel_rfl
def note_parser_quoted.T8 : Bool × List (List Nat × List Nat) := (true, [([], []), ([0], [0]), ([1], [1]), ([2], [2]), ([], []), ([4], [4]), ([5], [5]), ([6], [6]), ([7], [7]), ([3, 8], [3, 8]), ([9], [9]), ([10], [10]), ([11, 10], [10, 11]), ([12, 10], [10, 12]), ([13, 10], [10, 13]), ([10], [10]), ([15, 10], [10, 15]), ([16, 10], [10, 16]), ([17, 10], [10, 17]), ([14, 18, 10], [10, 14, 18]), ([19, 10], [10, 19]), ([20, 10, 10], [10, 20]), ([21], [21]), ([22, 21], [21, 22]), ([23, 21], [21, 23]), ([24, 21], [21, 24]), ([21], [21]), ([26, 21], [21, 26]), ([27, 21], [21, 27]), ([28, 21], [21, 28]), ([25, 29, 21], [21, 25, 29]), ([30, 21], [21, 30]), ([21, 31, 10], [10, 21, 31]), ([10, 32], [10, 32])])
def note_parser_quoted.B8 : List Nat := [0, 1, 3, 7, 0, 16, 48, 112, 240, 511, 1023, 2047, 4095, 8191, 16383, 2047, 34815, 100351, 231423, 524287, 1048575, 2097151, 4194303, 8388607, 16777215, 33554431, 4194303, 71303167, 205520895, 473956351, 1073741823, 2147483647, 4294967295, 8589934591]
theorem note_parser_quoted.tab8 : rtab .any (opsOf Tryd.f86 8) = note_parser_quoted.T8 := by kernel_rfl
theorem note_parser_quoted.bits8 : waitsOk note_parser_quoted.T8.2 note_parser_quoted.B8 = true := by kernel_rfl
def note_parser_quoted.T10 : Bool × List (List Nat × List Nat) := (true, [([], []), ([0], [0]), ([1], [1]), ([2], [2]), ([], []), ([4], [4]), ([5], [5]), ([6], [6]), ([3, 7], [3, 7]), ([8, 0, 1, 2, 3, 4, 5, 6, 7, 8], [8])])
def note_parser_quoted.B10 : List Nat := [0, 1, 3, 7, 0, 16, 48, 112, 255, 511]
theorem note_parser_quoted.tab10 : rtab .any (opsOf Tryd.f86 10) = note_parser_quoted.T10 := by kernel_rfl
theorem note_parser_quoted.bits10 : waitsOk note_parser_quoted.T10.2 note_parser_quoted.B10 = true := by kernel_rfl
theorem infoU8 : (Tryd.prog.info? 5).map (fun i => (i.zero, i.size, i.bytes)) = some (some (.int .u8 0), 1, 1) := by kernel_rfl
set_option maxHeartbeats 8000000 in
set_option maxRecDepth 100000 in
theorem note_parser_quoted.calls (k : Nat) (g : Nat) (p : Pz) (r1 : ByteArray) (r2 : Bool) (r3 : Int) (w0 w : World) (hI : Pt w0 w g p w) (h : note_parser_quoted.l0 k p.s ([] : List Int) p.at_ = some (r1, r2, r3)) :
  Calls Tryd.prog 86 #[.pointer (some ⟨g, 0, none⟩)] w fun e w' => e = .returned (.tuple #[.string r1, .bool r2]) ∧ Pt w0 w g { p with at_ := r3 } w' := by
 have hu := Tryd.underlying93
 have GL := Aside0.mk hI.lt
 have HI := Aside0.mk hI
 have H' := Aside0.mk h
 clear hI h
 go_enter Tryd.func86, Tryd.ntmps86
 go_wp2
 go_loopg [4] k (fun kq v4 w' => ∃ (o1 : List Int) (i1 : Int), Aside0 (note_parser_quoted.l0 kq p.s o1 i1 = some (r1, r2, r3)) ∧ Aside0 (kq ≤ k) ∧ Aside0 (Kd.R (Kd.int .u8) 5 w' w.heap.size (fun _ => True) v4 o1) ∧ Aside0 (Pt w0 w g { p with at_ := i1 } w'))
 case atStart => exact ⟨[], p.at_, H', ⟨Nat.le_refl _⟩, ⟨Kd.R_nil _ _ _ _ _⟩, HI⟩
 case round =>
  clear H' HI
  obtain ⟨o1, i1, HA, HK1, HO, HI⟩ := hrel
  cases gk with
  | zero => exact absurd HA.out (by simp [note_parser_quoted.l0])
  | succ k1 =>
   have H := HA.out
   clear HA
   simp only [note_parser_quoted.l0] at H
   obtain ⟨z0, z1, z2, z3, z4, z5, z6, z7, z8, z9⟩ := HI.out.cz
   obtain ⟨y0, y1, y2, y3, y4, y5, y6, y7, y8, y9⟩ := HI.out.cf
   by_cases c1 : i1 < (p.s.size : Int)
   ·rw [if_pos c1] at H
    have b1 := decide_eq_true c1
    by_cases c2 : 0 ≤ i1
    ·rw [if_pos c2] at H
     have hx := bt_at p.s i1
     replace c1 := eq_true c1
     replace c2 := eq_true c2
     go_wp2
     refine st 10 (fun w' => w'.cell? ⟨g, 0, none⟩ = some (.string p.s) ∧ w'.cell? ⟨g, 1, none⟩ = some (.int .i64 i1)) [] (bv 10 0) note_parser_quoted.tab2 note_parser_quoted.bits2 ⟨z0, z1⟩ (fun hHeld HT_ HW_ => ?_)
     have n_ := aC HI.out.drew (aE (Kd.R_below HO.out (below_drew1 (Below.refl _ _))))
     clear HI HO z0 z1 z2 z3 z4 z5 z6 z7 z8 z9 y0 y1 y2 y3 y4 y5 y6 y7 y8 y9
     obtain ⟨HI, HO⟩ := n_
     generalize World.drew _ = w9 at HI HO hHeld ⊢
     refine pu 0 6 (bv 10 1) HT_ rfl rfl ?_
     refine pu 1 7 (bv 10 3) HT_ rfl rfl ?_
     refine pu 2 8 (bv 10 7) HT_ rfl rfl ?_
     refine tk 3 9 (bv 10 15) HT_ HW_ hHeld rfl rfl (by rintro w' ⟨s0, s1⟩; exact yl) ?_
     refine pu 4 10 (bv 10 31) HT_ rfl rfl ?_
     refine pu 5 11 (bv 10 63) HT_ rfl rfl ?_
     refine pu 6 12 (bv 10 127) HT_ rfl rfl ?_
     refine tk 7 13 (bv 10 255) HT_ HW_ hHeld rfl rfl (by rintro w' ⟨s0, s1⟩; exact yl) ?_
     refine pu 8 14 (bv 10 511) HT_ rfl rfl ?_
     refine pu 9 15 (bv 10 1023) HT_ rfl rfl ?_
     refine done_ (done_of HT_.out (by kernel_rfl)) ?_
     clear hHeld HT_ HW_
     obtain ⟨z0, z1, z2, z3, z4, z5, z6, z7, z8, z9⟩ := HI.out.cz
     obtain ⟨y0, y1, y2, y3, y4, y5, y6, y7, y8, y9⟩ := HI.out.cf
     go_wp2
     refine st 10 (fun w' => w'.cell? ⟨g, 0, none⟩ = some (.string p.s) ∧ w'.cell? ⟨g, 1, none⟩ = some (.int .i64 i1)) [] (bv 10 0) note_parser_quoted.tab3 note_parser_quoted.bits3 ⟨z0, z1⟩ (fun hHeld HT_ HW_ => ?_)
     have n_ := aC HI.out.drew (aE (Kd.R_below HO.out (below_drew1 (Below.refl _ _))))
     clear HI HO z0 z1 z2 z3 z4 z5 z6 z7 z8 z9 y0 y1 y2 y3 y4 y5 y6 y7 y8 y9
     obtain ⟨HI, HO⟩ := n_
     generalize World.drew _ = w9 at HI HO hHeld ⊢
     refine pu 0 16 (bv 10 1) HT_ rfl rfl ?_
     refine pu 1 17 (bv 10 3) HT_ rfl rfl ?_
     refine pu 2 18 (bv 10 7) HT_ rfl rfl ?_
     refine tk 3 19 (bv 10 15) HT_ HW_ hHeld rfl rfl (by rintro w' ⟨s0, s1⟩; exact yl) ?_
     refine pu 4 20 (bv 10 31) HT_ rfl rfl ?_
     refine pu 5 21 (bv 10 63) HT_ rfl rfl ?_
     refine pu 6 22 (bv 10 127) HT_ rfl rfl ?_
     refine tk 7 23 (bv 10 255) HT_ HW_ hHeld rfl rfl (by rintro w' ⟨s0, s1⟩; exact yl) ?_
     refine pu 8 24 (bv 10 511) HT_ rfl rfl ?_
     refine pu 9 5 (bv 10 1023) HT_ rfl rfl ?_
     refine done_ (done_of HT_.out (by kernel_rfl)) ?_
     clear hHeld HT_ HW_
     obtain ⟨z0, z1, z2, z3, z4, z5, z6, z7, z8, z9⟩ := HI.out.cz
     obtain ⟨y0, y1, y2, y3, y4, y5, y6, y7, y8, y9⟩ := HI.out.cf
     by_cases c3 : bt p.s i1 = 34
     ·rw [if_pos c3] at H
      have b3 : (bt p.s i1 == 34) = true := beq_iff_eq.mpr c3
      simp only [Option.some.injEq, Prod.mk.injEq] at H
      obtain ⟨rfl, rfl, rfl⟩ := H
      have n_ := aC (HI.out.at_S (wrap64 (i1 + 1))) (aE (R_keepG HO.out (show KeepBut _ _ g none from (KeepBut.refl _ _ _).set_ 1 (.int .i64 (wrap64 (i1 + 1)))) GL.out))
      clear HI HO
      obtain ⟨HI, HO⟩ := n_
      have hcv := own_string (P := Tryd.prog) Tryd.underlying44 Tryd.underlying5 Tryd.underlying9 (Kd.own_of_R HO.out)
      obtain ⟨Ao, co, eo⟩ := Kd.R_slice HO.out
      subst eo
      go_wp2
      go_ret2
      exact ⟨re, HI.out⟩
     ·rw [if_neg c3] at H
      have b3 : (bt p.s i1 == 34) = false := beq_eq_false_iff_ne.mpr c3
      by_cases c4 : bt p.s i1 = 92
      ·rw [if_pos c4] at H
       have b4 : (bt p.s i1 == 92) = true := beq_iff_eq.mpr c4
       go_wp2
       have n_ := aC (HI.out.at_S (wrap64 (i1 + 1))) (aE (R_keepG HO.out (show KeepBut _ _ g none from (KeepBut.refl _ _ _).set_ 1 (.int .i64 (wrap64 (i1 + 1)))) GL.out))
       clear HI HO
       obtain ⟨HI, HO⟩ := n_
       clear z0 z1 z2 z3 z4 z5 z6 z7 z8 z9 y0 y1 y2 y3 y4 y5 y6 y7 y8 y9
       obtain ⟨z0, z1, z2, z3, z4, z5, z6, z7, z8, z9⟩ := HI.out.cz
       obtain ⟨y0, y1, y2, y3, y4, y5, y6, y7, y8, y9⟩ := HI.out.cf
       have hxj := bt_at p.s (wrap64 (i1 + 1))
       by_cases d1 : wrap64 (i1 + 1) = (p.s.size : Int)
       ·rw [if_pos d1] at H
        have e1 : (wrap64 (i1 + 1) == (p.s.size : Int)) = true := beq_iff_eq.mpr d1
        simp only [Option.some.injEq, Prod.mk.injEq] at H
        obtain ⟨rfl, rfl, rfl⟩ := H
        refine st 34 (fun w' => w'.cell? ⟨g, 0, none⟩ = some (.string p.s) ∧ w'.cell? ⟨g, 1, none⟩ = some (.int .i64 (wrap64 (i1 + 1)))) [] (bv 34 0) note_parser_quoted.tab8 note_parser_quoted.bits8 ⟨z0, z1⟩ (fun hHeld HT_ HW_ => ?_)
        have n_ := aC HI.out.drew (aE (Kd.R_below HO.out (below_drew1 (Below.refl _ _))))
        clear HI HO z0 z1 z2 z3 z4 z5 z6 z7 z8 z9 y0 y1 y2 y3 y4 y5 y6 y7 y8 y9
        obtain ⟨HI, HO⟩ := n_
        generalize World.drew _ = w9 at HI HO hHeld ⊢
        refine pu 0 41 (bv 34 1) HT_ rfl rfl ?_
        refine pu 1 42 (bv 34 3) HT_ rfl rfl ?_
        refine pu 2 43 (bv 34 7) HT_ rfl rfl ?_
        refine tk 3 44 (bv 34 15) HT_ HW_ hHeld rfl rfl (by rintro w' ⟨s0, s1⟩; exact yl) ?_
        refine pu 4 45 (bv 34 31) HT_ rfl rfl ?_
        refine pu 5 46 (bv 34 63) HT_ rfl rfl ?_
        refine pu 6 47 (bv 34 127) HT_ rfl rfl ?_
        refine tk 7 48 (bv 34 255) HT_ HW_ hHeld rfl rfl (by rintro w' ⟨s0, s1⟩; exact yl) ?_
        refine pu 8 49 (bv 34 511) HT_ rfl rfl ?_
        refine pu 9 50 (bv 34 1023) HT_ rfl rfl ?_
        refine pu 10 51 (bv 34 2047) HT_ rfl rfl ?_
        refine pn 11 52 (bv 34 4095) HT_ rfl rfl ?_
        refine pn 12 53 (bv 34 8191) HT_ rfl rfl ?_
        refine pn 13 54 (bv 34 16383) HT_ rfl rfl ?_
        refine pn 14 55 (bv 34 32767) HT_ rfl rfl ?_
        refine pn 15 56 (bv 34 65535) HT_ rfl rfl ?_
        refine pn 16 57 (bv 34 131071) HT_ rfl rfl ?_
        refine pn 17 58 (bv 34 262143) HT_ rfl rfl ?_
        refine pn 18 59 (bv 34 524287) HT_ rfl rfl ?_
        refine pn 19 60 (bv 34 1048575) HT_ rfl rfl ?_
        refine pn 20 61 (bv 34 2097151) HT_ rfl rfl ?_
        refine pn 21 62 (bv 34 4194303) HT_ rfl rfl ?_
        refine pn 22 63 (bv 34 8388607) HT_ rfl rfl ?_
        refine pn 23 64 (bv 34 16777215) HT_ rfl rfl ?_
        refine pn 24 65 (bv 34 33554431) HT_ rfl rfl ?_
        refine pn 25 66 (bv 34 67108863) HT_ rfl rfl ?_
        refine pn 26 67 (bv 34 134217727) HT_ rfl rfl ?_
        refine pn 27 68 (bv 34 268435455) HT_ rfl rfl ?_
        refine pn 28 69 (bv 34 536870911) HT_ rfl rfl ?_
        refine pn 29 70 (bv 34 1073741823) HT_ rfl rfl ?_
        refine pn 30 71 (bv 34 2147483647) HT_ rfl rfl ?_
        refine pn 31 72 (bv 34 4294967295) HT_ rfl rfl ?_
        refine pn 32 73 (bv 34 8589934591) HT_ rfl rfl ?_
        refine pu 33 74 (bv 34 17179869183) HT_ rfl rfl ?_
        refine done_ (done_of HT_.out (by kernel_rfl)) ?_
        clear hHeld HT_ HW_
        obtain ⟨z0, z1, z2, z3, z4, z5, z6, z7, z8, z9⟩ := HI.out.cz
        obtain ⟨y0, y1, y2, y3, y4, y5, y6, y7, y8, y9⟩ := HI.out.cf
        go_wp2
        go_ret2
        have hh := HI.out
        rw [d1] at hh
        exact ⟨re, hh⟩
       ·rw [if_neg d1] at H
        have e1 : (wrap64 (i1 + 1) == (p.s.size : Int)) = false := beq_eq_false_iff_ne.mpr d1
        by_cases d2 : 0 ≤ wrap64 (i1 + 1)
        case neg =>
         rw [if_neg d2] at H
         exact absurd H (by simp)
        rw [if_pos d2] at H
        by_cases d3 : wrap64 (i1 + 1) < (p.s.size : Int)
        case neg =>
         rw [if_neg d3] at H
         exact absurd H (by simp)
        rw [if_pos d3] at H
        replace d2 := eq_true d2
        replace d3 := eq_true d3
        by_cases d4 : bt p.s (wrap64 (i1 + 1)) = 34
        ·rw [if_pos d4] at H
         have e4 : (bt p.s (wrap64 (i1 + 1)) != 34) = false := bne_eq_false_iff_eq.mpr d4
         by_cases lm : (o1.length + 1) * 1 ≤ 140737488355328
         case neg =>
          rw [if_neg lm] at H
          exact absurd H (by simp)
         rw [if_pos lm] at H
         have LM := aE lm
         have H' := aE H
         clear H lm
         clear d4
         refine st 34 (fun w' => w'.cell? ⟨g, 0, none⟩ = some (.string p.s) ∧ w'.cell? ⟨g, 1, none⟩ = some (.int .i64 (wrap64 (i1 + 1)))) [] (bv 34 0) note_parser_quoted.tab8 note_parser_quoted.bits8 ⟨z0, z1⟩ (fun hHeld HT_ HW_ => ?_)
         have n_ := aC HI.out.drew (aE (Kd.R_below HO.out (below_drew1 (Below.refl _ _))))
         clear HI HO z0 z1 z2 z3 z4 z5 z6 z7 z8 z9 y0 y1 y2 y3 y4 y5 y6 y7 y8 y9
         obtain ⟨HI, HO⟩ := n_
         generalize World.drew _ = w9 at HI HO hHeld ⊢
         refine pu 0 41 (bv 34 1) HT_ rfl rfl ?_
         refine pu 1 42 (bv 34 3) HT_ rfl rfl ?_
         refine pu 2 43 (bv 34 7) HT_ rfl rfl ?_
         refine tk 3 44 (bv 34 15) HT_ HW_ hHeld rfl rfl (by rintro w' ⟨s0, s1⟩; exact yl) ?_
         refine pu 4 45 (bv 34 31) HT_ rfl rfl ?_
         refine pu 5 46 (bv 34 63) HT_ rfl rfl ?_
         refine pu 6 47 (bv 34 127) HT_ rfl rfl ?_
         refine tk 7 48 (bv 34 255) HT_ HW_ hHeld rfl rfl (by rintro w' ⟨s0, s1⟩; exact yl) ?_
         refine pu 8 49 (bv 34 511) HT_ rfl rfl ?_
         refine pu 9 50 (bv 34 1023) HT_ rfl rfl ?_
         refine pu 10 51 (bv 34 2047) HT_ rfl rfl ?_
         refine pu 11 52 (bv 34 4095) HT_ rfl rfl ?_
         refine pu 12 53 (bv 34 8191) HT_ rfl rfl ?_
         refine pu 13 54 (bv 34 16383) HT_ rfl rfl ?_
         refine tk 14 55 (bv 34 32767) HT_ HW_ hHeld rfl rfl (by rintro w' ⟨s0, s1⟩; exact yl) ?_
         refine pu 15 56 (bv 34 65535) HT_ rfl rfl ?_
         refine pu 16 57 (bv 34 131071) HT_ rfl rfl ?_
         refine pu 17 58 (bv 34 262143) HT_ rfl rfl ?_
         refine tk 18 59 (bv 34 524287) HT_ HW_ hHeld rfl rfl (by rintro w' ⟨s0, s1⟩; exact yl) ?_
         refine pu 19 60 (bv 34 1048575) HT_ rfl rfl ?_
         refine pu 20 61 (bv 34 2097151) HT_ rfl rfl ?_
         refine pu 21 62 (bv 34 4194303) HT_ rfl rfl ?_
         refine pn 22 63 (bv 34 8388607) HT_ rfl rfl ?_
         refine pn 23 64 (bv 34 16777215) HT_ rfl rfl ?_
         refine pn 24 65 (bv 34 33554431) HT_ rfl rfl ?_
         refine pn 25 66 (bv 34 67108863) HT_ rfl rfl ?_
         refine pn 26 67 (bv 34 134217727) HT_ rfl rfl ?_
         refine pn 27 68 (bv 34 268435455) HT_ rfl rfl ?_
         refine pn 28 69 (bv 34 536870911) HT_ rfl rfl ?_
         refine pn 29 70 (bv 34 1073741823) HT_ rfl rfl ?_
         refine pn 30 71 (bv 34 2147483647) HT_ rfl rfl ?_
         refine pn 31 72 (bv 34 4294967295) HT_ rfl rfl ?_
         refine pu 32 73 (bv 34 8589934591) HT_ rfl rfl ?_
         refine pu 33 74 (bv 34 17179869183) HT_ rfl rfl ?_
         refine done_ (done_of HT_.out (by kernel_rfl)) ?_
         clear hHeld HT_ HW_
         obtain ⟨z0, z1, z2, z3, z4, z5, z6, z7, z8, z9⟩ := HI.out.cz
         obtain ⟨y0, y1, y2, y3, y4, y5, y6, y7, y8, y9⟩ := HI.out.cf
         go_wp2
         refine st 10 (fun w' => w'.cell? ⟨g, 0, none⟩ = some (.string p.s) ∧ w'.cell? ⟨g, 1, none⟩ = some (.int .i64 (wrap64 (i1 + 1)))) [] (bv 10 0) note_parser_quoted.tab10 note_parser_quoted.bits10 ⟨z0, z1⟩ (fun hHeld HT_ HW_ => ?_)
         have n_ := aC HI.out.drew (aE (Kd.R_below HO.out (below_drew1 (Below.refl _ _))))
         clear HI HO z0 z1 z2 z3 z4 z5 z6 z7 z8 z9 y0 y1 y2 y3 y4 y5 y6 y7 y8 y9
         obtain ⟨HI, HO⟩ := n_
         generalize World.drew _ = w9 at HI HO hHeld ⊢
         refine pu 0 75 (bv 10 1) HT_ rfl rfl ?_
         refine pu 1 76 (bv 10 3) HT_ rfl rfl ?_
         refine pu 2 77 (bv 10 7) HT_ rfl rfl ?_
         refine tk 3 78 (bv 10 15) HT_ HW_ hHeld rfl rfl (by rintro w' ⟨s0, s1⟩; exact yl) ?_
         refine pu 4 79 (bv 10 31) HT_ rfl rfl ?_
         refine pu 5 80 (bv 10 63) HT_ rfl rfl ?_
         refine pu 6 81 (bv 10 127) HT_ rfl rfl ?_
         refine tk 7 82 (bv 10 255) HT_ HW_ hHeld rfl rfl (by rintro w' ⟨s0, s1⟩; exact yl) ?_
         refine pu 8 83 (bv 10 511) HT_ rfl rfl ?_
         refine pu 9 5 (bv 10 1023) HT_ rfl rfl ?_
         refine done_ (done_of HT_.out (by kernel_rfl)) ?_
         clear hHeld HT_ HW_
         obtain ⟨z0, z1, z2, z3, z4, z5, z6, z7, z8, z9⟩ := HI.out.cz
         obtain ⟨y0, y1, y2, y3, y4, y5, y6, y7, y8, y9⟩ := HI.out.cf
         have n_ := aC (HI.out.at_S (wrap64 (wrap64 (i1 + 1) + 1))) (aE (R_keepG HO.out (show KeepBut _ _ g none from (KeepBut.refl _ _ _).set_ 1 (.int .i64 (wrap64 (wrap64 (i1 + 1) + 1)))) GL.out))
         clear HI HO
         obtain ⟨HI, HO⟩ := n_
         go_wp2_with (first | ((with_reducible refine gate_builtin (b := .append) (xs := #[.tmp 91, .tmp 93]) rfl ?_); at_builtin; refine Kd.R_append (Kd.int .u8) w.heap.size rfl (.tmp 91) (.tmp 93) 44 5 (.int .u8 0) 1 rfl Tryd.underlying44 infoU8 rfl (by decide) (by omega) u4 o1 (bt p.s (wrap64 (i1 + 1))) [.int .u8 (bt p.s (wrap64 (i1 + 1)))] (fun _ => True) (fun _ => False) rfl (congrArg (fun n => Value.slice (some ⟨n, 0, none⟩) 1 1) (show w9.heap.size = _ by simp [World.setCell])) ?aP (fun _ hk => hk.elim) ?aF ?aO (Below.refl _ _) ?aS ?aL ?_; (case aP => exact rfl); (case aF => exact (fun _ _ => trivial)); (case aO => exact HO.out); (case aS => exact HI.out.2.1.1); (case aL => exact LM.out); intro v94 wz ho hb hg hat; have n_ := aC ho (aE (HI.out.grown hg (fun b hb_ => ((Kd.R_bound HO.out).1 b hb_).2.1) GL.out)); clear HO HI; obtain ⟨HO, HI⟩ := n_; clear ho hb hg hat))
         go_roundg k1
         case measure => have := HK1.out; omega
         case rel => exact ⟨_, wrap64 (wrap64 (i1 + 1) + 1), H', ⟨by have := HK1.out; omega⟩, HO, HI⟩
        ·rw [if_neg d4] at H
         have e4 : (bt p.s (wrap64 (i1 + 1)) != 34) = true := bne_iff_ne.mpr d4
         by_cases d5 : bt p.s (wrap64 (i1 + 1)) = 92
         ·rw [if_pos d5] at H
          have e5 : (bt p.s (wrap64 (i1 + 1)) != 92) = false := bne_eq_false_iff_eq.mpr d5
          by_cases lm : (o1.length + 1) * 1 ≤ 140737488355328
          case neg =>
           rw [if_neg lm] at H
           exact absurd H (by simp)
          rw [if_pos lm] at H
          have LM := aE lm
          have H' := aE H
          clear H lm
          clear d5
          refine st 34 (fun w' => w'.cell? ⟨g, 0, none⟩ = some (.string p.s) ∧ w'.cell? ⟨g, 1, none⟩ = some (.int .i64 (wrap64 (i1 + 1)))) [] (bv 34 0) note_parser_quoted.tab8 note_parser_quoted.bits8 ⟨z0, z1⟩ (fun hHeld HT_ HW_ => ?_)
          have n_ := aC HI.out.drew (aE (Kd.R_below HO.out (below_drew1 (Below.refl _ _))))
          clear HI HO z0 z1 z2 z3 z4 z5 z6 z7 z8 z9 y0 y1 y2 y3 y4 y5 y6 y7 y8 y9
          obtain ⟨HI, HO⟩ := n_
          generalize World.drew _ = w9 at HI HO hHeld ⊢
          refine pu 0 41 (bv 34 1) HT_ rfl rfl ?_
          refine pu 1 42 (bv 34 3) HT_ rfl rfl ?_
          refine pu 2 43 (bv 34 7) HT_ rfl rfl ?_
          refine tk 3 44 (bv 34 15) HT_ HW_ hHeld rfl rfl (by rintro w' ⟨s0, s1⟩; exact yl) ?_
          refine pu 4 45 (bv 34 31) HT_ rfl rfl ?_
          refine pu 5 46 (bv 34 63) HT_ rfl rfl ?_
          refine pu 6 47 (bv 34 127) HT_ rfl rfl ?_
          refine tk 7 48 (bv 34 255) HT_ HW_ hHeld rfl rfl (by rintro w' ⟨s0, s1⟩; exact yl) ?_
          refine pu 8 49 (bv 34 511) HT_ rfl rfl ?_
          refine pu 9 50 (bv 34 1023) HT_ rfl rfl ?_
          refine pu 10 51 (bv 34 2047) HT_ rfl rfl ?_
          refine pu 11 52 (bv 34 4095) HT_ rfl rfl ?_
          refine pu 12 53 (bv 34 8191) HT_ rfl rfl ?_
          refine pu 13 54 (bv 34 16383) HT_ rfl rfl ?_
          refine tk 14 55 (bv 34 32767) HT_ HW_ hHeld rfl rfl (by rintro w' ⟨s0, s1⟩; exact yl) ?_
          refine pu 15 56 (bv 34 65535) HT_ rfl rfl ?_
          refine pu 16 57 (bv 34 131071) HT_ rfl rfl ?_
          refine pu 17 58 (bv 34 262143) HT_ rfl rfl ?_
          refine tk 18 59 (bv 34 524287) HT_ HW_ hHeld rfl rfl (by rintro w' ⟨s0, s1⟩; exact yl) ?_
          refine pu 19 60 (bv 34 1048575) HT_ rfl rfl ?_
          refine pu 20 61 (bv 34 2097151) HT_ rfl rfl ?_
          refine pu 21 62 (bv 34 4194303) HT_ rfl rfl ?_
          refine pu 22 63 (bv 34 8388607) HT_ rfl rfl ?_
          refine pu 23 64 (bv 34 16777215) HT_ rfl rfl ?_
          refine pu 24 65 (bv 34 33554431) HT_ rfl rfl ?_
          refine tk 25 66 (bv 34 67108863) HT_ HW_ hHeld rfl rfl (by rintro w' ⟨s0, s1⟩; exact yl) ?_
          refine pu 26 67 (bv 34 134217727) HT_ rfl rfl ?_
          refine pu 27 68 (bv 34 268435455) HT_ rfl rfl ?_
          refine pu 28 69 (bv 34 536870911) HT_ rfl rfl ?_
          refine tk 29 70 (bv 34 1073741823) HT_ HW_ hHeld rfl rfl (by rintro w' ⟨s0, s1⟩; exact yl) ?_
          refine pu 30 71 (bv 34 2147483647) HT_ rfl rfl ?_
          refine pu 31 72 (bv 34 4294967295) HT_ rfl rfl ?_
          refine pu 32 73 (bv 34 8589934591) HT_ rfl rfl ?_
          refine pu 33 74 (bv 34 17179869183) HT_ rfl rfl ?_
          refine done_ (done_of HT_.out (by kernel_rfl)) ?_
          clear hHeld HT_ HW_
          obtain ⟨z0, z1, z2, z3, z4, z5, z6, z7, z8, z9⟩ := HI.out.cz
          obtain ⟨y0, y1, y2, y3, y4, y5, y6, y7, y8, y9⟩ := HI.out.cf
          go_wp2
          refine st 10 (fun w' => w'.cell? ⟨g, 0, none⟩ = some (.string p.s) ∧ w'.cell? ⟨g, 1, none⟩ = some (.int .i64 (wrap64 (i1 + 1)))) [] (bv 10 0) note_parser_quoted.tab10 note_parser_quoted.bits10 ⟨z0, z1⟩ (fun hHeld HT_ HW_ => ?_)
          have n_ := aC HI.out.drew (aE (Kd.R_below HO.out (below_drew1 (Below.refl _ _))))
          clear HI HO z0 z1 z2 z3 z4 z5 z6 z7 z8 z9 y0 y1 y2 y3 y4 y5 y6 y7 y8 y9
          obtain ⟨HI, HO⟩ := n_
          generalize World.drew _ = w9 at HI HO hHeld ⊢
          refine pu 0 75 (bv 10 1) HT_ rfl rfl ?_
          refine pu 1 76 (bv 10 3) HT_ rfl rfl ?_
          refine pu 2 77 (bv 10 7) HT_ rfl rfl ?_
          refine tk 3 78 (bv 10 15) HT_ HW_ hHeld rfl rfl (by rintro w' ⟨s0, s1⟩; exact yl) ?_
          refine pu 4 79 (bv 10 31) HT_ rfl rfl ?_
          refine pu 5 80 (bv 10 63) HT_ rfl rfl ?_
          refine pu 6 81 (bv 10 127) HT_ rfl rfl ?_
          refine tk 7 82 (bv 10 255) HT_ HW_ hHeld rfl rfl (by rintro w' ⟨s0, s1⟩; exact yl) ?_
          refine pu 8 83 (bv 10 511) HT_ rfl rfl ?_
          refine pu 9 5 (bv 10 1023) HT_ rfl rfl ?_
          refine done_ (done_of HT_.out (by kernel_rfl)) ?_
          clear hHeld HT_ HW_
          obtain ⟨z0, z1, z2, z3, z4, z5, z6, z7, z8, z9⟩ := HI.out.cz
          obtain ⟨y0, y1, y2, y3, y4, y5, y6, y7, y8, y9⟩ := HI.out.cf
          have n_ := aC (HI.out.at_S (wrap64 (wrap64 (i1 + 1) + 1))) (aE (R_keepG HO.out (show KeepBut _ _ g none from (KeepBut.refl _ _ _).set_ 1 (.int .i64 (wrap64 (wrap64 (i1 + 1) + 1)))) GL.out))
          clear HI HO
          obtain ⟨HI, HO⟩ := n_
          go_wp2_with (first | ((with_reducible refine gate_builtin (b := .append) (xs := #[.tmp 91, .tmp 93]) rfl ?_); at_builtin; refine Kd.R_append (Kd.int .u8) w.heap.size rfl (.tmp 91) (.tmp 93) 44 5 (.int .u8 0) 1 rfl Tryd.underlying44 infoU8 rfl (by decide) (by omega) u4 o1 (bt p.s (wrap64 (i1 + 1))) [.int .u8 (bt p.s (wrap64 (i1 + 1)))] (fun _ => True) (fun _ => False) rfl (congrArg (fun n => Value.slice (some ⟨n, 0, none⟩) 1 1) (show w9.heap.size = _ by simp [World.setCell])) ?aP (fun _ hk => hk.elim) ?aF ?aO (Below.refl _ _) ?aS ?aL ?_; (case aP => exact rfl); (case aF => exact (fun _ _ => trivial)); (case aO => exact HO.out); (case aS => exact HI.out.2.1.1); (case aL => exact LM.out); intro v94 wz ho hb hg hat; have n_ := aC ho (aE (HI.out.grown hg (fun b hb_ => ((Kd.R_bound HO.out).1 b hb_).2.1) GL.out)); clear HO HI; obtain ⟨HO, HI⟩ := n_; clear ho hb hg hat))
          go_roundg k1
          case measure => have := HK1.out; omega
          case rel => exact ⟨_, wrap64 (wrap64 (i1 + 1) + 1), H', ⟨by have := HK1.out; omega⟩, HO, HI⟩
         ·rw [if_neg d5] at H
          have e5 : (bt p.s (wrap64 (i1 + 1)) != 92) = true := bne_iff_ne.mpr d5
          simp only [Option.some.injEq, Prod.mk.injEq] at H
          obtain ⟨rfl, rfl, rfl⟩ := H
          refine st 34 (fun w' => w'.cell? ⟨g, 0, none⟩ = some (.string p.s) ∧ w'.cell? ⟨g, 1, none⟩ = some (.int .i64 (wrap64 (i1 + 1)))) [] (bv 34 0) note_parser_quoted.tab8 note_parser_quoted.bits8 ⟨z0, z1⟩ (fun hHeld HT_ HW_ => ?_)
          have n_ := aC HI.out.drew (aE (Kd.R_below HO.out (below_drew1 (Below.refl _ _))))
          clear HI HO z0 z1 z2 z3 z4 z5 z6 z7 z8 z9 y0 y1 y2 y3 y4 y5 y6 y7 y8 y9
          obtain ⟨HI, HO⟩ := n_
          generalize World.drew _ = w9 at HI HO hHeld ⊢
          refine pu 0 41 (bv 34 1) HT_ rfl rfl ?_
          refine pu 1 42 (bv 34 3) HT_ rfl rfl ?_
          refine pu 2 43 (bv 34 7) HT_ rfl rfl ?_
          refine tk 3 44 (bv 34 15) HT_ HW_ hHeld rfl rfl (by rintro w' ⟨s0, s1⟩; exact yl) ?_
          refine pu 4 45 (bv 34 31) HT_ rfl rfl ?_
          refine pu 5 46 (bv 34 63) HT_ rfl rfl ?_
          refine pu 6 47 (bv 34 127) HT_ rfl rfl ?_
          refine tk 7 48 (bv 34 255) HT_ HW_ hHeld rfl rfl (by rintro w' ⟨s0, s1⟩; exact yl) ?_
          refine pu 8 49 (bv 34 511) HT_ rfl rfl ?_
          refine pu 9 50 (bv 34 1023) HT_ rfl rfl ?_
          refine pu 10 51 (bv 34 2047) HT_ rfl rfl ?_
          refine pu 11 52 (bv 34 4095) HT_ rfl rfl ?_
          refine pu 12 53 (bv 34 8191) HT_ rfl rfl ?_
          refine pu 13 54 (bv 34 16383) HT_ rfl rfl ?_
          refine tk 14 55 (bv 34 32767) HT_ HW_ hHeld rfl rfl (by rintro w' ⟨s0, s1⟩; exact yl) ?_
          refine pu 15 56 (bv 34 65535) HT_ rfl rfl ?_
          refine pu 16 57 (bv 34 131071) HT_ rfl rfl ?_
          refine pu 17 58 (bv 34 262143) HT_ rfl rfl ?_
          refine tk 18 59 (bv 34 524287) HT_ HW_ hHeld rfl rfl (by rintro w' ⟨s0, s1⟩; exact yl) ?_
          refine pu 19 60 (bv 34 1048575) HT_ rfl rfl ?_
          refine pu 20 61 (bv 34 2097151) HT_ rfl rfl ?_
          refine pu 21 62 (bv 34 4194303) HT_ rfl rfl ?_
          refine pu 22 63 (bv 34 8388607) HT_ rfl rfl ?_
          refine pu 23 64 (bv 34 16777215) HT_ rfl rfl ?_
          refine pu 24 65 (bv 34 33554431) HT_ rfl rfl ?_
          refine tk 25 66 (bv 34 67108863) HT_ HW_ hHeld rfl rfl (by rintro w' ⟨s0, s1⟩; exact yl) ?_
          refine pu 26 67 (bv 34 134217727) HT_ rfl rfl ?_
          refine pu 27 68 (bv 34 268435455) HT_ rfl rfl ?_
          refine pu 28 69 (bv 34 536870911) HT_ rfl rfl ?_
          refine tk 29 70 (bv 34 1073741823) HT_ HW_ hHeld rfl rfl (by rintro w' ⟨s0, s1⟩; exact yl) ?_
          refine pu 30 71 (bv 34 2147483647) HT_ rfl rfl ?_
          refine pu 31 72 (bv 34 4294967295) HT_ rfl rfl ?_
          refine pu 32 73 (bv 34 8589934591) HT_ rfl rfl ?_
          refine pu 33 74 (bv 34 17179869183) HT_ rfl rfl ?_
          refine done_ (done_of HT_.out (by kernel_rfl)) ?_
          clear hHeld HT_ HW_
          obtain ⟨z0, z1, z2, z3, z4, z5, z6, z7, z8, z9⟩ := HI.out.cz
          obtain ⟨y0, y1, y2, y3, y4, y5, y6, y7, y8, y9⟩ := HI.out.cf
          go_wp2
          go_ret2
          exact ⟨re, HI.out⟩
      ·rw [if_neg c4] at H
       have b4 : (bt p.s i1 == 92) = false := beq_eq_false_iff_ne.mpr c4
       by_cases lm : (o1.length + 1) * 1 ≤ 140737488355328
       case neg =>
        rw [if_neg lm] at H
        exact absurd H (by simp)
       rw [if_pos lm] at H
       have LM := aE lm
       have H' := aE H
       clear H lm
       have n_ := aC (HI.out.at_S (wrap64 (i1 + 1))) (aE (R_keepG HO.out (show KeepBut _ _ g none from (KeepBut.refl _ _ _).set_ 1 (.int .i64 (wrap64 (i1 + 1)))) GL.out))
       clear HI HO
       obtain ⟨HI, HO⟩ := n_
       go_wp2_with (first | ((with_reducible refine gate_builtin (b := .append) (xs := #[.tmp 91, .tmp 93]) rfl ?_); at_builtin; refine Kd.R_append (Kd.int .u8) w.heap.size rfl (.tmp 91) (.tmp 93) 44 5 (.int .u8 0) 1 rfl Tryd.underlying44 infoU8 rfl (by decide) (by omega) u4 o1 (bt p.s i1) [.int .u8 (bt p.s i1)] (fun _ => True) (fun _ => False) rfl (congrArg (fun n => Value.slice (some ⟨n, 0, none⟩) 1 1) (show w9.heap.size = _ by simp [World.setCell])) ?aP (fun _ hk => hk.elim) ?aF ?aO (Below.refl _ _) ?aS ?aL ?_; (case aP => exact rfl); (case aF => exact (fun _ _ => trivial)); (case aO => exact HO.out); (case aS => exact HI.out.2.1.1); (case aL => exact LM.out); intro v94 wz ho hb hg hat; have n_ := aC ho (aE (HI.out.grown hg (fun b hb_ => ((Kd.R_bound HO.out).1 b hb_).2.1) GL.out)); clear HO HI; obtain ⟨HO, HI⟩ := n_; clear ho hb hg hat))
       go_roundg k1
       case measure => have := HK1.out; omega
       case rel => exact ⟨_, wrap64 (i1 + 1), H', ⟨by have := HK1.out; omega⟩, HO, HI⟩
    ·rw [if_neg c2] at H
     exact absurd H (by simp)
   ·rw [if_neg c1] at H
    have b1 := decide_eq_false c1
    simp only [Option.some.injEq, Prod.mk.injEq] at H
    obtain ⟨rfl, rfl, rfl⟩ := H
    go_wp2
    refine st 10 (fun w' => w'.cell? ⟨g, 0, none⟩ = some (.string p.s) ∧ w'.cell? ⟨g, 1, none⟩ = some (.int .i64 i1)) [] (bv 10 0) note_parser_quoted.tab2 note_parser_quoted.bits2 ⟨z0, z1⟩ (fun hHeld HT_ HW_ => ?_)
    have n_ := aC HI.out.drew (aE (Kd.R_below HO.out (below_drew1 (Below.refl _ _))))
    clear HI HO z0 z1 z2 z3 z4 z5 z6 z7 z8 z9 y0 y1 y2 y3 y4 y5 y6 y7 y8 y9
    obtain ⟨HI, HO⟩ := n_
    generalize World.drew _ = w9 at HI HO hHeld ⊢
    refine pu 0 6 (bv 10 1) HT_ rfl rfl ?_
    refine pu 1 7 (bv 10 3) HT_ rfl rfl ?_
    refine pu 2 8 (bv 10 7) HT_ rfl rfl ?_
    refine tk 3 9 (bv 10 15) HT_ HW_ hHeld rfl rfl (by rintro w' ⟨s0, s1⟩; exact yl) ?_
    refine pu 4 10 (bv 10 31) HT_ rfl rfl ?_
    refine pu 5 11 (bv 10 63) HT_ rfl rfl ?_
    refine pu 6 12 (bv 10 127) HT_ rfl rfl ?_
    refine tk 7 13 (bv 10 255) HT_ HW_ hHeld rfl rfl (by rintro w' ⟨s0, s1⟩; exact yl) ?_
    refine pu 8 14 (bv 10 511) HT_ rfl rfl ?_
    refine pu 9 15 (bv 10 1023) HT_ rfl rfl ?_
    refine done_ (done_of HT_.out (by kernel_rfl)) ?_
    clear hHeld HT_ HW_
    obtain ⟨z0, z1, z2, z3, z4, z5, z6, z7, z8, z9⟩ := HI.out.cz
    obtain ⟨y0, y1, y2, y3, y4, y5, y6, y7, y8, y9⟩ := HI.out.cf
    go_wp2
    go_ret2
    exact ⟨re, HI.out⟩
theorem fill4 {b : Nat} {W : World} {c0 c1 c2 c3 : Value} {t : TypeId} (hb : W.heap[b]? = some (.cells #[c0, c1, c2, c3] t (0, 0))) (u0 u1 u2 u3 : Value) : ((((W.setCell ⟨b, 0, none⟩ u0).setCell ⟨b, 1, none⟩ u1).setCell ⟨b, 2, none⟩ u2).setCell ⟨b, 3, none⟩ u3).heap[b]? = some (.cells #[u0, u1, u2, u3] t (0, 0)) :=
 blk_put (cs := #[u0, u1, u2, c3]) (blk_put (cs := #[u0, u1, c2, c3]) (blk_put (cs := #[u0, c1, c2, c3]) (blk_put (cs := #[c0, c1, c2, c3]) hb 0 u0 rfl) 1 u1 rfl) 2 u2 rfl) 3 u3 rfl
section
variable {P : Program} {ops : Array Oper} {Q : Exit → Act → World → Prop}
theorem gG {rest : List Oper} {oi : Oper} {a : Act} {w : World} (f : FuncId) (N : Tmp) {fn : Func} (hf : P.funcs[f]? = some fn) (args : Array Value) {xs : Array Operand} {ts : Array TypeId} (hd : oi.dst = some N)
  (hop : oi.op = .call { callee := .value (.func f), args := xs, argTypes := ts }) (h : Calls P f args w fun e w' => ∃ v, e = .returned v ∧ wpList P ops Q rest (a.put (some N) v) w') (hw : Region.wanted oi (yielded ops a.tmps) = true := by rfl) (hb : fn.body.isSome = true := by rfl)
  (hname : (fn.name == "runtime.NumGoroutine") = false := by kernel_rfl) (hargs : xs.map a.eval = args := by (try simp only [List.map_toArray, List.map_cons, List.map_nil]); first | done | rfl) : wpList P ops Q (oi :: rest) a w := by
 refine Go.BigFrame.wpList_want hw fun K hK => ?_
 have he := enters_ hf hname hb args w
 have hrun : (execOp a.eval oi).run P w = .ok (.enter f args) w := by
  unfold execOp
  simp [hop, resolve, Deferred.ofValue, invoke, Act.eval, hargs, he]
 unfold Oper.wp
 rw [hrun, Oper.upon_enter]
 refine h.mono fun e w'' hh => ?_
 obtain ⟨v, rfl, hk⟩ := hh
 have := hK _ _ hk
 rw [← hd] at this
 exact this
end
theorem Pt.far {w0 w W : World} {g gb : Nat} {p : Pz} (h : Pt w0 w g p W) (hn : g ≠ gb) (hw : w.heap.size ≤ gb) (h0 : w0.heap.size ≤ gb) (j : Nat) (u : Value) : Pt w0 w g p (W.setCell ⟨gb, j, none⟩ u) :=
 ⟨(Below.heap_setCell W ⟨gb, j, none⟩ u g hn).trans h.1, keep_far h.2.1 (p := ⟨gb, j, none⟩) hw u, below_set h.2.2.1 h0, h.2.2.2⟩
theorem atoiR_bounds (s : ByteArray) : -9223372036854775808 ≤ (atoiR s).1 ∧ (atoiR s).1 ≤ 9223372036854775807 := by
 unfold atoiR
 cases h : Go.Lib.atoiAll s.data.toList with
 | ok v => exact Go.Lib.atoiAll_bounds h
 | range => exact Go.Lib.atoiSat_bounds s.data.toList
 | _ => exact (by decide : (-9223372036854775808 : Int) ≤ 0 ∧ (0 : Int) ≤ 9223372036854775807)
def note_parser_scan.f : Nat → ByteArray → Int → Option Int
 | 0, _, _ => none
 | k + 1, s, i => if i < (s.size : Int) then (if 0 ≤ i then ((strings_IndexByte.f (⟨#[97, 98, 99, 100, 101, 102, 103, 104, 105, 106, 107, 108, 109, 110, 111, 112, 113, 114, 115, 116, 117, 118, 119, 120, 121, 122, 48, 49, 50, 51, 52, 53, 54, 55, 56, 57, 45]⟩ : ByteArray) (bt s i)).bind fun t => if t ≥ 0 then note_parser_scan.f k s (wrap64 (i + 1)) else some i) else none) else some i
theorem note_parser_scan.mono : ∀ k s i, LeO (note_parser_scan.f k s i) (note_parser_scan.f (k + 1) s i)
 | 0 => fun _ _ r h => by simp [note_parser_scan.f] at h
 | k + 1 => by
  intro s i
  unfold note_parser_scan.f
  exact LeO.ite (LeO.ite (LeO.bind (LeO.refl _) (fun _ => LeO.ite (note_parser_scan.mono k _ _) (LeO.refl _))) (LeO.refl _)) (LeO.refl _)
def note_parser_word.f (k : Nat) (s : ByteArray) (i : Int) : Option (Int × ByteArray × Int × Bool × Int) := (note_parser_scan.f k s i).bind fun j => if 0 ≤ i ∧ i ≤ j ∧ j ≤ (s.size : Int) ∧ s.size ≤ 1000000 then ((note_isName.f (s.extract i.toNat j.toNat)).bind fun b => if b = true then some (1, s.extract i.toNat j.toNat, 0, true, j) else some (2, (⟨#[]⟩ : ByteArray), (atoiR (s.extract i.toNat j.toNat)).1, ((atoiR (s.extract i.toNat j.toNat)).2 && ((⟨(itz (atoiR (s.extract i.toNat j.toNat)).1).toArray⟩ : ByteArray).toList == (s.extract i.toNat j.toNat).toList) && decide (-999999 ≤ (atoiR (s.extract i.toNat j.toNat)).1) && decide ((atoiR (s.extract i.toNat j.toNat)).1 ≤ 999999)), j)) else none
theorem note_parser_word.mono (k : Nat) (s : ByteArray) (i : Int) : LeO (note_parser_word.f k s i) (note_parser_word.f (k + 1) s i) := LeO.bind (note_parser_scan.mono k s i) (fun _ => LeO.refl _)
def note_parser_word.T2 : Bool × List (List Nat × List Nat) := (true, [([], []), ([0], [0]), ([1], [1]), ([2], [2]), ([], []), ([4], [4]), ([5], [5]), ([6], [6]), ([7], [7]), ([3, 8], [3, 8]), ([9], [9]), ([10], [10]), ([11, 10], [10, 11]), ([12, 10], [10, 12]), ([13, 10], [10, 13]), ([10], [10]), ([15, 10], [10, 15]), ([16, 10], [10, 16]), ([17, 10], [10, 17]), ([14, 18, 10], [10, 14, 18]), ([19, 10, 10], [10, 19]), ([20, 10], [10, 20]), ([10, 21], [10, 21])])
def note_parser_word.B2 : List Nat := [0, 1, 3, 7, 0, 16, 48, 112, 240, 511, 1023, 2047, 4095, 8191, 16383, 2047, 34815, 100351, 231423, 524287, 1048575, 2097151, 4194303]
theorem note_parser_word.tab2 : rtab .any (opsOf Tryd.f87 2) = note_parser_word.T2 := by kernel_rfl
theorem note_parser_word.bits2 : waitsOk note_parser_word.T2.2 note_parser_word.B2 = true := by kernel_rfl
def note_parser_word.T4 : Bool × List (List Nat × List Nat) := (true, [([], []), ([0], [0]), ([1], [1]), ([2], [2]), ([], []), ([], []), ([5], [5]), ([6], [6]), ([7], [7]), ([3, 4, 8], [3, 4, 8]), ([9, 0, 1, 2, 3, 4, 5, 6, 7, 8, 9], [9])])
def note_parser_word.B4 : List Nat := [0, 1, 3, 7, 0, 0, 32, 96, 224, 511, 1023]
theorem note_parser_word.tab4 : rtab .any (opsOf Tryd.f87 4) = note_parser_word.T4 := by kernel_rfl
theorem note_parser_word.bits4 : waitsOk note_parser_word.T4.2 note_parser_word.B4 = true := by kernel_rfl
set_option maxHeartbeats 8000000 in
set_option maxRecDepth 100000 in
theorem note_parser_word.calls (k : Nat) (g : Nat) (p : Pz) (r1 : Int) (r2 : ByteArray) (r3 : Int) (r4 : Bool) (r5 : Int) (w0 w : World) (hT : TIs w0) (hI : Pt w0 w g p w) (h : note_parser_word.f k p.s p.at_ = some (r1, r2, r3, r4, r5)) :
  Calls Tryd.prog 87 #[.pointer (some ⟨g, 0, none⟩)] w fun e w' => e = .returned (.tuple #[.agg #[.int .i64 r1, .string r2, .int .i64 r3, .slice none 0 0], .bool r4]) ∧ Pt w0 w g { p with at_ := r5 } w' := by
 have hu := Tryd.underlying93
 have hu33 := Tryd.underlying33
 unfold note_parser_word.f at h
 obtain ⟨j, A0, h⟩ := oB h
 by_cases cj : 0 ≤ p.at_ ∧ p.at_ ≤ j ∧ j ≤ (p.s.size : Int) ∧ p.s.size ≤ 1000000
 case neg =>
  rw [if_neg cj] at h
  exact absurd h (by simp)
 rw [if_pos cj] at h
 obtain ⟨cj0, cj1, cj2, cj3⟩ := cj
 have GL := Aside0.mk hI.lt
 have HI := Aside0.mk hI
 have H := Aside0.mk h
 have H' := A0
 have HT := Aside0.mk hT
 have CJ3 := aE cj3
 clear hI h hT cj3 A0
 obtain ⟨z0, z1, z2, z3, z4, z5, z6, z7, z8, z9⟩ := HI.out.cz
 go_enter Tryd.func87, Tryd.ntmps87
 go_wp2_with (first | ((with_reducible refine gd 2 rfl ?_); refine bx 2 #[.int .i64 0, .string (⟨#[]⟩ : ByteArray), .int .i64 0, .slice none 0 0] 33 rfl rfl ?_; intro gr hg_ w1 hbox hb; have n_ := aC (HI.out.below hb) (aC hbox (aC (show g ≠ gr by have := GL.out; omega) (aC (show w.heap.size ≤ gr by omega) (aE (show w0.heap.size ≤ gr by have := HI.out.2.2.1.size; omega))))); clear HI z0 z1 z2 z3 z4 z5 z6 z7 z8 z9; obtain ⟨HI, BK, NG, GR, G0⟩ := n_; clear hb hbox hg_; obtain ⟨z0, z1, z2, z3, z4, z5, z6, z7, z8, z9⟩ := HI.out.cz))
 clear z0 z1 z2 z3 z4 z5 z6 z7 z8 z9
 go_loopg [] k (fun kq w' => ∃ (i1 : Int), Aside0 (note_parser_scan.f kq p.s i1 = some j) ∧ Aside0 (kq ≤ k) ∧ Aside0 (Pt w0 w g { p with at_ := i1 } w') ∧ Aside0 (w'.heap[gr]? = some (.cells #[.int .i64 0, .string (⟨#[]⟩ : ByteArray), .int .i64 0, .slice none 0 0] 33 (0, 0))))
 case atStart => exact ⟨p.at_, H', ⟨Nat.le_refl _⟩, HI, BK⟩
 case round =>
  clear H' HI BK
  obtain ⟨i1, HA, HK1, HI, BK⟩ := hrel
  cases gk with
  | zero => exact absurd HA.out (by simp [note_parser_scan.f])
  | succ k1 =>
   have h := HA.out
   clear HA
   simp only [note_parser_scan.f] at h
   have HQ := aC (HI.out.below (show Below wr.heap.size wr wr.drew from below_drew1 (Below.refl _ _))) (aE (blk_below BK.out (show Below wr.heap.size wr wr.drew from below_drew1 (Below.refl _ _))))
   clear HI BK
   obtain ⟨HI, BK⟩ := HQ
   obtain ⟨z0, z1, z2, z3, z4, z5, z6, z7, z8, z9⟩ := HI.out.cz
   obtain ⟨y0, y1, y2, y3, y4, y5, y6, y7, y8, y9⟩ := HI.out.cf
   by_cases c1 : i1 < (p.s.size : Int)
   ·rw [if_pos c1] at h
    have b1 := decide_eq_true c1
    by_cases c2 : 0 ≤ i1
    ·rw [if_pos c2] at h
     obtain ⟨t, A1, h⟩ := oB h
     have hx := bt_at p.s i1
     replace c1 := eq_true c1
     replace c2 := eq_true c2
     go_wp2
     refine st 23 (fun w' => w'.cell? ⟨g, 0, none⟩ = some (.string p.s) ∧ w'.cell? ⟨g, 1, none⟩ = some (.int .i64 i1)) [] (bv 23 0) note_parser_word.tab2 note_parser_word.bits2 ⟨z0, z1⟩ (fun hHeld HT_ HW_ => ?_)
     clear z0 z1 z2 z3 z4 z5 z6 z7 z8 z9 y0 y1 y2 y3 y4 y5 y6 y7 y8 y9
     generalize wr.drew = w1 at HI BK hHeld ⊢
     refine pu 0 12 (bv 23 1) HT_ rfl rfl ?_
     refine pu 1 13 (bv 23 3) HT_ rfl rfl ?_
     refine pu 2 14 (bv 23 7) HT_ rfl rfl ?_
     refine tk 3 15 (bv 23 15) HT_ HW_ hHeld rfl rfl (by rintro w' ⟨s0, s1⟩; exact yl) ?_
     refine pu 4 16 (bv 23 31) HT_ rfl rfl ?_
     refine pu 5 17 (bv 23 63) HT_ rfl rfl ?_
     refine pu 6 18 (bv 23 127) HT_ rfl rfl ?_
     refine tk 7 19 (bv 23 255) HT_ HW_ hHeld rfl rfl (by rintro w' ⟨s0, s1⟩; exact yl) ?_
     refine pu 8 20 (bv 23 511) HT_ rfl rfl ?_
     refine pu 9 21 (bv 23 1023) HT_ rfl rfl ?_
     refine pu 10 22 (bv 23 2047) HT_ rfl rfl ?_
     refine pu 11 23 (bv 23 4095) HT_ rfl rfl ?_
     refine pu 12 24 (bv 23 8191) HT_ rfl rfl ?_
     refine pu 13 25 (bv 23 16383) HT_ rfl rfl ?_
     refine tk 14 26 (bv 23 32767) HT_ HW_ hHeld rfl rfl (by rintro w' ⟨s0, s1⟩; exact yl) ?_
     refine pu 15 27 (bv 23 65535) HT_ rfl rfl ?_
     refine pu 16 28 (bv 23 131071) HT_ rfl rfl ?_
     refine pu 17 29 (bv 23 262143) HT_ rfl rfl ?_
     refine tk 18 30 (bv 23 524287) HT_ HW_ hHeld rfl rfl (by rintro w' ⟨s0, s1⟩; exact yl) ?_
     refine pu 19 31 (bv 23 1048575) HT_ rfl rfl ?_
     refine one_ (i := 20) (N := some 32) (bv 23 2097151) rfl rfl (one_of HT_.out (by kernel_rfl)) (by decide) (fun K hK => ?_)
     refine gK Tryd.func83 rfl #[.string (⟨#[97, 98, 99, 100, 101, 102, 103, 104, 105, 106, 107, 108, 109, 110, 111, 112, 113, 114, 115, 116, 117, 118, 119, 120, 121, 122, 48, 49, 50, 51, 52, 53, 54, 55, 56, 57, 45]⟩ : ByteArray), .int .u8 (bt p.s i1)] rfl rfl ?_
     refine (strings_IndexByte.calls (⟨#[97, 98, 99, 100, 101, 102, 103, 104, 105, 106, 107, 108, 109, 110, 111, 112, 113, 114, 115, 116, 117, 118, 119, 120, 121, 122, 48, 49, 50, 51, 52, 53, 54, 55, 56, 57, 45]⟩ : ByteArray) (bt p.s i1) t _ A1.out).mono ?_
     rintro e_ w2 ⟨rfl, hb⟩
     refine ⟨_, rfl, ?_⟩
     have HQ := aC (HI.out.below (hb)) (aE (blk_below BK.out (hb)))
     clear HI BK
     obtain ⟨HI, BK⟩ := HQ
     clear hb
     obtain ⟨z0, z1, z2, z3, z4, z5, z6, z7, z8, z9⟩ := HI.out.cz
     obtain ⟨y0, y1, y2, y3, y4, y5, y6, y7, y8, y9⟩ := HI.out.cf
     refine hK.out _ _ ⟨z0, z1⟩ (fun hHeld => ?_)
     clear hK K
     refine nm (some 32) ?_
     by_cases c3 : t ≥ 0
     ·rw [if_pos c3] at h
      have H' := aE h
      have c3' : 0 ≤ t := c3
      have b3 := decide_eq_true c3'
      clear h c3
      refine pu 21 33 (bv 23 4194303) HT_ rfl rfl ?_
      refine pu 22 34 (bv 23 8388607) HT_ rfl rfl ?_
      refine done_ (done_of HT_.out (by kernel_rfl)) ?_
      clear hHeld HT_ HW_
      have HQ := aC (HI.out.at_S (wrap64 (i1 + 1))) (aE ((Below.heap_setCell _ ⟨g, 1, none⟩ (.int .i64 (wrap64 (i1 + 1))) gr (fun e_ => NG.out e_.symm)).trans BK.out))
      go_wp2
      go_roundg k1
      case measure => have := HK1.out; omega
      case rel => exact ⟨wrap64 (i1 + 1), H', ⟨by have := HK1.out; omega⟩, HQ⟩
     ·rw [if_neg c3] at h
      obtain rfl := Option.some.inj h
      have c3' : ¬ 0 ≤ t := c3
      have b3 := decide_eq_false c3'
      clear h c3
      refine pu 21 33 (bv 23 4194303) HT_ rfl rfl ?_
      refine pu 22 34 (bv 23 8388607) HT_ rfl rfl ?_
      refine done_ (done_of HT_.out (by kernel_rfl)) ?_
      clear hHeld HT_ HW_
      have CJ := aC cj0 (aC cj1 (aE cj2))
      have EX := aE (show (p.s.extract p.at_.toNat i1.toNat).size ≤ 1000000 by have := CJ3.out; simp only [ByteArray.size_extract]; omega)
      replace cj0 := eq_true cj0
      replace cj1 := eq_true cj1
      replace cj2 := eq_true cj2
      have ci0 : (0 ≤ i1) = True := eq_true (by have := CJ.1.out; have := CJ.2.1.out; omega)
      go_wp2
      refine st 11 (fun w' => w'.cell? ⟨g, 0, none⟩ = some (.string p.s) ∧ w'.cell? ⟨g, 1, none⟩ = some (.int .i64 i1)) [] (bv 11 0) note_parser_word.tab4 note_parser_word.bits4 ⟨z0, z1⟩ (fun hHeld HT_ HW_ => ?_)
      have n_ := aC HI.out.drew (aE (blk_below BK.out (below_drew1 (Below.refl _ _))))
      clear HI BK z0 z1 z2 z3 z4 z5 z6 z7 z8 z9 y0 y1 y2 y3 y4 y5 y6 y7 y8 y9
      obtain ⟨HI, BK⟩ := n_
      generalize World.drew _ = w3 at HI BK hHeld ⊢
      refine pu 0 42 (bv 11 1) HT_ rfl rfl ?_
      refine pu 1 43 (bv 11 3) HT_ rfl rfl ?_
      refine pu 2 44 (bv 11 7) HT_ rfl rfl ?_
      refine tk 3 45 (bv 11 15) HT_ HW_ hHeld rfl rfl (by rintro w' ⟨s0, s1⟩; exact yl) ?_
      refine pu 4 46 (bv 11 31) HT_ rfl rfl ?_
      refine pu 5 47 (bv 11 63) HT_ rfl rfl ?_
      refine pu 6 48 (bv 11 127) HT_ rfl rfl ?_
      refine pu 7 49 (bv 11 255) HT_ rfl rfl ?_
      refine tk 8 50 (bv 11 511) HT_ HW_ hHeld rfl rfl (by rintro w' ⟨s0, s1⟩; exact yl) ?_
      refine pu 9 51 (bv 11 1023) HT_ rfl rfl ?_
      refine pu 10 5 (bv 11 2047) HT_ rfl rfl ?_
      refine done_ (done_of HT_.out (by kernel_rfl)) ?_
      clear hHeld HT_ HW_
      obtain ⟨z0, z1, z2, z3, z4, z5, z6, z7, z8, z9⟩ := HI.out.cz
      obtain ⟨y0, y1, y2, y3, y4, y5, y6, y7, y8, y9⟩ := HI.out.cf
      obtain ⟨b, A2, h⟩ := oB H.out
      cases b with
      | true =>
       rw [if_pos rfl] at h
       simp only [Option.some.injEq, Prod.mk.injEq] at h
       obtain ⟨rfl, rfl, rfl, rfl, rfl⟩ := h
       go_wp2_with (first | (refine gF 96 53 Tryd.func96 #[.string (p.s.extract p.at_.toNat i1.toNat)] rfl rfl ?_; refine (note_isName.calls (p.s.extract p.at_.toNat i1.toNat) _ _ A2.out).mono ?_; rintro e_ w4 ⟨rfl, hb⟩; refine ⟨_, rfl, ?_⟩; have n_ := aC (HI.out.below hb) (aE (blk_below BK.out hb)); clear HI BK z0 z1 z2 z3 z4 z5 z6 z7 z8 z9 y0 y1 y2 y3 y4 y5 y6 y7 y8 y9; obtain ⟨HI, BK⟩ := n_; obtain ⟨q0, q1, q2, q3, f0, f1, f2, f3⟩ := cz4f BK.out; obtain ⟨z0, z1, z2, z3, z4, z5, z6, z7, z8, z9⟩ := HI.out.cz))
       refine bodyPost_ret (results_ct rfl _ _ gr 33 #[.int .i64 1, .string (p.s.extract p.at_.toNat i1.toNat), .int .i64 0, .slice none 0 0] (0, 0) _ rfl (fill4 BK.out _ _ _ _) Tryd.underlying33 rfl (by kernel_rfl)) rfl ?_
       exact ⟨rfl, (((HI.out.far NG.out GR.out G0.out 0 _).far NG.out GR.out G0.out 1 _).far NG.out GR.out G0.out 2 _).far NG.out GR.out G0.out 3 _⟩
      | false =>
       rw [if_neg (by decide)] at h
       simp only [Option.some.injEq, Prod.mk.injEq] at h
       obtain ⟨rfl, rfl, rfl, rfl, rfl⟩ := h
       have AB := aE (atoiR_bounds (p.s.extract p.at_.toNat i1.toNat))
       cases hr : (atoiR (p.s.extract p.at_.toNat i1.toNat)).2 with
       | true =>
        go_wp2_with (first | (refine gF 96 53 Tryd.func96 #[.string (p.s.extract p.at_.toNat i1.toNat)] rfl rfl ?_; refine (note_isName.calls (p.s.extract p.at_.toNat i1.toNat) _ _ A2.out).mono ?_; rintro e_ w4 ⟨rfl, hb⟩; refine ⟨_, rfl, ?_⟩; have n_ := aC (HI.out.below hb) (aE (blk_below BK.out hb)); clear HI BK z0 z1 z2 z3 z4 z5 z6 z7 z8 z9 y0 y1 y2 y3 y4 y5 y6 y7 y8 y9; obtain ⟨HI, BK⟩ := n_; obtain ⟨q0, q1, q2, q3, f0, f1, f2, f3⟩ := cz4f BK.out; obtain ⟨z0, z1, z2, z3, z4, z5, z6, z7, z8, z9⟩ := HI.out.cz) | (refine gF 100 58 Tryd.func100 #[.string (p.s.extract p.at_.toNat i1.toNat)] rfl rfl ?_; refine (atoi_calls (p.s.extract p.at_.toNat i1.toNat) EX.out _ (HT.out.below HI.out.2.2.1)).mono ?_; rintro e_ w5 ⟨ev, rfl, hb, hy, hn⟩; refine ⟨_, rfl, ?_⟩; have n_ := aC (HI.out.below hb) (aE (blk_below BK.out hb)); clear HI BK z0 z1 z2 z3 z4 z5 z6 z7 z8 z9 q0 q1 q2 q3 f0 f1 f2 f3; obtain ⟨HI, BK⟩ := n_; obtain ⟨q0, q1, q2, q3, f0, f1, f2, f3⟩ := cz4f BK.out; obtain ⟨z0, z1, z2, z3, z4, z5, z6, z7, z8, z9⟩ := HI.out.cz; obtain rfl := hy hr; clear hb hy hn) | (refine gG 79 67 Tryd.func79 #[.int .i64 (atoiR (p.s.extract p.at_.toNat i1.toNat)).1] rfl rfl ?_; refine (itoa_calls (atoiR (p.s.extract p.at_.toNat i1.toNat)).1 AB.out.1 AB.out.2 _ (HT.out.below HI.out.2.2.1)).mono ?_; rintro e_ w6 ⟨rfl, hb⟩; refine ⟨_, rfl, ?_⟩; rw [← itz_eq]; have n_ := aC (HI.out.below hb) (aE (blk_below BK.out hb)); clear HI BK z0 z1 z2 z3 z4 z5 z6 z7 z8 z9 q0 q1 q2 q3 f0 f1 f2 f3; obtain ⟨HI, BK⟩ := n_; obtain ⟨q0, q1, q2, q3, f0, f1, f2, f3⟩ := cz4f BK.out; obtain ⟨z0, z1, z2, z3, z4, z5, z6, z7, z8, z9⟩ := HI.out.cz))
        all_goals (
         refine bodyPost_ret (results_ct rfl _ _ gr 33 #[.int .i64 2, .string (⟨#[]⟩ : ByteArray), .int .i64 (atoiR (p.s.extract p.at_.toNat i1.toNat)).1, .slice none 0 0] (0, 0) _ rfl (fill4 BK.out _ _ _ _) Tryd.underlying33 rfl (by kernel_rfl)) rfl ?_
         refine ⟨?_, (((HI.out.far NG.out GR.out G0.out 0 _).far NG.out GR.out G0.out 1 _).far NG.out GR.out G0.out 2 _).far NG.out GR.out G0.out 3 _⟩
         first | (simp_all; done) | (simp_all; omega))
       | false =>
        go_wp2_with (first | (refine gF 96 53 Tryd.func96 #[.string (p.s.extract p.at_.toNat i1.toNat)] rfl rfl ?_; refine (note_isName.calls (p.s.extract p.at_.toNat i1.toNat) _ _ A2.out).mono ?_; rintro e_ w4 ⟨rfl, hb⟩; refine ⟨_, rfl, ?_⟩; have n_ := aC (HI.out.below hb) (aE (blk_below BK.out hb)); clear HI BK z0 z1 z2 z3 z4 z5 z6 z7 z8 z9 y0 y1 y2 y3 y4 y5 y6 y7 y8 y9; obtain ⟨HI, BK⟩ := n_; obtain ⟨q0, q1, q2, q3, f0, f1, f2, f3⟩ := cz4f BK.out; obtain ⟨z0, z1, z2, z3, z4, z5, z6, z7, z8, z9⟩ := HI.out.cz) | (refine gF 100 58 Tryd.func100 #[.string (p.s.extract p.at_.toNat i1.toNat)] rfl rfl ?_; refine (atoi_calls (p.s.extract p.at_.toNat i1.toNat) EX.out _ (HT.out.below HI.out.2.2.1)).mono ?_; rintro e_ w5 ⟨ev, rfl, hb, hy, hn⟩; refine ⟨_, rfl, ?_⟩; have n_ := aC (HI.out.below hb) (aE (blk_below BK.out hb)); clear HI BK z0 z1 z2 z3 z4 z5 z6 z7 z8 z9 q0 q1 q2 q3 f0 f1 f2 f3; obtain ⟨HI, BK⟩ := n_; obtain ⟨q0, q1, q2, q3, f0, f1, f2, f3⟩ := cz4f BK.out; obtain ⟨z0, z1, z2, z3, z4, z5, z6, z7, z8, z9⟩ := HI.out.cz; obtain ⟨et, ep, rfl⟩ := hn hr; clear hb hy hn))
        refine bodyPost_ret (results_ct rfl _ _ gr 33 #[.int .i64 2, .string (⟨#[]⟩ : ByteArray), .int .i64 (atoiR (p.s.extract p.at_.toNat i1.toNat)).1, .slice none 0 0] (0, 0) _ rfl (fill4 BK.out _ _ _ _) Tryd.underlying33 rfl (by kernel_rfl)) rfl ?_
        exact ⟨rfl, (((HI.out.far NG.out GR.out G0.out 0 _).far NG.out GR.out G0.out 1 _).far NG.out GR.out G0.out 2 _).far NG.out GR.out G0.out 3 _⟩
    ·rw [if_neg c2] at h
     exact absurd h (by simp)
   ·rw [if_neg c1] at h
    have b1 := decide_eq_false c1
    obtain rfl := Option.some.inj h
    clear h c1
    go_wp2
    refine st 23 (fun w' => w'.cell? ⟨g, 0, none⟩ = some (.string p.s) ∧ w'.cell? ⟨g, 1, none⟩ = some (.int .i64 i1)) [] (bv 23 0) note_parser_word.tab2 note_parser_word.bits2 ⟨z0, z1⟩ (fun hHeld HT_ HW_ => ?_)
    clear z0 z1 z2 z3 z4 z5 z6 z7 z8 z9 y0 y1 y2 y3 y4 y5 y6 y7 y8 y9
    generalize wr.drew = w1 at HI BK hHeld ⊢
    refine pu 0 12 (bv 23 1) HT_ rfl rfl ?_
    refine pu 1 13 (bv 23 3) HT_ rfl rfl ?_
    refine pu 2 14 (bv 23 7) HT_ rfl rfl ?_
    refine tk 3 15 (bv 23 15) HT_ HW_ hHeld rfl rfl (by rintro w' ⟨s0, s1⟩; exact yl) ?_
    refine pu 4 16 (bv 23 31) HT_ rfl rfl ?_
    refine pu 5 17 (bv 23 63) HT_ rfl rfl ?_
    refine pu 6 18 (bv 23 127) HT_ rfl rfl ?_
    refine tk 7 19 (bv 23 255) HT_ HW_ hHeld rfl rfl (by rintro w' ⟨s0, s1⟩; exact yl) ?_
    refine pu 8 20 (bv 23 511) HT_ rfl rfl ?_
    refine pu 9 21 (bv 23 1023) HT_ rfl rfl ?_
    refine pu 10 22 (bv 23 2047) HT_ rfl rfl ?_
    refine pn 11 23 (bv 23 4095) HT_ rfl rfl ?_
    refine pn 12 24 (bv 23 8191) HT_ rfl rfl ?_
    refine pn 13 25 (bv 23 16383) HT_ rfl rfl ?_
    refine pn 14 26 (bv 23 32767) HT_ rfl rfl ?_
    refine pn 15 27 (bv 23 65535) HT_ rfl rfl ?_
    refine pn 16 28 (bv 23 131071) HT_ rfl rfl ?_
    refine pn 17 29 (bv 23 262143) HT_ rfl rfl ?_
    refine pn 18 30 (bv 23 524287) HT_ rfl rfl ?_
    refine pn 19 31 (bv 23 1048575) HT_ rfl rfl ?_
    refine pn 20 32 (bv 23 2097151) HT_ rfl rfl ?_
    refine pn 21 33 (bv 23 4194303) HT_ rfl rfl ?_
    refine pu 22 34 (bv 23 8388607) HT_ rfl rfl ?_
    refine done_ (done_of HT_.out (by kernel_rfl)) ?_
    clear hHeld HT_ HW_
    obtain ⟨z0, z1, z2, z3, z4, z5, z6, z7, z8, z9⟩ := HI.out.cz
    obtain ⟨y0, y1, y2, y3, y4, y5, y6, y7, y8, y9⟩ := HI.out.cf
    have CJ := aC cj0 (aC cj1 (aE cj2))
    have EX := aE (show (p.s.extract p.at_.toNat i1.toNat).size ≤ 1000000 by have := CJ3.out; simp only [ByteArray.size_extract]; omega)
    replace cj0 := eq_true cj0
    replace cj1 := eq_true cj1
    replace cj2 := eq_true cj2
    have ci0 : (0 ≤ i1) = True := eq_true (by have := CJ.1.out; have := CJ.2.1.out; omega)
    go_wp2
    refine st 11 (fun w' => w'.cell? ⟨g, 0, none⟩ = some (.string p.s) ∧ w'.cell? ⟨g, 1, none⟩ = some (.int .i64 i1)) [] (bv 11 0) note_parser_word.tab4 note_parser_word.bits4 ⟨z0, z1⟩ (fun hHeld HT_ HW_ => ?_)
    have n_ := aC HI.out.drew (aE (blk_below BK.out (below_drew1 (Below.refl _ _))))
    clear HI BK z0 z1 z2 z3 z4 z5 z6 z7 z8 z9 y0 y1 y2 y3 y4 y5 y6 y7 y8 y9
    obtain ⟨HI, BK⟩ := n_
    generalize World.drew _ = w3 at HI BK hHeld ⊢
    refine pu 0 42 (bv 11 1) HT_ rfl rfl ?_
    refine pu 1 43 (bv 11 3) HT_ rfl rfl ?_
    refine pu 2 44 (bv 11 7) HT_ rfl rfl ?_
    refine tk 3 45 (bv 11 15) HT_ HW_ hHeld rfl rfl (by rintro w' ⟨s0, s1⟩; exact yl) ?_
    refine pu 4 46 (bv 11 31) HT_ rfl rfl ?_
    refine pu 5 47 (bv 11 63) HT_ rfl rfl ?_
    refine pu 6 48 (bv 11 127) HT_ rfl rfl ?_
    refine pu 7 49 (bv 11 255) HT_ rfl rfl ?_
    refine tk 8 50 (bv 11 511) HT_ HW_ hHeld rfl rfl (by rintro w' ⟨s0, s1⟩; exact yl) ?_
    refine pu 9 51 (bv 11 1023) HT_ rfl rfl ?_
    refine pu 10 5 (bv 11 2047) HT_ rfl rfl ?_
    refine done_ (done_of HT_.out (by kernel_rfl)) ?_
    clear hHeld HT_ HW_
    obtain ⟨z0, z1, z2, z3, z4, z5, z6, z7, z8, z9⟩ := HI.out.cz
    obtain ⟨y0, y1, y2, y3, y4, y5, y6, y7, y8, y9⟩ := HI.out.cf
    obtain ⟨b, A2, h⟩ := oB H.out
    cases b with
    | true =>
     rw [if_pos rfl] at h
     simp only [Option.some.injEq, Prod.mk.injEq] at h
     obtain ⟨rfl, rfl, rfl, rfl, rfl⟩ := h
     go_wp2_with (first | (refine gF 96 53 Tryd.func96 #[.string (p.s.extract p.at_.toNat i1.toNat)] rfl rfl ?_; refine (note_isName.calls (p.s.extract p.at_.toNat i1.toNat) _ _ A2.out).mono ?_; rintro e_ w4 ⟨rfl, hb⟩; refine ⟨_, rfl, ?_⟩; have n_ := aC (HI.out.below hb) (aE (blk_below BK.out hb)); clear HI BK z0 z1 z2 z3 z4 z5 z6 z7 z8 z9 y0 y1 y2 y3 y4 y5 y6 y7 y8 y9; obtain ⟨HI, BK⟩ := n_; obtain ⟨q0, q1, q2, q3, f0, f1, f2, f3⟩ := cz4f BK.out; obtain ⟨z0, z1, z2, z3, z4, z5, z6, z7, z8, z9⟩ := HI.out.cz))
     refine bodyPost_ret (results_ct rfl _ _ gr 33 #[.int .i64 1, .string (p.s.extract p.at_.toNat i1.toNat), .int .i64 0, .slice none 0 0] (0, 0) _ rfl (fill4 BK.out _ _ _ _) Tryd.underlying33 rfl (by kernel_rfl)) rfl ?_
     exact ⟨rfl, (((HI.out.far NG.out GR.out G0.out 0 _).far NG.out GR.out G0.out 1 _).far NG.out GR.out G0.out 2 _).far NG.out GR.out G0.out 3 _⟩
    | false =>
     rw [if_neg (by decide)] at h
     simp only [Option.some.injEq, Prod.mk.injEq] at h
     obtain ⟨rfl, rfl, rfl, rfl, rfl⟩ := h
     have AB := aE (atoiR_bounds (p.s.extract p.at_.toNat i1.toNat))
     cases hr : (atoiR (p.s.extract p.at_.toNat i1.toNat)).2 with
     | true =>
      go_wp2_with (first | (refine gF 96 53 Tryd.func96 #[.string (p.s.extract p.at_.toNat i1.toNat)] rfl rfl ?_; refine (note_isName.calls (p.s.extract p.at_.toNat i1.toNat) _ _ A2.out).mono ?_; rintro e_ w4 ⟨rfl, hb⟩; refine ⟨_, rfl, ?_⟩; have n_ := aC (HI.out.below hb) (aE (blk_below BK.out hb)); clear HI BK z0 z1 z2 z3 z4 z5 z6 z7 z8 z9 y0 y1 y2 y3 y4 y5 y6 y7 y8 y9; obtain ⟨HI, BK⟩ := n_; obtain ⟨q0, q1, q2, q3, f0, f1, f2, f3⟩ := cz4f BK.out; obtain ⟨z0, z1, z2, z3, z4, z5, z6, z7, z8, z9⟩ := HI.out.cz) | (refine gF 100 58 Tryd.func100 #[.string (p.s.extract p.at_.toNat i1.toNat)] rfl rfl ?_; refine (atoi_calls (p.s.extract p.at_.toNat i1.toNat) EX.out _ (HT.out.below HI.out.2.2.1)).mono ?_; rintro e_ w5 ⟨ev, rfl, hb, hy, hn⟩; refine ⟨_, rfl, ?_⟩; have n_ := aC (HI.out.below hb) (aE (blk_below BK.out hb)); clear HI BK z0 z1 z2 z3 z4 z5 z6 z7 z8 z9 q0 q1 q2 q3 f0 f1 f2 f3; obtain ⟨HI, BK⟩ := n_; obtain ⟨q0, q1, q2, q3, f0, f1, f2, f3⟩ := cz4f BK.out; obtain ⟨z0, z1, z2, z3, z4, z5, z6, z7, z8, z9⟩ := HI.out.cz; obtain rfl := hy hr; clear hb hy hn) | (refine gG 79 67 Tryd.func79 #[.int .i64 (atoiR (p.s.extract p.at_.toNat i1.toNat)).1] rfl rfl ?_; refine (itoa_calls (atoiR (p.s.extract p.at_.toNat i1.toNat)).1 AB.out.1 AB.out.2 _ (HT.out.below HI.out.2.2.1)).mono ?_; rintro e_ w6 ⟨rfl, hb⟩; refine ⟨_, rfl, ?_⟩; rw [← itz_eq]; have n_ := aC (HI.out.below hb) (aE (blk_below BK.out hb)); clear HI BK z0 z1 z2 z3 z4 z5 z6 z7 z8 z9 q0 q1 q2 q3 f0 f1 f2 f3; obtain ⟨HI, BK⟩ := n_; obtain ⟨q0, q1, q2, q3, f0, f1, f2, f3⟩ := cz4f BK.out; obtain ⟨z0, z1, z2, z3, z4, z5, z6, z7, z8, z9⟩ := HI.out.cz))
      all_goals (
       refine bodyPost_ret (results_ct rfl _ _ gr 33 #[.int .i64 2, .string (⟨#[]⟩ : ByteArray), .int .i64 (atoiR (p.s.extract p.at_.toNat i1.toNat)).1, .slice none 0 0] (0, 0) _ rfl (fill4 BK.out _ _ _ _) Tryd.underlying33 rfl (by kernel_rfl)) rfl ?_
       refine ⟨?_, (((HI.out.far NG.out GR.out G0.out 0 _).far NG.out GR.out G0.out 1 _).far NG.out GR.out G0.out 2 _).far NG.out GR.out G0.out 3 _⟩
       first | (simp_all; done) | (simp_all; omega))
     | false =>
      go_wp2_with (first | (refine gF 96 53 Tryd.func96 #[.string (p.s.extract p.at_.toNat i1.toNat)] rfl rfl ?_; refine (note_isName.calls (p.s.extract p.at_.toNat i1.toNat) _ _ A2.out).mono ?_; rintro e_ w4 ⟨rfl, hb⟩; refine ⟨_, rfl, ?_⟩; have n_ := aC (HI.out.below hb) (aE (blk_below BK.out hb)); clear HI BK z0 z1 z2 z3 z4 z5 z6 z7 z8 z9 y0 y1 y2 y3 y4 y5 y6 y7 y8 y9; obtain ⟨HI, BK⟩ := n_; obtain ⟨q0, q1, q2, q3, f0, f1, f2, f3⟩ := cz4f BK.out; obtain ⟨z0, z1, z2, z3, z4, z5, z6, z7, z8, z9⟩ := HI.out.cz) | (refine gF 100 58 Tryd.func100 #[.string (p.s.extract p.at_.toNat i1.toNat)] rfl rfl ?_; refine (atoi_calls (p.s.extract p.at_.toNat i1.toNat) EX.out _ (HT.out.below HI.out.2.2.1)).mono ?_; rintro e_ w5 ⟨ev, rfl, hb, hy, hn⟩; refine ⟨_, rfl, ?_⟩; have n_ := aC (HI.out.below hb) (aE (blk_below BK.out hb)); clear HI BK z0 z1 z2 z3 z4 z5 z6 z7 z8 z9 q0 q1 q2 q3 f0 f1 f2 f3; obtain ⟨HI, BK⟩ := n_; obtain ⟨q0, q1, q2, q3, f0, f1, f2, f3⟩ := cz4f BK.out; obtain ⟨z0, z1, z2, z3, z4, z5, z6, z7, z8, z9⟩ := HI.out.cz; obtain ⟨et, ep, rfl⟩ := hn hr; clear hb hy hn))
      refine bodyPost_ret (results_ct rfl _ _ gr 33 #[.int .i64 2, .string (⟨#[]⟩ : ByteArray), .int .i64 (atoiR (p.s.extract p.at_.toNat i1.toNat)).1, .slice none 0 0] (0, 0) _ rfl (fill4 BK.out _ _ _ _) Tryd.underlying33 rfl (by kernel_rfl)) rfl ?_
      exact ⟨rfl, (((HI.out.far NG.out GR.out G0.out 0 _).far NG.out GR.out G0.out 1 _).far NG.out GR.out G0.out 2 _).far NG.out GR.out G0.out 3 _⟩
end Go.Proofs.YtacdchogjpeffaaDoor.PNoteParses
