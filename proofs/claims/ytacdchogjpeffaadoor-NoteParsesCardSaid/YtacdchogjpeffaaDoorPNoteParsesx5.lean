-- printed (wip/tools/myprint.py)
import Derived.Test.YtacdchogjpeffaaDoorPNoteParsesx0
import Derived.Test.YtacdchogjpeffaaDoorPNoteParsesx2
import Derived.Test.YtacdchogjpeffaaDoorPNoteParsesx3
import Derived.Test.YtacdchogjpeffaaDoorPNoteParsesx4
namespace Go.Proofs.YtacdchogjpeffaaDoor.PNoteParses
open Go.RowKit Go.Proofs.YtacdchogjpeffaaDoorW.PrintWords Go.Proofs.YtacdchogjpeffaaDoorW.PrintLast Go.Proofs.YtacdchogjpeffaaDoorW.PrintMore
attribute [local go_sem] max2_int min2_int max_two min_two max_three min_three max_four min_four
set_option linter.unusedVariables false
set_option linter.unusedSimpArgs false
section
variable {P : Program} {ops : Array Oper} {Q : Exit → Act → World → Prop} {md : Region.Mode} {S : World → Prop} {ds : List Nat}
theorem twoL_ {i j : Nat} {Ni Nj : Option Tmp} {oi oj : Oper} {fuel : Nat} {l : Array Bool} {a : Act} {w : World} (li lj : Array Bool) (hi : ops[i]? = some oi) (hj : ops[j]? = some oj) (hNi : oi.dst = Ni) (hNj : oj.dst = Nj)
  (hc : (Region.ready md ops l == [i, j] && l.setIfInBounds i true == li && l.setIfInBounds j true == lj) = true) (hdi : i ∈ ds) (hdj : j ∈ ds)
  (h1 : ∀ K : Act → World → Prop, Shut (∀ a' w', wpAnyLast P md ops Q S ds fuel li a' w' → K a' w') → if Region.wanted oi (yielded ops a.tmps) = true then Oper.wp P oi a w K Q else K (a.put Ni undef) w)
  (h2 : ∀ K : Act → World → Prop, Shut (∀ a' w', wpAnyLast P md ops Q S ds fuel lj a' w' → K a' w') → if Region.wanted oj (yielded ops a.tmps) = true then Oper.wp P oj a w K Q else K (a.put Nj undef) w) :
  wpAnyLast P md ops Q S ds (fuel + 1) l a w := by
 subst hNi
 subst hNj
 simp only [Bool.and_eq_true, beq_iff_eq] at hc
 obtain ⟨⟨h3, h4⟩, h5⟩ := hc
 subst h4
 subst h5
 exact wpAnyLast_ready h3 (by simp) (AllReadyL.cons_last hi hdi (fun K hK => h1 K hK) (AllReadyL.cons_last hj hdj (fun K hK => h2 K hK) AllReadyL.nil))
end
def note_parser_step.f (k : Nat) (s : ByteArray) (q : Ps) : Option (Bool × Ps) := if 0 ≤ q.at_ ∧ q.at_ < (s.size : Int) ∧ q.rs.length ≤ 1000000 then (if bt s q.at_ = 41 then (match q.rs with
  | [] => some (false, q)
  | kids :: rs => (note_parser_ends.f { q with rs := rs } ⟨0, (⟨#[]⟩ : ByteArray), 0, kids⟩).bind fun st1 => some (true, { st1 with at_ := wrap64 (st1.at_ + 1) }))
 else (if q.done = true then some (false, { q with many := wrap64 (q.many + 1), deep := mx q.deep ((q.rs.length : Int) + 1) })
 else (if bt s q.at_ = 40 then (if (q.rs.length + 1) * 56 ≤ 140737488355328 then some (true, { q with many := wrap64 (q.many + 1), deep := mx q.deep ((q.rs.length : Int) + 1), rs := [] :: q.rs, at_ := wrap64 (q.at_ + 1) }) else none)
 else (if bt s q.at_ = 34 then ((note_parser_quoted.l0 k s [] (wrap64 (q.at_ + 1))).bind fun t => (note_parser_ends.f { q with many := wrap64 (q.many + 1), deep := mx q.deep ((q.rs.length : Int) + 1), at_ := t.2.2 } ⟨3, t.1, 0, []⟩).bind fun st1 => some (t.2.1, st1))
 else ((note_parser_word.f k s q.at_).bind fun t => (note_parser_ends.f { q with many := wrap64 (q.many + 1), deep := mx q.deep ((q.rs.length : Int) + 1), at_ := t.2.2.2.2 } ⟨t.1, t.2.1, t.2.2.1, []⟩).bind fun st1 => some (t.2.2.2.1, st1)))))) else none
theorem note_parser_step.mono (k : Nat) (s : ByteArray) (q : Ps) : LeO (note_parser_step.f k s q) (note_parser_step.f (k + 1) s q) := by
 unfold note_parser_step.f
 exact LeO.ite (LeO.ite (LeO.refl _) (LeO.ite (LeO.refl _) (LeO.ite (LeO.refl _) (LeO.ite (LeO.bind (note_parser_quoted.mono_l k _ _ _) (fun _ => LeO.refl _)) (LeO.bind (note_parser_word.mono k _ _) (fun _ => LeO.refl _)))))) (LeO.refl _)
def note_parser_step.T1 : Bool × List (List Nat × List Nat) := (true, [([], []), ([0], [0]), ([1], [1]), ([2], [2]), ([], []), ([4], [4]), ([5], [5]), ([6], [6]), ([3, 7], [3, 7]), ([8, 0, 1, 2, 3, 4, 5, 6, 7, 8], [8])])
def note_parser_step.B1 : List Nat := [0, 1, 3, 7, 0, 16, 48, 112, 255, 511]
theorem note_parser_step.tab1 : rtab .any (opsOf Tryd.f63 1) = note_parser_step.T1 := by kernel_rfl
theorem note_parser_step.bits1 : waitsOk note_parser_step.T1.2 note_parser_step.B1 = true := by kernel_rfl
def note_parser_step.T15 : Bool × List (List Nat × List Nat) := (true, [([], []), ([0], [0]), ([1], [1]), ([2], [2]), ([], []), ([3], [3]), ([], []), ([3, 6, 0, 1, 2, 3, 4, 5, 6], [3, 6]), ([7, 5, 0, 1, 2, 3, 4, 5, 6, 7], [5, 7]), ([8, 4, 7, 0, 1, 2, 3, 4, 5, 6, 7], [4, 8]), ([0, 0, 1, 2, 3, 4, 5, 6, 7], [0]), ([10, 0, 1, 2, 3, 4, 5, 6, 7], [10]), ([11, 7, 7, 0, 1, 2, 3, 4, 5, 6, 7], [7, 11])])
def note_parser_step.B15 : List Nat := [0, 1, 3, 7, 0, 15, 0, 127, 255, 511, 255, 1279, 3327]
theorem note_parser_step.tab15 : rtab .any (opsOf Tryd.f63 15) = note_parser_step.T15 := by kernel_rfl
theorem note_parser_step.bits15 : waitsOk note_parser_step.T15.2 note_parser_step.B15 = true := by kernel_rfl
set_option maxHeartbeats 16000000 in
set_option maxRecDepth 100000 in
theorem note_parser_step.calls (k : Nat) (g : Nat) (s : ByteArray) (q q' : Ps) (r : Bool) (w0 w : World) (hT : TIs w0) (hI : Ip w0 w g s q) (h : note_parser_step.f k s q = some (r, q')) :
  Calls Tryd.prog 63 #[.pointer (some ⟨g, 0, none⟩)] w fun e w' => e = .returned (.bool r) ∧ Ip w0 w' g s q' := by
 have hu := Tryd.underlying93
 have hu33 := Tryd.underlying33
 unfold note_parser_step.f at h
 by_cases c0 : 0 ≤ q.at_ ∧ q.at_ < (s.size : Int) ∧ q.rs.length ≤ 1000000
 case neg =>
  rw [if_neg c0] at h
  exact absurd h (by simp)
 rw [if_pos c0] at h
 obtain ⟨c1, c2, c3⟩ := c0
 obtain ⟨col, vo, vs, xv, hP⟩ := hI
 have HT := Aside0.mk hT
 have HI := Aside0.mk hP
 have H := Aside0.mk h
 have RL := aE c3
 have hx := bt_at s q.at_
 replace c1 := eq_true c1
 replace c2 := eq_true c2
 clear hT hP h c3
 go_enter Tryd.func63, Tryd.ntmps63
 have HQ := aE (HI.out.below (below_drew1 (Below.refl _ _)))
 clear HI
 have HI := HQ
 clear HQ
 obtain ⟨z0, z1, z2, z3, z4, z5⟩ := Ps.cz HI.out
 go_wp2
 refine st 10 (fun w' => w'.cell? ⟨g, 0, none⟩ = some (.string s) ∧ w'.cell? ⟨g, 1, none⟩ = some (.int .i64 q.at_)) [] (bv 10 0) note_parser_step.tab1 note_parser_step.bits1 ⟨z0, z1⟩ (fun hHeld HT_ HW_ => ?_)
 clear z0 z1 z2 z3 z4 z5
 generalize w.drew = w1 at HI hHeld ⊢
 refine pu 0 10 (bv 10 1) HT_ rfl rfl ?_
 refine pu 1 11 (bv 10 3) HT_ rfl rfl ?_
 refine pu 2 12 (bv 10 7) HT_ rfl rfl ?_
 refine tk 3 13 (bv 10 15) HT_ HW_ hHeld rfl rfl (by rintro w' ⟨s0, s1⟩; exact yl) ?_
 refine pu 4 14 (bv 10 31) HT_ rfl rfl ?_
 refine pu 5 15 (bv 10 63) HT_ rfl rfl ?_
 refine pu 6 16 (bv 10 127) HT_ rfl rfl ?_
 refine tk 7 17 (bv 10 255) HT_ HW_ hHeld rfl rfl (by rintro w' ⟨s0, s1⟩; exact yl) ?_
 refine pu 8 18 (bv 10 511) HT_ rfl rfl ?_
 refine pu 9 3 (bv 10 1023) HT_ rfl rfl ?_
 refine done_ (done_of HT_.out (by kernel_rfl)) ?_
 clear hHeld HT_ HW_ c1 c2 hx
 obtain ⟨z0, z1, z2, z3, z4, z5⟩ := Ps.cz HI.out; obtain ⟨y1, y2⟩ := Ps.cf HI.out
 have h := H.out
 clear H
 by_cases d1 : bt s q.at_ = 41
 ·rw [if_pos d1] at h
  have b1 : (bt s q.at_ == 41) = true := beq_iff_eq.mpr d1
  clear d1
  obtain ⟨at_, rs, deep, many, done, x⟩ := q
  cases rs with
  | nil =>
   simp only [Option.some.injEq, Prod.mk.injEq] at h
   obtain ⟨rfl, rfl⟩ := h
   have hl := HI.out.2.1.1
   obtain ⟨A, c, hvo, _⟩ := Kd.R_reads HI.out.2.1.2.1
   have hvo : vo = .slice A 0 c := by
    rw [show vs.length = 0 from hl] at hvo
    exact hvo
   subst hvo
   go_wp2
   go_ret
   exact ⟨re, col, _, vs, xv, HI.out⟩
  | cons kids rs =>
   obtain ⟨q1, A1, h⟩ := oB h
   simp only [Option.some.injEq, Prod.mk.injEq] at h
   obtain ⟨rfl, rfl⟩ := h
   have hI2 : Pk col w0 w1 g ((⟨at_, kids :: rs, deep, many, done, x⟩ : Ps).pz s vo xv) vs (rs.reverse ++ [kids]) x.f3 := by
    rw [← List.reverse_cons]
    exact HI.out
   obtain ⟨vs0, v, rfl⟩ := hI2.vs_concat
   have hhigh := hI2.2.1.high
   obtain ⟨Av, cv, rfl⟩ := Kd.R_slice hhigh
   obtain ⟨b, c, hvo, e0, e1, e2, e3, hbk, hc⟩ := hI2.2.1.top4
   have hvo : vo = .slice (some ⟨b, 0, none⟩) (rs.reverse.length + 1) c := hvo
   subst hvo
   have HI := Aside0.mk hI2
   have HH := Aside0.mk hhigh
   clear hI2 hhigh
   have RM : rs.reverse.length ≤ 1000000 := by have := RL.out; simp only [List.length_cons, List.length_reverse] at this ⊢; omega
   obtain ⟨m, hm⟩ : ∃ m, m = rs.reverse.length := ⟨_, rfl⟩
   have HM := aE hm
   rw [← hm] at z2 e0 e1 e2 e3 hc RM HI HH
   have ew : wrap64 (m : Int) = (m : Int) := by unfold wrap64; omega
   have ez := Int.toNat_natCast m
   have el : ((m : Int) < (m : Int) + 1) = True := eq_true (by omega)
   have bz : ((m : Int) + 1 == 0) = false := by simp; omega
   clear hm
   have TK := aC trivial (aE trivial)
   obtain ⟨K1, K2⟩ := TK
   go_wp2_with (first | (clear K1; (with_reducible refine gd 5 rfl ?_); refine bx 5 #[.int .i64 0, .string (⟨#[]⟩ : ByteArray), .int .i64 0, .slice none 0 0] 33 rfl rfl ?_; intro gb hg_ w2 hbox hb; have hge : w1.heap.size ≤ gb := Nat.le_of_eq hg_.symm; have hn1 : gb ≠ g := (by have := blk_lt HI.out.1.1; omega); have hn2 : g ≠ gb := hn1.symm; have hb4 := below4 hb hge (.int .i64 0) (.string (⟨#[]⟩ : ByteArray)) (.int .i64 0) (.slice Av kids.length cv); have H4 := HI.out.below hb4; have HP2 := aC (H4.pop rfl) (aC (R_setg H4 (Kd.R_below HH.out hb4) 2 (.slice (some ⟨b, 0, none⟩) rs.reverse.length c)) (aE (HI.out.below hb))); clear H4 hb4 hb hge hg_ HI HH z0 z1 z2 z3 z4 z5 y1 y2; obtain ⟨HPO, HE2, HI⟩ := HP2; obtain ⟨z0, z1, z2, z3, z4, z5⟩ := Ps.cz HI.out; obtain ⟨y1, y2⟩ := Ps.cf HI.out; rw [← HM.out] at HPO HE2; obtain ⟨p0_, p1_, p2_, p3_, f0, f1, f2, f3⟩ := cz4f hbox) | (clear K2; refine gF 84 48 Tryd.func84 #[.pointer (some ⟨g, 0, none⟩), .agg #[.int .i64 0, .string (⟨#[]⟩ : ByteArray), .int .i64 0, .slice Av kids.length cv]] rfl rfl ?_; refine (note_parser_ends.calls (⟨at_, rs, deep, many, done, x⟩ : Ps) q1 s g col (.slice (some ⟨b, 0, none⟩) m c) xv vs0 (⟨0, ⟨#[]⟩, 0, kids⟩ : S33) (.slice Av kids.length cv) w0 _ HPO.out (Kd.R_mono HE2.out (fun k hk => show col k = rs.length + 2 by have h_ := HM.out; rw [List.length_reverse] at h_; omega)) A1.out).mono ?_; rintro e_ w3 ⟨rfl, hi⟩; refine ⟨_, rfl, ?_⟩; clear HI HPO HE2 z0 z1 z2 z3 z4 z5 y1 y2 p0_ p1_ p2_ p3_ f0 f1 f2 f3; obtain ⟨col3, vo3, vs3, xv3, hi⟩ := hi; have HI := Aside0.mk hi; clear hi; obtain ⟨z0, z1, z2, z3, z4, z5⟩ := Ps.cz HI.out; obtain ⟨y1, y2⟩ := Ps.cf HI.out))
   go_ret
   exact ⟨re, col3, vo3, vs3, xv3, HI.out.atS _⟩
 ·rw [if_neg d1] at h
  have b1 : (bt s q.at_ == 41) = false := beq_eq_false_iff_ne.mpr d1
  clear d1
  obtain ⟨at_, rs, deep, many, done, x⟩ := q
  obtain ⟨A, c, hvo, _⟩ := Kd.R_reads HI.out.2.1.2.1
  have hlen : vs.length = rs.length := by have := HI.out.2.1.1; rw [List.length_reverse] at this; exact this
  rw [hlen] at hvo
  subst hvo
  have HL := aE hlen
  clear hlen
  obtain ⟨dp, hdp⟩ : ∃ d, d = mx deep ((rs.length : Int) + 1) := ⟨_, rfl⟩
  obtain ⟨mn, hmn⟩ : ∃ d, d = wrap64 (many + 1) := ⟨_, rfl⟩
  have h : (if done = true then some (false, (⟨at_, rs, dp, mn, done, x⟩ : Ps)) else (if bt s at_ = 40 then (if (rs.length + 1) * 56 ≤ 140737488355328 then some (true, (⟨wrap64 (at_ + 1), [] :: rs, dp, mn, done, x⟩ : Ps)) else none) else (if bt s at_ = 34 then ((note_parser_quoted.l0 k s [] (wrap64 (at_ + 1))).bind fun t => (note_parser_ends.f (⟨t.2.2, rs, dp, mn, done, x⟩ : Ps) ⟨3, t.1, 0, []⟩).bind fun st1 => some (t.2.1, st1)) else ((note_parser_word.f k s at_).bind fun t => (note_parser_ends.f (⟨t.2.2.2.2, rs, dp, mn, done, x⟩ : Ps) ⟨t.1, t.2.1, t.2.2.1, []⟩).bind fun st1 => some (t.2.2.2.1, st1))))) = some (r, q') := by rw [hdp, hmn]; exact h
  have HD := aC hdp (aE hmn)
  clear hdp hmn
  have TK := aC trivial (aE trivial)
  obtain ⟨K1, K2⟩ := TK
  cases done with
  | true =>
   rw [if_pos rfl] at h
   simp only [Option.some.injEq, Prod.mk.injEq] at h
   obtain ⟨rfl, rfl⟩ := h
   go_wp2_with (first | (clear K1; refine gF 85 57 Tryd.func85 #[.pointer (some ⟨g, 0, none⟩)] rfl rfl ?_; refine (note_parser_begins.calls g ((⟨at_, rs, deep, many, true, x⟩ : Ps).pz s (.slice A rs.length c) xv) A rs.length c w0 _ HI.out.pt rfl RL.out).mono ?_; rintro e_ w2 ⟨rfl, hp⟩; refine ⟨_, rfl, ?_⟩; have HQ := aE (show Pk col w0 w2 g ((⟨at_, rs, dp, mn, true, x⟩ : Ps).pz s (.slice A rs.length c) xv) vs rs.reverse x.f3 from by rw [HD.1.out, HD.2.out]; exact HI.out.of_pt hp rfl rfl); clear HI hp; have HI := HQ; clear HQ; clear z0 z1 z2 z3 z4 z5 y1 y2; obtain ⟨z0, z1, z2, z3, z4, z5⟩ := Ps.cz HI.out; obtain ⟨y1, y2⟩ := Ps.cf HI.out))
   go_ret
   exact ⟨re, col, _, vs, xv, HI.out⟩
  | false =>
   rw [if_neg (by decide)] at h
   by_cases d2 : bt s at_ = 40
   ·rw [if_pos d2] at h
    have b2 : (bt s at_ == 40) = true := beq_iff_eq.mpr d2
    clear d2
    by_cases lm : (rs.length + 1) * 56 ≤ 140737488355328
    case neg =>
     rw [if_neg lm] at h
     exact absurd h (by simp)
    rw [if_pos lm] at h
    simp only [Option.some.injEq, Prod.mk.injEq] at h
    obtain ⟨rfl, rfl⟩ := h
    have LM := aE lm
    clear lm
    go_wp2_with (first | (clear K1; refine gF 85 57 Tryd.func85 #[.pointer (some ⟨g, 0, none⟩)] rfl rfl ?_; refine (note_parser_begins.calls g ((⟨at_, rs, deep, many, false, x⟩ : Ps).pz s (.slice A rs.length c) xv) A rs.length c w0 _ HI.out.pt rfl RL.out).mono ?_; rintro e_ w2 ⟨rfl, hp⟩; refine ⟨_, rfl, ?_⟩; have HQ := aE (show Pk col w0 w2 g ((⟨at_, rs, dp, mn, false, x⟩ : Ps).pz s (.slice A rs.length c) xv) vs rs.reverse x.f3 from by rw [HD.1.out, HD.2.out]; exact HI.out.of_pt hp rfl rfl); clear HI hp; have HI := HQ; clear HQ; clear z0 z1 z2 z3 z4 z5 y1 y2; obtain ⟨z0, z1, z2, z3, z4, z5⟩ := Ps.cz HI.out; obtain ⟨y1, y2⟩ := Ps.cf HI.out))
    have HQ := aE HI.out
    clear HQ
    refine st 13 (fun w' => w'.cell? ⟨g, 2, none⟩ = some (.slice A rs.length c)) [9, 12] (bv 13 0) note_parser_step.tab15 note_parser_step.bits15 z2 (fun hHeld HT_ HW_ => ?_)
    have n_ := aE (HI.out.below (below_drew1 (Below.refl _ _)))
    clear HI z0 z1 z2 z3 z4 z5 y1 y2
    have HI := n_
    clear n_
    generalize World.drew _ = w6 at HI hHeld ⊢
    have HH := aE hHeld
    refine pu 0 62 (bv 13 1) HT_ rfl rfl ?_
    refine pu 1 63 (bv 13 3) HT_ rfl rfl ?_
    refine pu 2 64 (bv 13 7) HT_ rfl rfl ?_
    refine tk 3 65 (bv 13 15) HT_ HW_ hHeld rfl rfl (by rintro w' s2; exact yl) ?_
    refine pu 4 66 (bv 13 31) HT_ rfl rfl ?_
    refine pu 5 67 (bv 13 63) HT_ rfl rfl ?_
    refine one_ (i := 6) (N := some 68) (bv 13 127) rfl rfl (one_of HT_.out (by kernel_rfl)) (by decide) (fun K hK => ?_)
    refine value_ (w1 := ?_) (v := ?_) (by rfl) rfl ?_ ?_
    rotate_left 2
    ·go_simp
     constructor
     ·rfl
     ·rfl
    refine hK.out _ _ (hcB (below_alloc (Below.refl _ _) _) HH.out) (fun hHeld => ?_)
    clear hK K
    refine nm (some 68) ?_
    refine one_ (i := 7) (N := some 69) (bv 13 255) rfl rfl (one_of HT_.out (by kernel_rfl)) (by decide) (fun K hK => ?_)
    refine Kd.R_append_step kv (w0 := w0) w0.heap.size (by rfl) (.tmp 65) (.tmp 68) 31 33 (.agg #[(.int .i64 0), (.string ⟨#[]⟩), (.int .i64 0), (.slice none 0 0)]) 56 rfl Tryd.underlying31 info33 rfl (by decide) (by omega) (.slice A rs.length c) vs (.slice none 0 0) [.int .i64 0, .string (⟨#[]⟩ : ByteArray), .int .i64 0, .slice none 0 0] (fun k => col k = 0 ∨ w6.heap.size ≤ k) (fun _ => False) rfl rfl ?aP ?aK ?aF ?aO ?aB ?aS ?aL ?_
    case aP => exact ⟨rfl, rfl⟩
    case aK => exact fun k hk => hk.elim
    case aF => exact fun k hk => .inr hk
    case aO => exact Kd.R_mono HI.out.2.1.2.1 (fun k hk => .inl hk)
    case aB => exact HI.out.1.2.1
    case aS => exact HI.out.1.2.1.size
    case aL => rw [HL.out]; exact LM.out
    intro vo1 w7 ho hb hg hat
    have gp : some g ≠ (Value.slice A rs.length c).ownBlock := Kd.R_ne HI.out.2.1.2.1 HI.out.1.1 (by decide)
    have HJ := aE (HI.out.push hg hb ho)
    obtain ⟨b1_, c1, rfl⟩ := R_ptr ho (by simp)
    have ell : (vs ++ [Value.slice none 0 0]).length = rs.length + 1 := by rw [List.length_append, List.length_singleton, HL.out]
    rw [ell] at HJ ⊢
    obtain ⟨b_, c_, hvo_, e0, e1, e2, e3, ⟨cells, hbk⟩, _⟩ := HJ.out.2.1.top4
    have eb : b_ = b1_ := by
     injection hvo_ with e1_
     injection e1_ with e1_
     injection e1_ with e1_
     exact e1_.symm
    subst eb
    clear hvo_
    rw [List.length_reverse] at e0 e1 e2 e3
    have g0 := blk_frozen hbk (rs.length * 4)
    have g1 := blk_frozen hbk (rs.length * 4 + 1)
    have g2 := blk_frozen hbk (rs.length * 4 + 2)
    have g3 := blk_frozen hbk (rs.length * 4 + 3)
    have hn1 : b_ ≠ g := not_type HJ.out.1.1 (by decide) hbk
    have hn2 : g ≠ b_ := hn1.symm
    have z2 := cell_grown hg gp HH.out
    have y2 : w7.frozen? ⟨g, 2, none⟩ = false := blk_frozen HJ.out.1.1 2
    have ez := Int.toNat_natCast rs.length
    have el : ((rs.length : Int) < (rs.length : Int) + 1) = True := eq_true (by omega)
    clear hbk
    refine hK.out _ _ z2 (fun hHeld => ?_)
    clear hK K ho hb hg hat
    refine nm (some 69) ?_
    refine pu 8 70 (bv 13 511) HT_ rfl rfl ?_
    refine pu 10 71 (bv 13 1535) HT_ rfl rfl ?_
    refine pu 11 72 (bv 13 3583) HT_ rfl rfl ?_
    have key : ∀ W : World, W = (((((w7.setCell ⟨b_, rs.length * 4, none⟩ (.int .i64 0)).setCell ⟨b_, rs.length * 4 + 1, none⟩ (.string ⟨#[]⟩)).setCell ⟨b_, rs.length * 4 + 2, none⟩ (.int .i64 0)).setCell ⟨b_, rs.length * 4 + 3, none⟩ (.slice none 0 0)).setCell ⟨g, 2, none⟩ (.slice (some ⟨b_, 0, none⟩) (rs.length + 1) c1)) ∨ W = (((((w7.setCell ⟨g, 2, none⟩ (.slice (some ⟨b_, 0, none⟩) (rs.length + 1) c1)).setCell ⟨b_, rs.length * 4, none⟩ (.int .i64 0)).setCell ⟨b_, rs.length * 4 + 1, none⟩ (.string ⟨#[]⟩)).setCell ⟨b_, rs.length * 4 + 2, none⟩ (.int .i64 0)).setCell ⟨b_, rs.length * 4 + 3, none⟩ (.slice none 0 0)) → Pk (fun k => if w6.heap.size ≤ k then 0 else col k) w0 W g ((⟨at_, [] :: rs, dp, mn, false, x⟩ : Ps).pz s (.slice (some ⟨b_, 0, none⟩) (rs.length + 1) c1) xv) (vs ++ [.slice none 0 0]) ([] :: rs).reverse x.f3 := by
     rintro W (rfl | rfl)
     ·have h1 := (HJ.out.zero rfl).open_
      rw [List.length_reverse] at h1
      rw [List.reverse_cons]
      exact h1
     ·have h1 := (HJ.out.open_).zero rfl
      rw [List.length_reverse] at h1
      rw [List.reverse_cons]
      exact h1
    refine twoL_ (i := 9) (j := 12) (Ni := none) (Nj := none) (bv 13 4095) (bv 13 7679) rfl rfl rfl rfl (two_of HT_.out (by kernel_rfl)) (by decide) (by decide) (fun K hK => ?_) (fun K hK => ?_)
    ·refine want_ (by rfl) ?_
     unfold Oper.wp
     go_simp
     refine hK.out _ _ ?_
     clear hK K
     refine last_ (i := 12) (N := none) (bv 13 8191) rfl rfl (one_of HT_.out (by kernel_rfl)) (by decide) (fun K hK => ?_)
     refine want_ (by rfl) ?_
     unfold Oper.wp
     go_simp
     refine hK.out _ _ ?_
     clear hK K
     refine done_ (done_of HT_.out (by kernel_rfl)) ?_
     have HI := aE (key _ (.inl rfl))
     clear key hHeld HT_ HW_ e0 e1 e2 e3 g0 g1 g2 g3 z2 y2
     obtain ⟨z0, z1, z2, z3, z4, z5⟩ := Ps.cz HI.out
     obtain ⟨y1, y2⟩ := Ps.cf HI.out
     generalize World.setCell _ _ _ = w8 at HI z0 z1 z2 z3 z4 z5 y1 y2 ⊢
     go_wp2
     go_ret
     exact ⟨re, _, _, _, xv, HI.out.atS _⟩
    ·refine want_ (by rfl) ?_
     unfold Oper.wp
     go_simp
     refine hK.out _ _ ?_
     clear hK K
     refine last_ (i := 9) (N := none) (bv 13 8191) rfl rfl (one_of HT_.out (by kernel_rfl)) (by decide) (fun K hK => ?_)
     refine want_ (by rfl) ?_
     unfold Oper.wp
     go_simp
     refine hK.out _ _ ?_
     clear hK K
     refine done_ (done_of HT_.out (by kernel_rfl)) ?_
     have HI := aE (key _ (.inr rfl))
     clear key hHeld HT_ HW_ e0 e1 e2 e3 g0 g1 g2 g3 z2 y2
     obtain ⟨z0, z1, z2, z3, z4, z5⟩ := Ps.cz HI.out
     obtain ⟨y1, y2⟩ := Ps.cf HI.out
     generalize World.setCell _ _ _ = w8 at HI z0 z1 z2 z3 z4 z5 y1 y2 ⊢
     go_wp2
     go_ret
     exact ⟨re, _, _, _, xv, HI.out.atS _⟩
   ·rw [if_neg d2] at h
    have b2 : (bt s at_ == 40) = false := beq_eq_false_iff_ne.mpr d2
    clear d2
    by_cases d3 : bt s at_ = 34
    ·rw [if_pos d3] at h
     have b3 : (bt s at_ == 34) = true := beq_iff_eq.mpr d3
     clear d3
     obtain ⟨⟨t1, t2, t3⟩, A1, h⟩ := oB h
     obtain ⟨q1, A2, h⟩ := oB h
     simp only [Option.some.injEq, Prod.mk.injEq] at h
     obtain ⟨rfl, rfl⟩ := h
     go_wp2_with (first | (clear K1; refine gF 85 57 Tryd.func85 #[.pointer (some ⟨g, 0, none⟩)] rfl rfl ?_; refine (note_parser_begins.calls g ((⟨at_, rs, deep, many, false, x⟩ : Ps).pz s (.slice A rs.length c) xv) A rs.length c w0 _ HI.out.pt rfl RL.out).mono ?_; rintro e_ w2 ⟨rfl, hp⟩; refine ⟨_, rfl, ?_⟩; have HQ := aE (show Pk col w0 w2 g ((⟨at_, rs, dp, mn, false, x⟩ : Ps).pz s (.slice A rs.length c) xv) vs rs.reverse x.f3 from by rw [HD.1.out, HD.2.out]; exact HI.out.of_pt hp rfl rfl); clear HI hp; have HI := HQ; clear HQ; clear z0 z1 z2 z3 z4 z5 y1 y2; obtain ⟨z0, z1, z2, z3, z4, z5⟩ := Ps.cz HI.out; obtain ⟨y1, y2⟩ := Ps.cf HI.out) | (clear K2; refine gF 86 91 Tryd.func86 #[.pointer (some ⟨g, 0, none⟩)] rfl rfl ?_; have H3 := HI.out.atS (wrap64 (at_ + 1)); refine (note_parser_quoted.calls k g ((⟨wrap64 (at_ + 1), rs, dp, mn, false, x⟩ : Ps).pz s (.slice A rs.length c) xv) t1 t2 t3 w0 _ H3.pt A1.out).mono ?_; rintro e_ w3 ⟨rfl, hp⟩; refine ⟨_, rfl, ?_⟩; have HQ := aE (show Pk col w0 w3 g ((⟨t3, rs, dp, mn, false, x⟩ : Ps).pz s (.slice A rs.length c) xv) vs rs.reverse x.f3 from H3.of_pt hp rfl rfl); clear HI hp H3; have HI := HQ; clear HQ; clear z0 z1 z2 z3 z4 z5 y1 y2; obtain ⟨z0, z1, z2, z3, z4, z5⟩ := Ps.cz HI.out; obtain ⟨y1, y2⟩ := Ps.cf HI.out) | (refine gF 84 97 Tryd.func84 #[.pointer (some ⟨g, 0, none⟩), .agg #[.int .i64 3, .string t1, .int .i64 0, .slice none 0 0]] rfl rfl ?_; refine (note_parser_ends.calls (⟨t3, rs, dp, mn, false, x⟩ : Ps) q1 s g col (.slice A rs.length c) xv vs (⟨3, t1, 0, []⟩ : S33) (.slice none 0 0) w0 _ HI.out (Kd.R_nil _ _ _ _ _) A2.out).mono ?_; rintro e_ w4 ⟨rfl, hi⟩; refine ⟨_, rfl, ?_⟩; have HP := Aside0.mk hi; clear hi))
     go_ret
     exact ⟨re, HP.out⟩
    ·rw [if_neg d3] at h
     have b3 : (bt s at_ == 34) = false := beq_eq_false_iff_ne.mpr d3
     clear d3
     obtain ⟨⟨t1, t2, t3, t4, t5⟩, A1, h⟩ := oB h
     obtain ⟨q1, A2, h⟩ := oB h
     simp only [Option.some.injEq, Prod.mk.injEq] at h
     obtain ⟨rfl, rfl⟩ := h
     have TK := aC trivial (aE trivial)
     obtain ⟨K3, K4⟩ := TK
     go_wp2_with (first | (clear K1; refine gF 85 57 Tryd.func85 #[.pointer (some ⟨g, 0, none⟩)] rfl rfl ?_; refine (note_parser_begins.calls g ((⟨at_, rs, deep, many, false, x⟩ : Ps).pz s (.slice A rs.length c) xv) A rs.length c w0 _ HI.out.pt rfl RL.out).mono ?_; rintro e_ w2 ⟨rfl, hp⟩; refine ⟨_, rfl, ?_⟩; have HQ := aE (show Pk col w0 w2 g ((⟨at_, rs, dp, mn, false, x⟩ : Ps).pz s (.slice A rs.length c) xv) vs rs.reverse x.f3 from by rw [HD.1.out, HD.2.out]; exact HI.out.of_pt hp rfl rfl); clear HI hp; have HI := HQ; clear HQ; clear z0 z1 z2 z3 z4 z5 y1 y2; obtain ⟨z0, z1, z2, z3, z4, z5⟩ := Ps.cz HI.out; obtain ⟨y1, y2⟩ := Ps.cf HI.out) | (clear K2; refine gF 87 101 Tryd.func87 #[.pointer (some ⟨g, 0, none⟩)] rfl rfl ?_; refine (note_parser_word.calls k g ((⟨at_, rs, dp, mn, false, x⟩ : Ps).pz s (.slice A rs.length c) xv) t1 t2 t3 t4 t5 w0 _ HT.out HI.out.pt A1.out).mono ?_; rintro e_ w3 ⟨rfl, hp⟩; refine ⟨_, rfl, ?_⟩; have HQ := aE (show Pk col w0 w3 g ((⟨t5, rs, dp, mn, false, x⟩ : Ps).pz s (.slice A rs.length c) xv) vs rs.reverse x.f3 from HI.out.of_pt hp rfl rfl); clear HI hp; have HI := HQ; clear HQ; clear z0 z1 z2 z3 z4 z5 y1 y2; obtain ⟨z0, z1, z2, z3, z4, z5⟩ := Ps.cz HI.out; obtain ⟨y1, y2⟩ := Ps.cf HI.out) | (clear K3; (with_reducible refine gd 8 rfl ?_); refine bx 8 #[.int .i64 0, .string (⟨#[]⟩ : ByteArray), .int .i64 0, .slice none 0 0] 33 rfl rfl ?_; intro gb hg_ w5 hbox hb; have hge : w3.heap.size ≤ gb := Nat.le_of_eq hg_.symm; have hb4 := below4 hb hge (.int .i64 t1) (.string t2) (.int .i64 t3) (.slice none 0 0); have H4 := aC (HI.out.below hb4) (aC hbox (aE (show gb ≠ g by have := blk_lt HI.out.1.1; omega))); clear HI hb4 hb hge hg_ hbox z0 z1 z2 z3 z4 z5 y1 y2; obtain ⟨HI, BK, NG⟩ := H4; obtain ⟨p0_, p1_, p2_, p3_, f0, f1, f2, f3⟩ := cz4f BK.out) | (clear K4; refine gF 84 106 Tryd.func84 #[.pointer (some ⟨g, 0, none⟩), .agg #[.int .i64 t1, .string t2, .int .i64 t3, .slice none 0 0]] rfl rfl ?_; refine (note_parser_ends.calls (⟨t5, rs, dp, mn, false, x⟩ : Ps) q1 s g col (.slice A rs.length c) xv vs (⟨t1, t2, t3, []⟩ : S33) (.slice none 0 0) w0 _ HI.out (Kd.R_nil _ _ _ _ _) A2.out).mono ?_; rintro e_ w4 ⟨rfl, hi⟩; refine ⟨_, rfl, ?_⟩; have HP := Aside0.mk hi; clear hi))
     go_ret
     exact ⟨re, HP.out⟩
def note_Parse.l0 : Nat → ByteArray → Ps → Option (Int × ByteArray × Int × List S33 × Int)
 | 0, _, _ => none
 | k + 1, s, q => if q.at_ < (s.size : Int) then ((note_parser_step.f k s q).bind fun t => if t.1 = true then ((note_parser_spaces.f k s t.2.at_).bind fun i => note_Parse.l0 k s { t.2 with at_ := i }) else some (0, (⟨#[]⟩ : ByteArray), 0, [], 3)) else (if q.done = true then (if q.many > 400 then some (0, (⟨#[]⟩ : ByteArray), 0, [], 4) else (if q.deep > 20 then some (0, (⟨#[]⟩ : ByteArray), 0, [], 4) else some (q.x.f0, q.x.f1, q.x.f2, q.x.f3, 0))) else some (0, (⟨#[]⟩ : ByteArray), 0, [], 3))
theorem note_Parse.mono_l : ∀ k s q, LeO (note_Parse.l0 k s q) (note_Parse.l0 (k + 1) s q)
 | 0 => fun _ _ r h => by simp [note_Parse.l0] at h
 | k + 1 => by
  intro s q
  unfold note_Parse.l0
  exact LeO.ite (LeO.bind (note_parser_step.mono k s q) (fun _ => LeO.ite (LeO.bind (note_parser_spaces.mono k _ _) (fun _ => note_Parse.mono_l k _ _)) (LeO.refl _))) (LeO.refl _)
def note_Parse.f (k : Nat) (s : ByteArray) : Option (Int × ByteArray × Int × List S33 × Int) := if (s.size : Int) > 20000 then some (0, (⟨#[]⟩ : ByteArray), 0, [], 4) else ((note_parser_spaces.f k s 0).bind fun i => note_Parse.l0 k s ⟨i, [], 0, 0, false, z33⟩)
theorem note_Parse.mono (s : ByteArray) (k : Nat) : LeO (note_Parse.f k s) (note_Parse.f (k + 1) s) := LeO.ite (LeO.refl _) (LeO.bind (note_parser_spaces.mono k s 0) (fun _ => note_Parse.mono_l k _ _))
set_option maxHeartbeats 16000000 in
set_option maxRecDepth 100000 in
theorem note_Parse.calls (k : Nat) (a0 : ByteArray) (r1 : Int) (r2 : ByteArray) (r3 : Int) (r4 : List S33) (r5 : Int) (w : World) (hT0 : TIs w) (h : note_Parse.f k a0 = some (r1, r2, r3, r4, r5)) :
  Calls Tryd.prog 35 #[.string a0] w fun e w' => ∃ v4_ : Value, e = .returned (.tuple #[.agg #[.int .i64 r1, .string r2, .int .i64 r3, v4_], .int .i64 r5]) ∧ Kd.R k33 33 w' w.heap.size (fun _ => True) v4_ r4 ∧ Below w.heap.size w w' := by
 have hu := Tryd.underlying93
 have hu33 := Tryd.underlying33
 have HT := Aside0.mk hT0
 clear hT0
 unfold note_Parse.f at h
 have TK := aC trivial (aE trivial)
 obtain ⟨K1, K2⟩ := TK
 by_cases c0 : (a0.size : Int) > 20000
 ·rw [if_pos c0] at h
  simp only [Option.some.injEq, Prod.mk.injEq] at h
  obtain ⟨rfl, rfl, rfl, rfl, rfl⟩ := h
  have c0' : 20000 < (a0.size : Int) := c0
  have b0 := decide_eq_true c0'
  clear c0 c0'
  go_enter Tryd.func35, Tryd.ntmps35
  go_wp2_with (first | (clear K1; (with_reducible refine gd 2 rfl ?_); refine bx 2 #[.int .i64 0, .string (⟨#[]⟩ : ByteArray), .int .i64 0, .slice none 0 0] 33 rfl rfl ?_; intro gr hg_ wR hbox hb; have GE := aE (Nat.le_of_eq hg_.symm : w.heap.size ≤ gr); have HR := aE hb; have BK := hbox; obtain ⟨p0_, p1_, p2_, p3_, f0, f1, f2, f3⟩ := cz4f BK; clear hb hg_))
  refine bodyPost_ret (results_ct rfl _ _ gr 33 #[.int .i64 0, .string (⟨#[]⟩ : ByteArray), .int .i64 0, .slice none 0 0] (0, 0) _ rfl (fill4 BK _ _ _ _) Tryd.underlying33 rfl (by kernel_rfl)) rfl ?_
  exact ⟨_, rfl, Kd.R_nil _ _ _ _ _, below4 HR.out GE.out _ _ _ _⟩
 ·rw [if_neg c0] at h
  have c0' : ¬ 20000 < (a0.size : Int) := c0
  have b0 := decide_eq_false c0'
  clear c0 c0'
  obtain ⟨i0, A0, h⟩ := oB h
  have H' := aE h
  clear h
  go_enter Tryd.func35, Tryd.ntmps35
  go_wp2_with (first | (clear K1; (with_reducible refine gd 2 rfl ?_); refine bx 2 #[.int .i64 0, .string (⟨#[]⟩ : ByteArray), .int .i64 0, .slice none 0 0] 33 rfl rfl ?_; intro gr hg_ wR hbox hb; have GE := aE (Nat.le_of_eq hg_.symm : w.heap.size ≤ gr); have HR := aE hb; have BK0 := aE hbox; have GR := aE (blk_lt hbox); clear hb hg_ hbox) | (clear K2; (with_reducible refine gd 11 rfl ?_); refine bx 11 #[.string a0, .int .i64 0, .slice none 0 0, .int .i64 0, .int .i64 0, .bool false, .int .i64 0, .string (⟨#[]⟩ : ByteArray), .int .i64 0, .slice none 0 0] 93 rfl rfl ?_; intro g hg_ w2 hbox hb; have HI := aE (show Ip wR w2 g a0 (⟨0, [], 0, 0, false, z33⟩ : Ps) from ⟨fun _ => 0, .slice none 0 0, [], .slice none 0 0, ⟨hbox, hb, Nat.le_of_eq hg_.symm⟩, SkV.nil _ _ _, Kd.R_nil _ _ _ _ _⟩); clear hbox hb hg_) | (refine gF 62 13 Tryd.func62 #[.pointer (some ⟨g, 0, none⟩)] rfl rfl ?_; obtain ⟨col, vo, vs, xv, hP⟩ := HI.out; refine (note_parser_spaces.calls k g _ i0 wR _ hP.pt A0.out).mono ?_; rintro e_ w3 ⟨rfl, hp⟩; refine ⟨_, rfl, ?_⟩; have HQ := aE (show Ip wR w3 g a0 (⟨i0, [], 0, 0, false, z33⟩ : Ps) from ⟨col, vo, vs, xv, hP.of_pt hp rfl rfl⟩); clear HI hP hp; have HI := HQ; clear HQ))
  simp only [Act.put, List.setIfInBounds_toArray, List.set_cons_zero, List.set_cons_succ]
  go_loopg [] k (fun kq w' => ∃ (q : Ps), Aside0 (note_Parse.l0 kq a0 q = some (r1, r2, r3, r4, r5)) ∧ Aside0 (kq ≤ k) ∧ Aside0 (Ip wR w' g a0 q))
  case atStart => exact ⟨_, H', ⟨Nat.le_refl _⟩, HI⟩
  case round =>
   clear H' HI
   obtain ⟨q, HA, HK1, HI⟩ := hrel
   cases gk with
   | zero => exact absurd HA.out (by simp [note_Parse.l0])
   | succ k1 =>
    have h := HA.out
    clear HA
    simp only [note_Parse.l0] at h
    by_cases c1 : q.at_ < (a0.size : Int)
    ·rw [if_pos c1] at h
     have b1 := decide_eq_true c1
     clear c1
     obtain ⟨⟨ok, q1⟩, A1, h⟩ := oB h
     obtain ⟨col, vo, vs, xv, hP⟩ := HI.out
     have HB := aE (below_step HR.out hP.1.2.1)
     have BK := (hP.1.2.1.block gr GR.out).trans BK0.out
     obtain ⟨p0_, p1_, p2_, p3_, f0, f1, f2, f3⟩ := cz4f BK
     obtain ⟨z0, z1, z2, z3, z4, z5, z6, z7, z8, z9⟩ := hP.pt.cz
     replace z1 : wr.cell? ⟨g, 1, none⟩ = some (.int .i64 q.at_) := z1
     cases ok with
     | true =>
      rw [if_pos rfl] at h
      obtain ⟨i1, A2, h⟩ := oB h
      have H' := aE h
      clear h hP BK p0_ p1_ p2_ p3_ f0 f1 f2 f3
      go_wp2_with (first | (refine gF 63 24 Tryd.func63 #[.pointer (some ⟨g, 0, none⟩)] rfl rfl ?_; refine (note_parser_step.calls k1 g a0 q q1 _ wR _ (HT.out.below HR.out) HI.out A1.out).mono ?_; rintro e_ w4 ⟨rfl, hi⟩; refine ⟨_, rfl, ?_⟩; clear HI; have HI := Aside0.mk hi; clear hi) | (refine gF 62 22 Tryd.func62 #[.pointer (some ⟨g, 0, none⟩)] rfl rfl ?_; obtain ⟨col, vo, vs, xv, hP⟩ := HI.out; refine (note_parser_spaces.calls k1 g _ i1 wR _ hP.pt A2.out).mono ?_; rintro e_ w5 ⟨rfl, hp⟩; refine ⟨_, rfl, ?_⟩; have HQ := aE (show Ip wR w5 g a0 ({ q1 with at_ := i1 } : Ps) from ⟨col, vo, vs, xv, hP.of_pt hp rfl rfl⟩); clear HI hP hp; have HI := HQ; clear HQ))
      go_roundg k1
      case measure => have := HK1.out; omega
      case rel => exact ⟨_, H', ⟨by have := HK1.out; omega⟩, HI⟩
     | false =>
      rw [if_neg Bool.false_ne_true] at h
      simp only [Option.some.injEq, Prod.mk.injEq] at h
      obtain ⟨rfl, rfl, rfl, rfl, rfl⟩ := h
      clear hP HB BK p0_ p1_ p2_ p3_ f0 f1 f2 f3
      go_wp2_with (first | (refine gF 63 24 Tryd.func63 #[.pointer (some ⟨g, 0, none⟩)] rfl rfl ?_; refine (note_parser_step.calls k1 g a0 q q1 _ wR _ (HT.out.below HR.out) HI.out A1.out).mono ?_; rintro e_ w4 ⟨rfl, hi⟩; refine ⟨_, rfl, ?_⟩; clear HI; have HI := Aside0.mk hi; clear hi; clear z0 z1 z2 z3 z4 z5 z6 z7 z8 z9; obtain ⟨col, vo, vs, xv, hP⟩ := HI.out; have HB := aE (below_step HR.out hP.1.2.1); have BK := (hP.1.2.1.block gr GR.out).trans BK0.out; obtain ⟨p0_, p1_, p2_, p3_, f0, f1, f2, f3⟩ := cz4f BK))
      refine bodyPost_ret (results_ct rfl _ _ gr 33 #[.int .i64 0, .string (⟨#[]⟩ : ByteArray), .int .i64 0, .slice none 0 0] (0, 0) _ rfl (fill4 BK _ _ _ _) Tryd.underlying33 rfl (by kernel_rfl)) rfl ?_
      exact ⟨_, rfl, Kd.R_nil _ _ _ _ _, below4 HB.out GE.out _ _ _ _⟩
    ·rw [if_neg c1] at h
     have b1 := decide_eq_false c1
     clear c1
     obtain ⟨col, vo, vs, xv, hP⟩ := HI.out
     have HB := aE (below_step HR.out hP.1.2.1)
     have BK := (hP.1.2.1.block gr GR.out).trans BK0.out
     obtain ⟨p0_, p1_, p2_, p3_, f0, f1, f2, f3⟩ := cz4f BK
     obtain ⟨z0, z1, z2, z3, z4, z5, z6, z7, z8, z9⟩ := hP.pt.cz
     replace z1 : wr.cell? ⟨g, 1, none⟩ = some (.int .i64 q.at_) := z1
     replace z3 : wr.cell? ⟨g, 3, none⟩ = some (.int .i64 q.deep) := z3
     replace z4 : wr.cell? ⟨g, 4, none⟩ = some (.int .i64 q.many) := z4
     replace z5 : wr.cell? ⟨g, 5, none⟩ = some (.bool q.done) := z5
     replace z6 : wr.cell? ⟨g, 6, none⟩ = some (.int .i64 q.x.f0) := z6
     replace z7 : wr.cell? ⟨g, 7, none⟩ = some (.string q.x.f1) := z7
     replace z8 : wr.cell? ⟨g, 8, none⟩ = some (.int .i64 q.x.f2) := z8
     replace z9 : wr.cell? ⟨g, 9, none⟩ = some xv := z9
     have hX : Kd.R k33 33 wr wR.heap.size (fun k => col k = 1) xv q.x.f3 := hP.2.2
     have HX := aE hX
     clear hX hP
     cases hd : q.done with
     | true =>
      rw [hd, if_pos rfl] at h
      rw [hd] at z5
      by_cases c2 : q.many > 400
      ·rw [if_pos c2] at h
       have c2' : 400 < q.many := c2
       have b2 := decide_eq_true c2'
       clear c2 c2'
       simp only [Option.some.injEq, Prod.mk.injEq] at h
       obtain ⟨rfl, rfl, rfl, rfl, rfl⟩ := h
       go_wp2
       refine bodyPost_ret (results_ct rfl _ _ gr 33 #[.int .i64 0, .string (⟨#[]⟩ : ByteArray), .int .i64 0, .slice none 0 0] (0, 0) _ rfl (fill4 BK _ _ _ _) Tryd.underlying33 rfl (by kernel_rfl)) rfl ?_
       exact ⟨_, rfl, Kd.R_nil _ _ _ _ _, below4 HB.out GE.out _ _ _ _⟩
      ·rw [if_neg c2] at h
       have c2' : ¬ 400 < q.many := c2
       have b2 := decide_eq_false c2'
       clear c2 c2'
       by_cases c3 : q.deep > 20
       ·rw [if_pos c3] at h
        have c3' : 20 < q.deep := c3
        have b3 := decide_eq_true c3'
        clear c3 c3'
        simp only [Option.some.injEq, Prod.mk.injEq] at h
        obtain ⟨rfl, rfl, rfl, rfl, rfl⟩ := h
        go_wp2
        refine bodyPost_ret (results_ct rfl _ _ gr 33 #[.int .i64 0, .string (⟨#[]⟩ : ByteArray), .int .i64 0, .slice none 0 0] (0, 0) _ rfl (fill4 BK _ _ _ _) Tryd.underlying33 rfl (by kernel_rfl)) rfl ?_
        exact ⟨_, rfl, Kd.R_nil _ _ _ _ _, below4 HB.out GE.out _ _ _ _⟩
       ·rw [if_neg c3] at h
        have c3' : ¬ 20 < q.deep := c3
        have b3 := decide_eq_false c3'
        clear c3 c3'
        simp only [Option.some.injEq, Prod.mk.injEq] at h
        obtain ⟨rfl, rfl, rfl, rfl, rfl⟩ := h
        obtain ⟨Ax, cx, rfl⟩ := Kd.R_slice HX.out
        go_wp2
        refine bodyPost_ret (results_ct rfl _ _ gr 33 #[.int .i64 q.x.f0, .string q.x.f1, .int .i64 q.x.f2, .slice Ax q.x.f3.length cx] (0, 0) _ rfl (fill4 BK _ _ _ _) Tryd.underlying33 rfl (by kernel_rfl)) rfl ?_
        refine ⟨_, rfl, ?_, below4 HB.out GE.out _ _ _ _⟩
        have far : ∀ (W : World) (j : Nat) (u : Value) (k : Nat), wR.heap.size ≤ k → (W.setCell ⟨gr, j, none⟩ u).heap[k]? = W.heap[k]? := fun W j u k hk => Below.heap_setCell W ⟨gr, j, none⟩ u k (by have := GR.out; show k ≠ gr; omega)
        refine Kd.R_lower (Kd.R_mono (Kd.R_move (Kd.R_bound HX.out) (fun k hk => ?_)) (fun _ _ => trivial)) HR.out.size
        rw [far _ _ _ k hk.2.1, far _ _ _ k hk.2.1, far _ _ _ k hk.2.1, far _ _ _ k hk.2.1]
     | false =>
      rw [hd, if_neg (by decide)] at h
      rw [hd] at z5
      simp only [Option.some.injEq, Prod.mk.injEq] at h
      obtain ⟨rfl, rfl, rfl, rfl, rfl⟩ := h
      go_wp2
      refine bodyPost_ret (results_ct rfl _ _ gr 33 #[.int .i64 0, .string (⟨#[]⟩ : ByteArray), .int .i64 0, .slice none 0 0] (0, 0) _ rfl (fill4 BK _ _ _ _) Tryd.underlying33 rfl (by kernel_rfl)) rfl ?_
      exact ⟨_, rfl, Kd.R_nil _ _ _ _ _, below4 HB.out GE.out _ _ _ _⟩
end Go.Proofs.YtacdchogjpeffaaDoor.PNoteParses
