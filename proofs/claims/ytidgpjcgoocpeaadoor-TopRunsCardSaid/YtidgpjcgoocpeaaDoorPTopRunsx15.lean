-- printed (wip/tools/myprint.py)
import Derived.Test.YtidgpjcgoocpeaaDoorPTopRunsx0
import Derived.Test.YtidgpjcgoocpeaaDoorPTopRunsx5
import Derived.Test.YtidgpjcgoocpeaaDoorPTopRunsx10
import Derived.Test.YtidgpjcgoocpeaaDoorPTopRunsx11
import Derived.Test.YtidgpjcgoocpeaaDoorPTopRunsx12
import Derived.Test.YtidgpjcgoocpeaaDoorPTopRunsx13
import Derived.Test.YtidgpjcgoocpeaaDoorPTopRunsx14
namespace Go.Proofs.YtidgpjcgoocpeaaDoor.PTopRuns
open Go.RowKit Go.Proofs.YtidgpjcgoocpeaaDoorW.PrintWords Go.Proofs.YtidgpjcgoocpeaaDoorW.PrintLast Go.Proofs.YtidgpjcgoocpeaaDoorW.PrintMore
attribute [local go_sem] max2_int min2_int max_two min_two max_three min_three max_four min_four
set_option linter.unusedVariables false
set_option linter.unusedSimpArgs false
def Tw (w0 wT w : World) (g gs : Nat) (l0 : List Int) (p : Int) (o : Bool) (W a col : Int) (Ab : Option Addr) (nb cb : Nat) (u : Value) (out : List Int) : Prop :=
 IsS107 w0 w g l0 p o ∧ Below w0.heap.size w0 w ∧ KeepBut wT w g none ∧ w.heap[gs]? = some (.cells #[.int .i64 W, .int .i64 a, .int .i64 col, .slice Ab nb cb, u] 93 (0, 0)) ∧ Kd.R (Kd.int .u8) 5 w wT.heap.size (fun _ => True) u out ∧ wT.heap.size ≤ gs ∧ g < wT.heap.size
theorem Tw.hi {w0 wT w : World} {g gs : Nat} {l0 : List Int} {p : Int} {o : Bool} {W a col : Int} {Ab : Option Addr} {nb cb : Nat} {u : Value} {out : List Int} (h : Tw w0 wT w g gs l0 p o W a col Ab nb cb u out) : IsS107 w0 w g l0 p o := h.1
theorem Tw.hb {w0 wT w : World} {g gs : Nat} {l0 : List Int} {p : Int} {o : Bool} {W a col : Int} {Ab : Option Addr} {nb cb : Nat} {u : Value} {out : List Int} (h : Tw w0 wT w g gs l0 p o W a col Ab nb cb u out) : Below w0.heap.size w0 w := h.2.1
theorem Tw.hk {w0 wT w : World} {g gs : Nat} {l0 : List Int} {p : Int} {o : Bool} {W a col : Int} {Ab : Option Addr} {nb cb : Nat} {u : Value} {out : List Int} (h : Tw w0 wT w g gs l0 p o W a col Ab nb cb u out) : KeepBut wT w g none := h.2.2.1
theorem Tw.hc {w0 wT w : World} {g gs : Nat} {l0 : List Int} {p : Int} {o : Bool} {W a col : Int} {Ab : Option Addr} {nb cb : Nat} {u : Value} {out : List Int} (h : Tw w0 wT w g gs l0 p o W a col Ab nb cb u out) : w.heap[gs]? = some (.cells #[.int .i64 W, .int .i64 a, .int .i64 col, .slice Ab nb cb, u] 93 (0, 0)) := h.2.2.2.1
theorem Tw.hr {w0 wT w : World} {g gs : Nat} {l0 : List Int} {p : Int} {o : Bool} {W a col : Int} {Ab : Option Addr} {nb cb : Nat} {u : Value} {out : List Int} (h : Tw w0 wT w g gs l0 p o W a col Ab nb cb u out) : Kd.R (Kd.int .u8) 5 w wT.heap.size (fun _ => True) u out := h.2.2.2.2.1
theorem Tw.hs {w0 wT w : World} {g gs : Nat} {l0 : List Int} {p : Int} {o : Bool} {W a col : Int} {Ab : Option Addr} {nb cb : Nat} {u : Value} {out : List Int} (h : Tw w0 wT w g gs l0 p o W a col Ab nb cb u out) : wT.heap.size ≤ gs := h.2.2.2.2.2.1
theorem Tw.keep {w0 wT w w' : World} {g gs : Nat} {l0 : List Int} {p p' : Int} {o o' : Bool} {W a col : Int} {Ab : Option Addr} {nb cb : Nat} {u : Value} {out : List Int} (h : Tw w0 wT w g gs l0 p o W a col Ab nb cb u out) (hi : IsS107 w0 w' g l0 p' o') (hb : Below w0.heap.size w0 w') (hk : KeepBut w w' g none) : Tw w0 wT w' g gs l0 p' o' W a col Ab nb cb u out := by
 obtain ⟨h1, h2, h3, h4, h5, h6, h7⟩ := h
 exact ⟨hi, hb, h3.trans hk (.inl rfl), hk.blk h4 (by omega) (by simp), Kd.R_mono (Kd.R_step (Kd.R_bound h5) (fun k_ h_ hl_ => hk.2 k_ hl_ (Nat.ne_of_gt (Nat.lt_of_lt_of_le h7 h_.2.1)) (by simp))) (fun _ _ => trivial), h6, h7⟩
theorem Tw.step {w0 wT w w' : World} {g gs : Nat} {l0 : List Int} {p : Int} {o : Bool} {W a a' col col' : Int} {Ab : Option Addr} {nb cb : Nat} {u u' : Value} {out out' : List Int} (h : Tw w0 wT w g gs l0 p o W a col Ab nb cb u out) (hb : Below wT.heap.size w w') (h4' : w'.heap[gs]? = some (.cells #[.int .i64 W, .int .i64 a', .int .i64 col', .slice Ab nb cb, u'] 93 (0, 0))) (h5' : Kd.R (Kd.int .u8) 5 w' wT.heap.size (fun _ => True) u' out') : Tw w0 wT w' g gs l0 p o W a' col' Ab nb cb u' out' := by
 obtain ⟨h1, h2, h3, h4, h5, h6, h7⟩ := h
 have hg := h1.ge
 refine ⟨?_, below_via h2 hb (by omega), ⟨Nat.le_trans h3.1 hb.size, fun i hi hne hr => (hb.block i hi).trans (h3.2 i hi hne hr)⟩, h4', h5', h6, h7⟩
 obtain ⟨A, c, x1, x2, x3⟩ := h1
 exact ⟨A, c, (hb.block g h7).trans x1, x2, x3⟩
def runs_fill.T0 : Bool × List (List Nat × List Nat) := (true, [([], []), ([], []), ([1], [1]), ([2], [2]), ([3], [3]), ([], []), ([5], [5]), ([6], [6]), ([], []), ([], []), ([9], [9]), ([10], [10]), ([11], [11]), ([12], [12]), ([8, 13], [8, 13]), ([7, 14], [7, 14]), ([4, 15, 15], [4, 15]), ([0, 0, 1, 2, 3, 4, 5, 6, 7, 8, 9, 10, 11, 12, 13, 14, 15, 16], [0]), ([17, 0, 1, 2, 3, 4, 5, 6, 7, 8, 9, 10, 11, 12, 13, 14, 15, 16], [17]), ([18, 16, 16, 0, 1, 2, 3, 4, 5, 6, 7, 8, 9, 10, 11, 12, 13, 14, 15, 16], [16, 18])])
def runs_fill.B0 : List Nat := [0, 0, 2, 6, 14, 0, 32, 96, 0, 0, 512, 1536, 3584, 7680, 16128, 32736, 65534, 131071, 262143, 524287]
theorem runs_fill.tab0 : rtab .any (opsOf Tryd.f63 0) = runs_fill.T0 := by kernel_rfl
theorem runs_fill.bits0 : waitsOk runs_fill.T0.2 runs_fill.B0 = true := by kernel_rfl
def runs_fill.f (k : Nat) (out : List Int) (x c : Int) : Option (List Int) := (slices_Repeat_byte_byte.f k [c % 256] (wrap64 (x - (out.length : Int)))).bind fun t => if out.length + t.length < 140737488355328 then some (out ++ t) else none
set_option maxHeartbeats 8000000 in
set_option maxRecDepth 100000 in
theorem runs_fill.calls (k : Nat) (w0 wT w : World) (g gs : Nat) (l0 : List Int) (p : Int) (o : Bool) (W a col : Int) (Ab : Option Addr) (nb cb : Nat) (u : Value) (out : List Int) (x c : Int) (r : List Int) (hT : Tw w0 wT w g gs l0 p o W a col Ab nb cb u out) (h : runs_fill.f k out x c = some r) :
  Calls Tryd.prog 63 #[.pointer (some ⟨gs, 0, none⟩), .int .i64 x, .int .i64 c] w fun e w' => e = .returned (.tuple #[]) ∧ ∃ u', Tw w0 wT w' g gs l0 p o W x col Ab nb cb u' r := by
 have hu93 := Tryd.underlying93
 have HTW := Aside0.mk hT
 obtain ⟨h1, h2, h3, h4, h5, h6, h7⟩ := hT
 unfold runs_fill.f at h
 obtain ⟨t, A1, h⟩ := Option.bind_eq_some_iff.mp h
 by_cases lm : out.length + t.length < 140737488355328
 ·rw [if_pos lm] at h
  obtain rfl := Option.some.inj h
  obtain ⟨Au, cu, eu⟩ := Kd.R_slice h5
  subst eu
  obtain ⟨yy, hyy⟩ : ∃ yy : List Int, yy = out ++ t := ⟨_, rfl⟩
  have n_ := aC A1 (aC lm (aC hyy (aC h4 (aC h5 (aC h6 (aC h3.1 (aE (Below.refl wT.heap.size w))))))))
  rw [← hyy]
  clear A1 lm hyy h1 h2 h3 h4 h5 h6
  obtain ⟨A1, LM, Nyy, BK, HO, GS, SZ, HB⟩ := n_
  go_enter Tryd.func63, Tryd.ntmps63
  go_wp2
  have n_ := aC (blk_drew BK.out) (aC (Kd.R_drew HO.out) (aE (below_drew1 HB.out)))
  clear BK HO HB
  obtain ⟨BK, HO, HB⟩ := n_
  refine st 20 (fun w' => w'.cell? ⟨gs, 4, none⟩ = some (.slice Au out.length cu)) [19] (bv 20 0) runs_fill.tab0 runs_fill.bits0 (kc4 BK.out) (fun hHeld HT_ HW_ => ?_)
  generalize w.drew = w12 at BK HO HB hHeld ⊢
  refine pu 0 6 (bv 20 1) HT_ rfl rfl ?_
  refine pu 1 7 (bv 20 3) HT_ rfl rfl ?_
  refine pu 2 8 (bv 20 7) HT_ rfl rfl ?_
  refine pu 3 9 (bv 20 15) HT_ rfl rfl ?_
  refine tk 4 10 (bv 20 31) HT_ HW_ hHeld rfl rfl (by rintro w' s0; exact yl) ?_
  refine pu 5 11 (bv 20 63) HT_ rfl rfl ?_
  refine pu 6 12 (bv 20 127) HT_ rfl rfl ?_
  refine pu 8 14 (bv 20 383) HT_ rfl rfl ?_
  refine pu 9 15 (bv 20 895) HT_ rfl rfl ?_
  refine pu 10 16 (bv 20 1919) HT_ rfl rfl ?_
  refine pu 11 17 (bv 20 3967) HT_ rfl rfl ?_
  refine tk 12 18 (bv 20 8063) HT_ HW_ hHeld rfl rfl (by rintro w' s0; exact yl) ?_
  refine pu 13 19 (bv 20 16255) HT_ rfl rfl ?_
  refine pu 14 20 (bv 20 32639) HT_ rfl rfl ?_
  refine one_ (i := 7) (N := some 13) (bv 20 32767) rfl rfl (one_of HT_.out (by kernel_rfl)) (by decide) (fun K hK => ?_)
  refine Kd.R_lit_step (Kd.int .u8) (w0 := w12) w12.heap.size 5 (by rfl) (N := 13) rfl (xs := [c % 256]) (inner := [.int .u8 (c % 256)]) (ok := fun _ => True) (okp := fun _ => True) ?hr ?hp (fun _ hk => hk) trivial (Below.refl _ _) (Nat.le_refl _) (by simp) ?_
  (case hr => first | (go_simp; done) | (go_simp; rfl))
  (case hp => exact (Reps.one (show Kd.M (Kd.int .u8) _ _ _ (c % 256) [.int .u8 (c % 256)] from rfl) (Reps.none _ _)))
  intro v13 w13 ho13 hb hg13 hn13
  have n_ := aC (blk_below BK.out hb) (aC ho13 (aC (Kd.R_below HO.out hb) (aE (below_via HB.out hb (Nat.le_trans SZ.out HB.out.size)))))
  clear BK HO HB ho13 hb hg13 hn13
  obtain ⟨BK, HO13, HO, HB⟩ := n_
  obtain ⟨A13, c13, e13⟩ := Kd.R_slice HO13.out
  subst e13
  refine hK.out _ _ (kc4 BK.out) (fun hHeld => ?_)
  clear hK K
  refine nm (some 13) ?_
  refine one_ (i := 15) (N := some 21) (bv 20 65535) rfl rfl (one_of HT_.out (by kernel_rfl)) (by decide) (fun K hK => ?_)
  refine gK Tryd.func48 rfl #[.slice A13 [c % 256].length c13, .int .i64 (wrap64 (x - (out.length : Int)))] rfl rfl ?_
  with_reducible refine (slices_Repeat_byte_byte.calls k A13 c13 [c % 256] (wrap64 (x - (out.length : Int))) t _ (Kd.R_reads' HO13.out).2.2 (Kd.R_reads' HO13.out).2.1 A1.out).mono ?_
  rintro e w14 ⟨v21, rfl, ho, hb⟩
  refine ⟨_, rfl, ?_⟩
  have n_ := aC (blk_below BK.out hb) (aC ho (aC (Kd.R_below HO.out hb) (aE (below_via HB.out hb (Nat.le_trans SZ.out HB.out.size)))))
  clear BK HO HB HO13 ho hb
  obtain ⟨BK, HO21, HO, HB⟩ := n_
  obtain ⟨A21, c21, e21⟩ := Kd.R_slice HO21.out
  subst e21
  refine hK.out _ _ (kc4 BK.out) (fun hHeld => ?_)
  clear hK K
  refine nm (some 21) ?_
  refine one_ (i := 16) (N := some 22) (bv 20 131071) rfl rfl (one_of HT_.out (by kernel_rfl)) (by decide) (fun K hK => ?_)
  refine Kd.R_append_rows_step (Kd.int .u8) (w0 := w14) wT.heap.size (by rfl) (.tmp 10) (.tmp 21) 22 5 (.int .u8 0) 1 rfl Tryd.underlying22 info5 rfl (by decide) (by omega) (.slice Au out.length cu) out t _ _ _ (fun _ => True) (fun _ => False) rfl rfl ?aO ?aR (fun _ _ h => h) (fun _ h => h.elim) ?aF ?aB ?aS ?aL ?_
  (case aR => exact (Kd.R_reads' HO21.out).2.2)
  (case aB => exact Below.refl _ _)
  (case aF => exact (fun _ _ => trivial))
  (case aO => exact HO.out)
  (case aS => exact Nat.le_trans SZ.out HB.out.size)
  (case aL => have := LM.out; omega)
  intro v22 w15 ho hb hg hat
  rw [← Nyy.out] at ho
  have n_ := aC (blk_grown (g := gs) BK.out hg (Kd.R_ne HO.out BK.out (by decide))) (aC ho (aE (below_via HB.out hb (Nat.le_refl _))))
  clear BK HO HO21 HB ho hb hg hat
  obtain ⟨BK, HO, HB⟩ := n_
  obtain ⟨A22, c22, e22⟩ := Kd.R_slice HO.out
  subst e22
  refine hK.out _ _ (kc4 BK.out) (fun hHeld => ?_)
  clear hK K
  refine nm (some 22) ?_
  refine pu 17 23 (bv 20 262143) HT_ rfl rfl ?_
  refine pu 18 24 (bv 20 524287) HT_ rfl rfl ?_
  refine last_ (i := 19) (N := none) (bv 20 1048575) rfl rfl (one_of HT_.out (by kernel_rfl)) (by decide) (fun K hK => ?_)
  refine want_ (by rfl) ?_
  obtain ⟨hcz0, hcz1, hcz2, hcz3, hcz4, hfz0, hfz1, hfz2, hfz3, hfz4⟩ := cz5f BK.out
  unfold Oper.wp
  go_simp
  refine hK.out _ _ ?_
  clear hK K
  refine done_ (done_of HT_.out (by kernel_rfl)) ?_
  clear hcz0 hcz1 hcz2 hcz3 hcz4 hfz0 hfz1 hfz2 hfz3 hfz4 hHeld
  have BK2 := blk_put (cs := #[.int .i64 W, .int .i64 a, .int .i64 col, .slice Ab nb cb, .slice Au out.length cu]) BK.out 4 (.slice A22 yy.length c22) rfl
  obtain ⟨hcz0, hcz1, hcz2, hcz3, hcz4, hfz0, hfz1, hfz2, hfz3, hfz4⟩ := cz5f BK2
  go_wp2
  go_end0
  refine ⟨rfl, .slice A22 yy.length c22, Tw.step HTW.out (below_put (below_put HB.out GS.out) GS.out) (blk_put (cs := #[.int .i64 W, .int .i64 a, .int .i64 col, .slice Ab nb cb, .slice A22 yy.length c22]) BK2 1 _ rfl) ?_⟩
  exact Kd.R_mono (Kd.R_far (p := ⟨gs, 1, none⟩) (Kd.R_far (p := ⟨gs, 4, none⟩) (Kd.R_types HO.out BK.out (by decide)) (fun _ hk => hk.2) _) (fun _ hk => hk.2) _) (fun _ _ => trivial)
 ·rw [if_neg lm] at h
  exact absurd h (by simp)
theorem Tw.run {w0 wT w : World} {g gs gx : Nat} {l0 : List Int} {p : Int} {o : Bool} {W a col : Int} {Ab : Option Addr} {nb cb : Nat} {u : Value} {out : List Int} {k : Nat} {c r1 r2 r3 : Int} {r4 : Bool} (hT : Tw w0 wT w g gs l0 p o W a col Ab nb cb u out) (hX : Xok g gx tU tC0 tC1 tW wT) (h : runs_reader_run.f k l0 p o c = some (r1, r2, r3, r4)) : Calls Tryd.prog 47 #[.pointer (some ⟨gx, 0, none⟩), .int .i64 c] w fun e w' => e = .returned (.tuple #[.int .i64 r1, .int .i64 r2]) ∧ Tw w0 wT w' g gs l0 r3 r4 W a col Ab nb cb u out := by
 refine (runs_reader_run.calls k g l0 p o c r1 r2 r3 r4 w0 w hT.hi hT.hb gx (hX.keep hT.hk) h).mono ?_
 rintro e w1 ⟨rfl, hi, hb, hk⟩
 exact ⟨rfl, hT.keep hi hb hk⟩
theorem Tw.fill {w0 wT w : World} {g gs : Nat} {l0 : List Int} {p : Int} {o : Bool} {W a col : Int} {Ab : Option Addr} {nb cb : Nat} {u : Value} {out : List Int} {k : Nat} {x c : Int} {r : List Int} (hT : Tw w0 wT w g gs l0 p o W a col Ab nb cb u out) (h : runs_fill.f k out x c = some r) : Calls Tryd.prog 63 #[.pointer (some ⟨gs, 0, none⟩), .int .i64 x, .int .i64 c] w fun e w' => e = .returned (.tuple #[]) ∧ ∃ (A : Option Addr) (c' : Nat), Tw w0 wT w' g gs l0 p o W x col Ab nb cb (.slice A r.length c') r := by
 refine (runs_fill.calls k w0 wT w g gs l0 p o W a col Ab nb cb u out x c r hT h).mono ?_
 rintro e w1 ⟨rfl, u', h1⟩
 obtain ⟨A, c', e'⟩ := Kd.R_slice h1.hr
 subst e'
 exact ⟨rfl, A, c', h1⟩
def runs_flat.f (k : Nat) (l0 : List Int) (p : Int) (o : Bool) (W a col : Int) (out : List Int) : Option (Int × Int × Bool × Int × List Int) :=
 (runs_reader_run.f k l0 p o col).bind fun n => (if n.2.1 = 0 then (if n.1 = 0 ∧ a ≥ 0 then some (3, n.2.2.1, n.2.2.2, a, out) else (if wrap64 ((out.length : Int) + n.1) > W then some (3, n.2.2.1, n.2.2.2, a, out) else
  ((runs_reader_run.f k l0 n.2.2.1 n.2.2.2 (wrap64 (1 - col))).bind fun m => (if m.2.1 = 0 then (if m.1 > wrap64 (W - wrap64 ((out.length : Int) + n.1)) then some (3, m.2.2.1, m.2.2.2, a, out) else (if (m.1 = 0 ∧ wrap64 ((out.length : Int) + n.1) = W) ∨ (m.1 ≠ 0 ∧ wrap64 ((out.length : Int) + n.1) ≠ W) then
   ((runs_fill.f k out (wrap64 ((out.length : Int) + n.1)) col).bind fun out1 => (runs_fill.f k out1 (wrap64 (wrap64 ((out.length : Int) + n.1) + m.1)) (wrap64 (1 - col))).bind fun out2 => some (0, m.2.2.1, m.2.2.2, wrap64 (wrap64 ((out.length : Int) + n.1) + m.1), out2))
   else some (3, m.2.2.1, m.2.2.2, a, out))) else some (m.2.1, m.2.2.1, m.2.2.2, a, out))))) else some (n.2.1, n.2.2.1, n.2.2.2, a, out))
theorem runs_fill.mono : ∀ a0 a1 a2 k, LeO (runs_fill.f k a0 a1 a2) (runs_fill.f (k + 1) a0 a1 a2) := by
 intro a0 a1 a2 k
 unfold runs_fill.f
 exact LeO.bind (slices_Repeat_byte_byte.mono _ _ k) (fun t => LeO.refl _)
theorem runs_flat.mono : ∀ a0 a1 a2 a3 a4 a5 a6 k, LeO (runs_flat.f k a0 a1 a2 a3 a4 a5 a6) (runs_flat.f (k + 1) a0 a1 a2 a3 a4 a5 a6) := by
 intro a0 a1 a2 a3 a4 a5 a6 k
 unfold runs_flat.f
 exact LeO.bind (runs_reader_run.mono _ _ _ _ k) (fun n => LeO.ite (LeO.ite (LeO.refl _) (LeO.ite (LeO.refl _) (LeO.bind (runs_reader_run.mono _ _ _ _ k) (fun m => LeO.ite (LeO.ite (LeO.refl _) (LeO.ite (LeO.bind (runs_fill.mono _ _ _ k) (fun x => LeO.bind (runs_fill.mono _ _ _ k) (fun y => LeO.refl _))) (LeO.refl _))) (LeO.refl _))))) (LeO.refl _))
set_option maxHeartbeats 16000000 in
set_option maxRecDepth 100000 in
theorem runs_flat.calls (k : Nat) (w0 wT w : World) (g gs gx : Nat) (l0 : List Int) (p : Int) (o : Bool) (W a col : Int) (Ab : Option Addr) (nb cb : Nat) (u : Value) (out : List Int) (r1 r2 : Int) (r3 : Bool) (r4 : Int) (r5 : List Int) (hT : Tw w0 wT w g gs l0 p o W a col Ab nb cb u out) (hX : Xok g gx tU tC0 tC1 tW wT) (h : runs_flat.f k l0 p o W a col out = some (r1, r2, r3, r4, r5)) :
  Calls Tryd.prog 62 #[.pointer (some ⟨gx, 0, none⟩), .pointer (some ⟨gs, 0, none⟩)] w fun e w' => e = .returned (.int .i64 r1) ∧ ∃ u', Tw w0 wT w' g gs l0 r2 r3 W r4 col Ab nb cb u' r5 := by
 have hu93 := Tryd.underlying93
 have HT := Aside0.mk hT
 have HX := Aside0.mk hX
 clear hT hX
 obtain ⟨Au, cu, eu⟩ := Kd.R_slice HT.out.hr
 subst eu
 obtain ⟨⟨n1, n2, n3, n4⟩, A1, H⟩ := Option.bind_eq_some_iff.mp h
 clear h
 have A1 := Aside0.mk A1
 have HH := Aside0.mk H
 clear H
 have H := HH.out
 clear HH
 try dsimp only at H
 rcases iE H with H1 | H1 <;> clear H <;> obtain ⟨H, c2b0, c2b1, c2⟩ := H1
 ·by_cases c3 : n1 = 0
  ·have c3_ := c3
   have c3b0 := beq_iff_eq.mpr c3
   have c3b1 := bne_eq_false_iff_eq.mpr c3
   by_cases c4 : a ≥ 0
   ·rw [if_pos ⟨c3, c4⟩] at H
    have c4b0 := decide_eq_true c4
    clear c3 c3_ c4
    simp only [Option.some.injEq, Prod.mk.injEq] at H
    obtain ⟨rfl, rfl, rfl, rfl, rfl⟩ := H
    obtain ⟨z0, z1, z2, z3, z4, y0, y1, y2, y3, y4⟩ := cz5f HT.out.hc
    go_enter Tryd.func62, Tryd.ntmps62
    go_wp2_with (first | (refine gF 47 15 Tryd.func47 #[.pointer (some ⟨gx, 0, none⟩), .int .i64 col] rfl rfl ?_; refine (HT.out.run HX.out A1.out).mono ?_; rintro e w1 ⟨rfl, h1⟩; refine ⟨_, rfl, ?_⟩; clear HT; have HT := aE h1; obtain ⟨z0, z1, z2, z3, z4, y0, y1, y2, y3, y4⟩ := cz5f HT.out.hc))
    go_ret
    exact ⟨re, _, HT.out⟩
   ·rw [if_neg (fun z => c4 z.2)] at H
    have c4b0 := decide_eq_false c4
    clear c3 c3_ c4
    rcases iL H with H1 | H1 <;> clear H <;> obtain ⟨H, c5b0⟩ := H1
    ·simp only [Option.some.injEq, Prod.mk.injEq] at H
     obtain ⟨rfl, rfl, rfl, rfl, rfl⟩ := H
     obtain ⟨z0, z1, z2, z3, z4, y0, y1, y2, y3, y4⟩ := cz5f HT.out.hc
     go_enter Tryd.func62, Tryd.ntmps62
     go_wp2_with (first | (refine gF 47 15 Tryd.func47 #[.pointer (some ⟨gx, 0, none⟩), .int .i64 col] rfl rfl ?_; refine (HT.out.run HX.out A1.out).mono ?_; rintro e w1 ⟨rfl, h1⟩; refine ⟨_, rfl, ?_⟩; clear HT; have HT := aE h1; obtain ⟨z0, z1, z2, z3, z4, y0, y1, y2, y3, y4⟩ := cz5f HT.out.hc))
     go_ret
     exact ⟨re, _, HT.out⟩
    ·obtain ⟨⟨m1, m2, m3, m4⟩, A20, H⟩ := Option.bind_eq_some_iff.mp H
     have A2 := Aside0.mk (show runs_reader_run.f k l0 n3 n4 (wrap64 (1 - col)) = some (m1, m2, m3, m4) from A20)
     clear A20
     try dsimp only at H
     by_cases d2 : m2 = 0
     ·rw [if_pos d2] at H
      have d2b0 := beq_iff_eq.mpr d2
      have d2b1 := bne_eq_false_iff_eq.mpr d2
      clear d2
      by_cases d3 : m1 > wrap64 (W - (wrap64 ((out.length : Int) + n1)))
      ·rw [if_pos d3] at H
       have d3b0 := decide_eq_true d3
       clear d3
       simp only [Option.some.injEq, Prod.mk.injEq] at H
       obtain ⟨rfl, rfl, rfl, rfl, rfl⟩ := H
       obtain ⟨z0, z1, z2, z3, z4, y0, y1, y2, y3, y4⟩ := cz5f HT.out.hc
       go_enter Tryd.func62, Tryd.ntmps62
       go_wp2_with (first | (refine gF 47 15 Tryd.func47 #[.pointer (some ⟨gx, 0, none⟩), .int .i64 col] rfl rfl ?_; refine (HT.out.run HX.out A1.out).mono ?_; rintro e w1 ⟨rfl, h1⟩; refine ⟨_, rfl, ?_⟩; clear HT; have HT := aE h1; obtain ⟨z0, z1, z2, z3, z4, y0, y1, y2, y3, y4⟩ := cz5f HT.out.hc) | (refine gF 47 52 Tryd.func47 #[.pointer (some ⟨gx, 0, none⟩), .int .i64 (wrap64 (1 - col))] rfl rfl ?_; refine (HT.out.run HX.out A2.out).mono ?_; rintro e w1 ⟨rfl, h1⟩; refine ⟨_, rfl, ?_⟩; clear HT; have HT := aE h1; obtain ⟨z0, z1, z2, z3, z4, y0, y1, y2, y3, y4⟩ := cz5f HT.out.hc))
       go_ret
       exact ⟨re, _, HT.out⟩
      ·rw [if_neg d3] at H
       have d3b0 := decide_eq_false d3
       clear d3
       by_cases d4 : m1 = 0
       ·have d4_ := d4
        have d4b0 := beq_iff_eq.mpr d4
        have d4b1 := bne_eq_false_iff_eq.mpr d4
        by_cases d5 : (wrap64 ((out.length : Int) + n1)) = W
        ·have d5_ := d5
         have d5b0 := beq_iff_eq.mpr d5
         have d5b1 := bne_eq_false_iff_eq.mpr d5
         rw [if_pos (.inl ⟨d4, d5⟩)] at H
         clear d4 d4_ d5 d5_
         obtain ⟨out1, A30, H⟩ := Option.bind_eq_some_iff.mp H
         obtain ⟨out2, A40, H⟩ := Option.bind_eq_some_iff.mp H
         have A3 := Aside0.mk A30
         have A4 := Aside0.mk A40
         clear A30 A40
         simp only [Option.some.injEq, Prod.mk.injEq] at H
         obtain ⟨rfl, rfl, rfl, rfl, rfl⟩ := H
         obtain ⟨z0, z1, z2, z3, z4, y0, y1, y2, y3, y4⟩ := cz5f HT.out.hc
         go_enter Tryd.func62, Tryd.ntmps62
         go_wp2_with (first | (refine gF 47 15 Tryd.func47 #[.pointer (some ⟨gx, 0, none⟩), .int .i64 col] rfl rfl ?_; refine (HT.out.run HX.out A1.out).mono ?_; rintro e w1 ⟨rfl, h1⟩; refine ⟨_, rfl, ?_⟩; clear HT; have HT := aE h1; obtain ⟨z0, z1, z2, z3, z4, y0, y1, y2, y3, y4⟩ := cz5f HT.out.hc) | (refine gF 47 52 Tryd.func47 #[.pointer (some ⟨gx, 0, none⟩), .int .i64 (wrap64 (1 - col))] rfl rfl ?_; refine (HT.out.run HX.out A2.out).mono ?_; rintro e w1 ⟨rfl, h1⟩; refine ⟨_, rfl, ?_⟩; clear HT; have HT := aE h1; obtain ⟨z0, z1, z2, z3, z4, y0, y1, y2, y3, y4⟩ := cz5f HT.out.hc) | (refine gF 63 83 Tryd.func63 #[.pointer (some ⟨gs, 0, none⟩), .int .i64 (wrap64 ((out.length : Int) + n1)), .int .i64 col] rfl rfl ?_; refine (HT.out.fill A3.out).mono ?_; rintro e w1 ⟨rfl, A1_, c1_, h1⟩; refine ⟨_, rfl, ?_⟩; clear HT; have HT := aE h1; obtain ⟨z0, z1, z2, z3, z4, y0, y1, y2, y3, y4⟩ := cz5f HT.out.hc) | (refine gF 63 93 Tryd.func63 #[.pointer (some ⟨gs, 0, none⟩), .int .i64 (wrap64 ((wrap64 ((out.length : Int) + n1)) + m1)), .int .i64 (wrap64 (1 - col))] rfl rfl ?_; refine (HT.out.fill A4.out).mono ?_; rintro e w1 ⟨rfl, A2_, c2_, h1⟩; refine ⟨_, rfl, ?_⟩; clear HT; have HT := aE h1; obtain ⟨z0, z1, z2, z3, z4, y0, y1, y2, y3, y4⟩ := cz5f HT.out.hc))
         go_ret
         exact ⟨re, _, HT.out⟩
        ·have d5_ := d5
         have d5b0 := beq_eq_false_iff_ne.mpr d5
         have d5b1 := bne_iff_ne.mpr d5
         rw [if_neg (fun z => z.elim (fun y => absurd y.2 d5) (fun y => absurd d4 y.1))] at H
         clear d4 d4_ d5 d5_
         simp only [Option.some.injEq, Prod.mk.injEq] at H
         obtain ⟨rfl, rfl, rfl, rfl, rfl⟩ := H
         obtain ⟨z0, z1, z2, z3, z4, y0, y1, y2, y3, y4⟩ := cz5f HT.out.hc
         go_enter Tryd.func62, Tryd.ntmps62
         go_wp2_with (first | (refine gF 47 15 Tryd.func47 #[.pointer (some ⟨gx, 0, none⟩), .int .i64 col] rfl rfl ?_; refine (HT.out.run HX.out A1.out).mono ?_; rintro e w1 ⟨rfl, h1⟩; refine ⟨_, rfl, ?_⟩; clear HT; have HT := aE h1; obtain ⟨z0, z1, z2, z3, z4, y0, y1, y2, y3, y4⟩ := cz5f HT.out.hc) | (refine gF 47 52 Tryd.func47 #[.pointer (some ⟨gx, 0, none⟩), .int .i64 (wrap64 (1 - col))] rfl rfl ?_; refine (HT.out.run HX.out A2.out).mono ?_; rintro e w1 ⟨rfl, h1⟩; refine ⟨_, rfl, ?_⟩; clear HT; have HT := aE h1; obtain ⟨z0, z1, z2, z3, z4, y0, y1, y2, y3, y4⟩ := cz5f HT.out.hc))
         go_ret
         exact ⟨re, _, HT.out⟩
       ·have d4_ := d4
        have d4b0 := beq_eq_false_iff_ne.mpr d4
        have d4b1 := bne_iff_ne.mpr d4
        by_cases d5 : (wrap64 ((out.length : Int) + n1)) = W
        ·have d5_ := d5
         have d5b0 := beq_iff_eq.mpr d5
         have d5b1 := bne_eq_false_iff_eq.mpr d5
         rw [if_neg (fun z => z.elim (fun y => absurd y.1 d4) (fun y => absurd d5 y.2))] at H
         clear d4 d4_ d5 d5_
         simp only [Option.some.injEq, Prod.mk.injEq] at H
         obtain ⟨rfl, rfl, rfl, rfl, rfl⟩ := H
         obtain ⟨z0, z1, z2, z3, z4, y0, y1, y2, y3, y4⟩ := cz5f HT.out.hc
         go_enter Tryd.func62, Tryd.ntmps62
         go_wp2_with (first | (refine gF 47 15 Tryd.func47 #[.pointer (some ⟨gx, 0, none⟩), .int .i64 col] rfl rfl ?_; refine (HT.out.run HX.out A1.out).mono ?_; rintro e w1 ⟨rfl, h1⟩; refine ⟨_, rfl, ?_⟩; clear HT; have HT := aE h1; obtain ⟨z0, z1, z2, z3, z4, y0, y1, y2, y3, y4⟩ := cz5f HT.out.hc) | (refine gF 47 52 Tryd.func47 #[.pointer (some ⟨gx, 0, none⟩), .int .i64 (wrap64 (1 - col))] rfl rfl ?_; refine (HT.out.run HX.out A2.out).mono ?_; rintro e w1 ⟨rfl, h1⟩; refine ⟨_, rfl, ?_⟩; clear HT; have HT := aE h1; obtain ⟨z0, z1, z2, z3, z4, y0, y1, y2, y3, y4⟩ := cz5f HT.out.hc))
         go_ret
         exact ⟨re, _, HT.out⟩
        ·have d5_ := d5
         have d5b0 := beq_eq_false_iff_ne.mpr d5
         have d5b1 := bne_iff_ne.mpr d5
         rw [if_pos (.inr ⟨d4, d5⟩)] at H
         clear d4 d4_ d5 d5_
         obtain ⟨out1, A30, H⟩ := Option.bind_eq_some_iff.mp H
         obtain ⟨out2, A40, H⟩ := Option.bind_eq_some_iff.mp H
         have A3 := Aside0.mk A30
         have A4 := Aside0.mk A40
         clear A30 A40
         simp only [Option.some.injEq, Prod.mk.injEq] at H
         obtain ⟨rfl, rfl, rfl, rfl, rfl⟩ := H
         obtain ⟨z0, z1, z2, z3, z4, y0, y1, y2, y3, y4⟩ := cz5f HT.out.hc
         go_enter Tryd.func62, Tryd.ntmps62
         go_wp2_with (first | (refine gF 47 15 Tryd.func47 #[.pointer (some ⟨gx, 0, none⟩), .int .i64 col] rfl rfl ?_; refine (HT.out.run HX.out A1.out).mono ?_; rintro e w1 ⟨rfl, h1⟩; refine ⟨_, rfl, ?_⟩; clear HT; have HT := aE h1; obtain ⟨z0, z1, z2, z3, z4, y0, y1, y2, y3, y4⟩ := cz5f HT.out.hc) | (refine gF 47 52 Tryd.func47 #[.pointer (some ⟨gx, 0, none⟩), .int .i64 (wrap64 (1 - col))] rfl rfl ?_; refine (HT.out.run HX.out A2.out).mono ?_; rintro e w1 ⟨rfl, h1⟩; refine ⟨_, rfl, ?_⟩; clear HT; have HT := aE h1; obtain ⟨z0, z1, z2, z3, z4, y0, y1, y2, y3, y4⟩ := cz5f HT.out.hc) | (refine gF 63 83 Tryd.func63 #[.pointer (some ⟨gs, 0, none⟩), .int .i64 (wrap64 ((out.length : Int) + n1)), .int .i64 col] rfl rfl ?_; refine (HT.out.fill A3.out).mono ?_; rintro e w1 ⟨rfl, A1_, c1_, h1⟩; refine ⟨_, rfl, ?_⟩; clear HT; have HT := aE h1; obtain ⟨z0, z1, z2, z3, z4, y0, y1, y2, y3, y4⟩ := cz5f HT.out.hc) | (refine gF 63 93 Tryd.func63 #[.pointer (some ⟨gs, 0, none⟩), .int .i64 (wrap64 ((wrap64 ((out.length : Int) + n1)) + m1)), .int .i64 (wrap64 (1 - col))] rfl rfl ?_; refine (HT.out.fill A4.out).mono ?_; rintro e w1 ⟨rfl, A2_, c2_, h1⟩; refine ⟨_, rfl, ?_⟩; clear HT; have HT := aE h1; obtain ⟨z0, z1, z2, z3, z4, y0, y1, y2, y3, y4⟩ := cz5f HT.out.hc))
         go_ret
         exact ⟨re, _, HT.out⟩
     ·rw [if_neg d2] at H
      have d2b0 := beq_eq_false_iff_ne.mpr d2
      have d2b1 := bne_iff_ne.mpr d2
      clear d2
      simp only [Option.some.injEq, Prod.mk.injEq] at H
      obtain ⟨rfl, rfl, rfl, rfl, rfl⟩ := H
      obtain ⟨z0, z1, z2, z3, z4, y0, y1, y2, y3, y4⟩ := cz5f HT.out.hc
      go_enter Tryd.func62, Tryd.ntmps62
      go_wp2_with (first | (refine gF 47 15 Tryd.func47 #[.pointer (some ⟨gx, 0, none⟩), .int .i64 col] rfl rfl ?_; refine (HT.out.run HX.out A1.out).mono ?_; rintro e w1 ⟨rfl, h1⟩; refine ⟨_, rfl, ?_⟩; clear HT; have HT := aE h1; obtain ⟨z0, z1, z2, z3, z4, y0, y1, y2, y3, y4⟩ := cz5f HT.out.hc) | (refine gF 47 52 Tryd.func47 #[.pointer (some ⟨gx, 0, none⟩), .int .i64 (wrap64 (1 - col))] rfl rfl ?_; refine (HT.out.run HX.out A2.out).mono ?_; rintro e w1 ⟨rfl, h1⟩; refine ⟨_, rfl, ?_⟩; clear HT; have HT := aE h1; obtain ⟨z0, z1, z2, z3, z4, y0, y1, y2, y3, y4⟩ := cz5f HT.out.hc))
      go_ret
      exact ⟨re, _, HT.out⟩
  ·rw [if_neg (fun z => c3 z.1)] at H
   have c3b0 := beq_eq_false_iff_ne.mpr c3
   have c3b1 := bne_iff_ne.mpr c3
   clear c3
   rcases iL H with H1 | H1 <;> clear H <;> obtain ⟨H, c5b0⟩ := H1
   ·simp only [Option.some.injEq, Prod.mk.injEq] at H
    obtain ⟨rfl, rfl, rfl, rfl, rfl⟩ := H
    obtain ⟨z0, z1, z2, z3, z4, y0, y1, y2, y3, y4⟩ := cz5f HT.out.hc
    go_enter Tryd.func62, Tryd.ntmps62
    go_wp2_with (first | (refine gF 47 15 Tryd.func47 #[.pointer (some ⟨gx, 0, none⟩), .int .i64 col] rfl rfl ?_; refine (HT.out.run HX.out A1.out).mono ?_; rintro e w1 ⟨rfl, h1⟩; refine ⟨_, rfl, ?_⟩; clear HT; have HT := aE h1; obtain ⟨z0, z1, z2, z3, z4, y0, y1, y2, y3, y4⟩ := cz5f HT.out.hc))
    go_ret
    exact ⟨re, _, HT.out⟩
   ·obtain ⟨⟨m1, m2, m3, m4⟩, A20, H⟩ := Option.bind_eq_some_iff.mp H
    have A2 := Aside0.mk (show runs_reader_run.f k l0 n3 n4 (wrap64 (1 - col)) = some (m1, m2, m3, m4) from A20)
    clear A20
    try dsimp only at H
    by_cases d2 : m2 = 0
    ·rw [if_pos d2] at H
     have d2b0 := beq_iff_eq.mpr d2
     have d2b1 := bne_eq_false_iff_eq.mpr d2
     clear d2
     by_cases d3 : m1 > wrap64 (W - (wrap64 ((out.length : Int) + n1)))
     ·rw [if_pos d3] at H
      have d3b0 := decide_eq_true d3
      clear d3
      simp only [Option.some.injEq, Prod.mk.injEq] at H
      obtain ⟨rfl, rfl, rfl, rfl, rfl⟩ := H
      obtain ⟨z0, z1, z2, z3, z4, y0, y1, y2, y3, y4⟩ := cz5f HT.out.hc
      go_enter Tryd.func62, Tryd.ntmps62
      go_wp2_with (first | (refine gF 47 15 Tryd.func47 #[.pointer (some ⟨gx, 0, none⟩), .int .i64 col] rfl rfl ?_; refine (HT.out.run HX.out A1.out).mono ?_; rintro e w1 ⟨rfl, h1⟩; refine ⟨_, rfl, ?_⟩; clear HT; have HT := aE h1; obtain ⟨z0, z1, z2, z3, z4, y0, y1, y2, y3, y4⟩ := cz5f HT.out.hc) | (refine gF 47 52 Tryd.func47 #[.pointer (some ⟨gx, 0, none⟩), .int .i64 (wrap64 (1 - col))] rfl rfl ?_; refine (HT.out.run HX.out A2.out).mono ?_; rintro e w1 ⟨rfl, h1⟩; refine ⟨_, rfl, ?_⟩; clear HT; have HT := aE h1; obtain ⟨z0, z1, z2, z3, z4, y0, y1, y2, y3, y4⟩ := cz5f HT.out.hc))
      go_ret
      exact ⟨re, _, HT.out⟩
     ·rw [if_neg d3] at H
      have d3b0 := decide_eq_false d3
      clear d3
      by_cases d4 : m1 = 0
      ·have d4_ := d4
       have d4b0 := beq_iff_eq.mpr d4
       have d4b1 := bne_eq_false_iff_eq.mpr d4
       by_cases d5 : (wrap64 ((out.length : Int) + n1)) = W
       ·have d5_ := d5
        have d5b0 := beq_iff_eq.mpr d5
        have d5b1 := bne_eq_false_iff_eq.mpr d5
        rw [if_pos (.inl ⟨d4, d5⟩)] at H
        clear d4 d4_ d5 d5_
        obtain ⟨out1, A30, H⟩ := Option.bind_eq_some_iff.mp H
        obtain ⟨out2, A40, H⟩ := Option.bind_eq_some_iff.mp H
        have A3 := Aside0.mk A30
        have A4 := Aside0.mk A40
        clear A30 A40
        simp only [Option.some.injEq, Prod.mk.injEq] at H
        obtain ⟨rfl, rfl, rfl, rfl, rfl⟩ := H
        obtain ⟨z0, z1, z2, z3, z4, y0, y1, y2, y3, y4⟩ := cz5f HT.out.hc
        go_enter Tryd.func62, Tryd.ntmps62
        go_wp2_with (first | (refine gF 47 15 Tryd.func47 #[.pointer (some ⟨gx, 0, none⟩), .int .i64 col] rfl rfl ?_; refine (HT.out.run HX.out A1.out).mono ?_; rintro e w1 ⟨rfl, h1⟩; refine ⟨_, rfl, ?_⟩; clear HT; have HT := aE h1; obtain ⟨z0, z1, z2, z3, z4, y0, y1, y2, y3, y4⟩ := cz5f HT.out.hc) | (refine gF 47 52 Tryd.func47 #[.pointer (some ⟨gx, 0, none⟩), .int .i64 (wrap64 (1 - col))] rfl rfl ?_; refine (HT.out.run HX.out A2.out).mono ?_; rintro e w1 ⟨rfl, h1⟩; refine ⟨_, rfl, ?_⟩; clear HT; have HT := aE h1; obtain ⟨z0, z1, z2, z3, z4, y0, y1, y2, y3, y4⟩ := cz5f HT.out.hc) | (refine gF 63 83 Tryd.func63 #[.pointer (some ⟨gs, 0, none⟩), .int .i64 (wrap64 ((out.length : Int) + n1)), .int .i64 col] rfl rfl ?_; refine (HT.out.fill A3.out).mono ?_; rintro e w1 ⟨rfl, A1_, c1_, h1⟩; refine ⟨_, rfl, ?_⟩; clear HT; have HT := aE h1; obtain ⟨z0, z1, z2, z3, z4, y0, y1, y2, y3, y4⟩ := cz5f HT.out.hc) | (refine gF 63 93 Tryd.func63 #[.pointer (some ⟨gs, 0, none⟩), .int .i64 (wrap64 ((wrap64 ((out.length : Int) + n1)) + m1)), .int .i64 (wrap64 (1 - col))] rfl rfl ?_; refine (HT.out.fill A4.out).mono ?_; rintro e w1 ⟨rfl, A2_, c2_, h1⟩; refine ⟨_, rfl, ?_⟩; clear HT; have HT := aE h1; obtain ⟨z0, z1, z2, z3, z4, y0, y1, y2, y3, y4⟩ := cz5f HT.out.hc))
        go_ret
        exact ⟨re, _, HT.out⟩
       ·have d5_ := d5
        have d5b0 := beq_eq_false_iff_ne.mpr d5
        have d5b1 := bne_iff_ne.mpr d5
        rw [if_neg (fun z => z.elim (fun y => absurd y.2 d5) (fun y => absurd d4 y.1))] at H
        clear d4 d4_ d5 d5_
        simp only [Option.some.injEq, Prod.mk.injEq] at H
        obtain ⟨rfl, rfl, rfl, rfl, rfl⟩ := H
        obtain ⟨z0, z1, z2, z3, z4, y0, y1, y2, y3, y4⟩ := cz5f HT.out.hc
        go_enter Tryd.func62, Tryd.ntmps62
        go_wp2_with (first | (refine gF 47 15 Tryd.func47 #[.pointer (some ⟨gx, 0, none⟩), .int .i64 col] rfl rfl ?_; refine (HT.out.run HX.out A1.out).mono ?_; rintro e w1 ⟨rfl, h1⟩; refine ⟨_, rfl, ?_⟩; clear HT; have HT := aE h1; obtain ⟨z0, z1, z2, z3, z4, y0, y1, y2, y3, y4⟩ := cz5f HT.out.hc) | (refine gF 47 52 Tryd.func47 #[.pointer (some ⟨gx, 0, none⟩), .int .i64 (wrap64 (1 - col))] rfl rfl ?_; refine (HT.out.run HX.out A2.out).mono ?_; rintro e w1 ⟨rfl, h1⟩; refine ⟨_, rfl, ?_⟩; clear HT; have HT := aE h1; obtain ⟨z0, z1, z2, z3, z4, y0, y1, y2, y3, y4⟩ := cz5f HT.out.hc))
        go_ret
        exact ⟨re, _, HT.out⟩
      ·have d4_ := d4
       have d4b0 := beq_eq_false_iff_ne.mpr d4
       have d4b1 := bne_iff_ne.mpr d4
       by_cases d5 : (wrap64 ((out.length : Int) + n1)) = W
       ·have d5_ := d5
        have d5b0 := beq_iff_eq.mpr d5
        have d5b1 := bne_eq_false_iff_eq.mpr d5
        rw [if_neg (fun z => z.elim (fun y => absurd y.1 d4) (fun y => absurd d5 y.2))] at H
        clear d4 d4_ d5 d5_
        simp only [Option.some.injEq, Prod.mk.injEq] at H
        obtain ⟨rfl, rfl, rfl, rfl, rfl⟩ := H
        obtain ⟨z0, z1, z2, z3, z4, y0, y1, y2, y3, y4⟩ := cz5f HT.out.hc
        go_enter Tryd.func62, Tryd.ntmps62
        go_wp2_with (first | (refine gF 47 15 Tryd.func47 #[.pointer (some ⟨gx, 0, none⟩), .int .i64 col] rfl rfl ?_; refine (HT.out.run HX.out A1.out).mono ?_; rintro e w1 ⟨rfl, h1⟩; refine ⟨_, rfl, ?_⟩; clear HT; have HT := aE h1; obtain ⟨z0, z1, z2, z3, z4, y0, y1, y2, y3, y4⟩ := cz5f HT.out.hc) | (refine gF 47 52 Tryd.func47 #[.pointer (some ⟨gx, 0, none⟩), .int .i64 (wrap64 (1 - col))] rfl rfl ?_; refine (HT.out.run HX.out A2.out).mono ?_; rintro e w1 ⟨rfl, h1⟩; refine ⟨_, rfl, ?_⟩; clear HT; have HT := aE h1; obtain ⟨z0, z1, z2, z3, z4, y0, y1, y2, y3, y4⟩ := cz5f HT.out.hc))
        go_ret
        exact ⟨re, _, HT.out⟩
       ·have d5_ := d5
        have d5b0 := beq_eq_false_iff_ne.mpr d5
        have d5b1 := bne_iff_ne.mpr d5
        rw [if_pos (.inr ⟨d4, d5⟩)] at H
        clear d4 d4_ d5 d5_
        obtain ⟨out1, A30, H⟩ := Option.bind_eq_some_iff.mp H
        obtain ⟨out2, A40, H⟩ := Option.bind_eq_some_iff.mp H
        have A3 := Aside0.mk A30
        have A4 := Aside0.mk A40
        clear A30 A40
        simp only [Option.some.injEq, Prod.mk.injEq] at H
        obtain ⟨rfl, rfl, rfl, rfl, rfl⟩ := H
        obtain ⟨z0, z1, z2, z3, z4, y0, y1, y2, y3, y4⟩ := cz5f HT.out.hc
        go_enter Tryd.func62, Tryd.ntmps62
        go_wp2_with (first | (refine gF 47 15 Tryd.func47 #[.pointer (some ⟨gx, 0, none⟩), .int .i64 col] rfl rfl ?_; refine (HT.out.run HX.out A1.out).mono ?_; rintro e w1 ⟨rfl, h1⟩; refine ⟨_, rfl, ?_⟩; clear HT; have HT := aE h1; obtain ⟨z0, z1, z2, z3, z4, y0, y1, y2, y3, y4⟩ := cz5f HT.out.hc) | (refine gF 47 52 Tryd.func47 #[.pointer (some ⟨gx, 0, none⟩), .int .i64 (wrap64 (1 - col))] rfl rfl ?_; refine (HT.out.run HX.out A2.out).mono ?_; rintro e w1 ⟨rfl, h1⟩; refine ⟨_, rfl, ?_⟩; clear HT; have HT := aE h1; obtain ⟨z0, z1, z2, z3, z4, y0, y1, y2, y3, y4⟩ := cz5f HT.out.hc) | (refine gF 63 83 Tryd.func63 #[.pointer (some ⟨gs, 0, none⟩), .int .i64 (wrap64 ((out.length : Int) + n1)), .int .i64 col] rfl rfl ?_; refine (HT.out.fill A3.out).mono ?_; rintro e w1 ⟨rfl, A1_, c1_, h1⟩; refine ⟨_, rfl, ?_⟩; clear HT; have HT := aE h1; obtain ⟨z0, z1, z2, z3, z4, y0, y1, y2, y3, y4⟩ := cz5f HT.out.hc) | (refine gF 63 93 Tryd.func63 #[.pointer (some ⟨gs, 0, none⟩), .int .i64 (wrap64 ((wrap64 ((out.length : Int) + n1)) + m1)), .int .i64 (wrap64 (1 - col))] rfl rfl ?_; refine (HT.out.fill A4.out).mono ?_; rintro e w1 ⟨rfl, A2_, c2_, h1⟩; refine ⟨_, rfl, ?_⟩; clear HT; have HT := aE h1; obtain ⟨z0, z1, z2, z3, z4, y0, y1, y2, y3, y4⟩ := cz5f HT.out.hc))
        go_ret
        exact ⟨re, _, HT.out⟩
    ·rw [if_neg d2] at H
     have d2b0 := beq_eq_false_iff_ne.mpr d2
     have d2b1 := bne_iff_ne.mpr d2
     clear d2
     simp only [Option.some.injEq, Prod.mk.injEq] at H
     obtain ⟨rfl, rfl, rfl, rfl, rfl⟩ := H
     obtain ⟨z0, z1, z2, z3, z4, y0, y1, y2, y3, y4⟩ := cz5f HT.out.hc
     go_enter Tryd.func62, Tryd.ntmps62
     go_wp2_with (first | (refine gF 47 15 Tryd.func47 #[.pointer (some ⟨gx, 0, none⟩), .int .i64 col] rfl rfl ?_; refine (HT.out.run HX.out A1.out).mono ?_; rintro e w1 ⟨rfl, h1⟩; refine ⟨_, rfl, ?_⟩; clear HT; have HT := aE h1; obtain ⟨z0, z1, z2, z3, z4, y0, y1, y2, y3, y4⟩ := cz5f HT.out.hc) | (refine gF 47 52 Tryd.func47 #[.pointer (some ⟨gx, 0, none⟩), .int .i64 (wrap64 (1 - col))] rfl rfl ?_; refine (HT.out.run HX.out A2.out).mono ?_; rintro e w1 ⟨rfl, h1⟩; refine ⟨_, rfl, ?_⟩; clear HT; have HT := aE h1; obtain ⟨z0, z1, z2, z3, z4, y0, y1, y2, y3, y4⟩ := cz5f HT.out.hc))
     go_ret
     exact ⟨re, _, HT.out⟩
 ·clear c2
  simp only [Option.some.injEq, Prod.mk.injEq] at H
  obtain ⟨rfl, rfl, rfl, rfl, rfl⟩ := H
  obtain ⟨z0, z1, z2, z3, z4, y0, y1, y2, y3, y4⟩ := cz5f HT.out.hc
  go_enter Tryd.func62, Tryd.ntmps62
  go_wp2_with (first | (refine gF 47 15 Tryd.func47 #[.pointer (some ⟨gx, 0, none⟩), .int .i64 col] rfl rfl ?_; refine (HT.out.run HX.out A1.out).mono ?_; rintro e w1 ⟨rfl, h1⟩; refine ⟨_, rfl, ?_⟩; clear HT; have HT := aE h1; obtain ⟨z0, z1, z2, z3, z4, y0, y1, y2, y3, y4⟩ := cz5f HT.out.hc))
  go_ret
  exact ⟨re, _, HT.out⟩
def runs_mode.f (k : Nat) (l0 : List Int) (p : Int) (o : Bool) (W a col : Int) (ab out : List Int) : Option (Int × Int × Bool × Int × Int × List Int) :=
 (runs_reader_word.f k l0 p o tW).bind fun i => (if i.2.1 = 0 then ((runs_marks.f k ab a (col % 256)).bind fun b => (if i.1 = 1 then ((runs_flat.f k l0 i.2.2.1 i.2.2.2 W a col out).bind fun q => some (q.1, q.2.1, q.2.2.1, q.2.2.2.1, col, q.2.2.2.2)) else (if i.1 = 0 then (if b.2 = W then some (3, i.2.2.1, i.2.2.2, a, col, out) else ((runs_fill.f k out b.2 col).bind fun out1 => some (0, i.2.2.1, i.2.2.2, b.2, col, out1)))
  else (if wrap64 (wrap64 (b.1 + i.1) - 5) ≤ a then some (3, i.2.2.1, i.2.2.2, a, col, out) else (if wrap64 (wrap64 (b.1 + i.1) - 5) > W then some (3, i.2.2.1, i.2.2.2, a, col, out) else ((runs_fill.f k out (wrap64 (wrap64 (b.1 + i.1) - 5)) col).bind fun out1 => some (0, i.2.2.1, i.2.2.2, wrap64 (wrap64 (b.1 + i.1) - 5), wrap64 (1 - col), out1))))))) else some (i.2.1, i.2.2.1, i.2.2.2, a, col, out))
theorem runs_mode.mono : ∀ a0 a1 a2 a3 a4 a5 a6 a7 k, LeO (runs_mode.f k a0 a1 a2 a3 a4 a5 a6 a7) (runs_mode.f (k + 1) a0 a1 a2 a3 a4 a5 a6 a7) := by
 intro a0 a1 a2 a3 a4 a5 a6 a7 k
 unfold runs_mode.f
 exact LeO.bind (runs_reader_word.mono _ _ _ _ k) (fun i => LeO.ite (LeO.bind (runs_marks.mono _ _ _ k) (fun b => LeO.ite (LeO.bind (runs_flat.mono _ _ _ _ _ _ _ k) (fun q => LeO.refl _)) (LeO.ite (LeO.ite (LeO.refl _) (LeO.bind (runs_fill.mono _ _ _ k) (fun x => LeO.refl _))) (LeO.ite (LeO.refl _) (LeO.ite (LeO.refl _) (LeO.bind (runs_fill.mono _ _ _ k) (fun x => LeO.refl _))))))) (LeO.refl _))
def runs_mode.T4 : Bool × List (List Nat × List Nat) := (true, [([], []), ([0], [0]), ([1], [1]), ([2], [2]), ([], []), ([4], [4]), ([5], [5]), ([6], [6]), ([], []), ([8], [8]), ([9], [9]), ([10], [10]), ([11], [11]), ([3, 7, 12], [3, 7, 12]), ([13], [13]), ([14], [14]), ([14], [14]), ([15, 13, 0, 1, 2, 3, 4, 5, 6, 7, 8, 9, 10, 11, 12, 13, 14, 15], [15]), ([16, 17, 0, 1, 2, 3, 4, 5, 6, 7, 8, 9, 10, 11, 12, 13, 14, 15, 16, 17], [16])])
def runs_mode.B4 : List Nat := [0, 1, 3, 7, 0, 16, 48, 112, 0, 256, 768, 1792, 3840, 8191, 16383, 32767, 32767, 65535, 262143]
theorem runs_mode.tab4 : rtab .any (opsOf Tryd.f49 4) = runs_mode.T4 := by kernel_rfl
theorem runs_mode.bits4 : waitsOk runs_mode.T4.2 runs_mode.B4 = true := by kernel_rfl
set_option maxHeartbeats 16000000 in
set_option maxRecDepth 100000 in
theorem runs_mode.calls (k : Nat) (w0 wT w : World) (g gs gx : Nat) (l0 : List Int) (p : Int) (o : Bool) (W a col : Int) (Ab : Option Addr) (cb : Nat) (ab : List Int) (u : Value) (out : List Int) (r1 r2 : Int) (r3 : Bool) (r4 r5 : Int) (r6 : List Int) (hT : Tw w0 wT w g gs l0 p o W a col Ab ab.length cb u out) (hX : Xok g gx tU tC0 tC1 tW wT) (hA : ∀ W', KeepBut wT W' g none → Kd.C (Kd.int .u8) W' Ab ab.length ab) (hcb : ab.length ≤ cb) (h : runs_mode.f k l0 p o W a col ab out = some (r1, r2, r3, r4, r5, r6)) :
  Calls Tryd.prog 49 #[.pointer (some ⟨gx, 0, none⟩), .pointer (some ⟨gs, 0, none⟩)] w fun e w' => e = .returned (.int .i64 r1) ∧ ∃ u', Tw w0 wT w' g gs l0 r2 r3 W r4 r5 Ab ab.length cb u' r6 := by
 have hu93 := Tryd.underlying93
 have hu86 := Tryd.underlying86
 have HT := Aside0.mk hT
 have HX := Aside0.mk hX
 have HA := Aside0.mk hA
 have HCB := Aside0.mk hcb
 clear hT hA hcb
 obtain ⟨a1, a2, a3, a4, a5, a6, a7, c1, c2, c3, c4, c5, c6, c7, ⟨_, _, _, _, _, _, l7⟩, ⟨_, _, _, f7⟩, hW⟩ := hX
 have HW := Aside0.mk hW
 clear hW
 obtain ⟨Au, cu, eu⟩ := Kd.R_slice HT.out.hr
 subst eu
 obtain ⟨⟨i1, i2, i3, i4⟩, A1, H⟩ := Option.bind_eq_some_iff.mp h
 clear h
 have A1 := Aside0.mk A1
 replace H : (if i2 = 0 then ((runs_marks.f k ab a (col % 256)).bind fun b => (if i1 = 1 then ((runs_flat.f k l0 i3 i4 W a col out).bind fun q => some (q.1, q.2.1, q.2.2.1, q.2.2.2.1, col, q.2.2.2.2)) else (if i1 = 0 then (if b.2 = W then some (3, i3, i4, a, col, out) else ((runs_fill.f k out b.2 col).bind fun out1 => some (0, i3, i4, b.2, col, out1)))
  else (if wrap64 (wrap64 (b.1 + i1) - 5) ≤ a then some (3, i3, i4, a, col, out) else (if wrap64 (wrap64 (b.1 + i1) - 5) > W then some (3, i3, i4, a, col, out) else ((runs_fill.f k out (wrap64 (wrap64 (b.1 + i1) - 5)) col).bind fun out1 => some (0, i3, i4, wrap64 (wrap64 (b.1 + i1) - 5), wrap64 (1 - col), out1))))))) else some (i2, i3, i4, a, col, out)) = some (r1, r2, r3, r4, r5, r6) := H
 obtain ⟨hx0, hx1, hx2, hx3, hx4, hx5, hx6, hx7, _⟩ := cz8f (HW.out w HT.out.hk).1
 rcases iE H with H1 | H1 <;> clear H <;> obtain ⟨H, c2b0, c2b1, c2⟩ := H1
 ·obtain ⟨⟨b1, b2⟩, A20, H⟩ := Option.bind_eq_some_iff.mp H
  have A2 := Aside0.mk (show runs_marks.f k ab a (col % 256) = some (b1, b2) from A20)
  clear A20
  try dsimp only at H
  go_enter Tryd.func49, Tryd.ntmps49
  go_wp2_with (first | (refine gF 61 16 Tryd.func61 #[.pointer (some ⟨gx, 0, none⟩), .slice a7 tW.length c7] rfl rfl ?_; (with_reducible refine (runs_reader_word.calls k g l0 p o _ _ tW i1 i2 i3 i4 w0 _ HT.out.hi HT.out.hb (HW.out _ HT.out.hk).2.2.2.2.2.2.2 l7 f7 gx (fun W_ h_ => (cz8 (HW.out W_ (HT.out.hk.trans h_ (.inl rfl))).1).1) A1.out).mono ?_); rintro e w1 ⟨rfl, hi, hb, hk⟩; refine ⟨_, rfl, ?_⟩; have n_ := aE (Tw.keep HT.out hi hb hk); clear HT hi hb hk hx0 hx1 hx2 hx3 hx4 hx5 hx6 hx7; have HT := n_; clear n_; obtain ⟨z0, z1, z2, z3, z4, y0, y1, y2, y3, y4⟩ := cz5f HT.out.hc))
  clear z0 z1 z2 z3 z4 y0 y1 y2 y3 y4
  have n_ := aE (Tw.keep HT.out (IsS107.drew HT.out.hi) (below_drew1 HT.out.hb) (keep_drew (KeepBut.refl _ _ _)))
  clear HT
  have HT := n_
  clear n_
  refine st 19 (fun w' => w'.cell? ⟨gs, 1, none⟩ = some (.int .i64 a) ∧ w'.cell? ⟨gs, 2, none⟩ = some (.int .i64 col) ∧ w'.cell? ⟨gs, 3, none⟩ = some (.slice Ab ab.length cb)) [] (bv 19 0) runs_mode.tab4 runs_mode.bits4 ⟨kc1 HT.out.hc, kc2 HT.out.hc, kc3 HT.out.hc⟩ (fun hHeld HT_ HW_ => ?_)
  generalize w1.drew = w12 at HT hHeld ⊢
  refine pu 0 23 (bv 19 1) HT_ rfl rfl ?_
  refine pu 1 24 (bv 19 3) HT_ rfl rfl ?_
  refine pu 2 25 (bv 19 7) HT_ rfl rfl ?_
  refine tk 3 26 (bv 19 15) HT_ HW_ hHeld rfl rfl (by rintro w' ⟨s0, s1, s2⟩; exact yl) ?_
  refine pu 4 27 (bv 19 31) HT_ rfl rfl ?_
  refine pu 5 28 (bv 19 63) HT_ rfl rfl ?_
  refine pu 6 29 (bv 19 127) HT_ rfl rfl ?_
  refine tk 7 30 (bv 19 255) HT_ HW_ hHeld rfl rfl (by rintro w' ⟨s0, s1, s2⟩; exact yl) ?_
  refine pu 8 31 (bv 19 511) HT_ rfl rfl ?_
  refine pu 9 32 (bv 19 1023) HT_ rfl rfl ?_
  refine pu 10 33 (bv 19 2047) HT_ rfl rfl ?_
  refine tk 11 34 (bv 19 4095) HT_ HW_ hHeld rfl rfl (by rintro w' ⟨s0, s1, s2⟩; exact yl) ?_
  refine pu 12 35 (bv 19 8191) HT_ rfl rfl ?_
  refine one_ (i := 13) (N := some 36) (bv 19 16383) rfl rfl (one_of HT_.out (by kernel_rfl)) (by decide) (fun K hK => ?_)
  refine gK Tryd.func40 rfl #[.slice Ab ab.length cb, .int .i64 a, .int .u8 (col % 256)] rfl rfl ?_
  with_reducible refine (runs_marks.calls k Ab cb ab a (col % 256) b1 b2 _ (HA.out _ HT.out.hk) HCB.out A2.out).mono ?_
  rintro e w13 ⟨rfl, hb⟩
  refine ⟨_, rfl, ?_⟩
  have n_ := aE (Tw.keep HT.out (HT.out.hi.below hb) (below_via HT.out.hb hb HT.out.hb.size) (KeepBut.of_below hb g none))
  clear HT hb
  have HT := n_
  clear n_
  refine hK.out _ _ ⟨kc1 HT.out.hc, kc2 HT.out.hc, kc3 HT.out.hc⟩ (fun hHeld => ?_)
  clear hK K
  refine nm (some 36) ?_
  refine pu 14 22 (bv 19 32767) HT_ rfl rfl ?_
  refine pu 15 37 (bv 19 65535) HT_ rfl rfl ?_
  refine pu 16 38 (bv 19 131071) HT_ rfl rfl ?_
  refine pu 17 7 (bv 19 262143) HT_ rfl rfl ?_
  refine pu 18 8 (bv 19 524287) HT_ rfl rfl ?_
  refine done_ (done_of HT_.out (by kernel_rfl)) ?_
  clear hHeld
  obtain ⟨z0, z1, z2, z3, z4, y0, y1, y2, y3, y4⟩ := cz5f HT.out.hc
  rcases iE H with H1 | H1 <;> clear H <;> obtain ⟨H, c3b0, c3b1, c3⟩ := H1
  ·obtain ⟨⟨q1, q2, q3, q4, q5⟩, A30, H⟩ := Option.bind_eq_some_iff.mp H
   have A3 := Aside0.mk A30
   clear A30
   simp only [Option.some.injEq, Prod.mk.injEq] at H
   obtain ⟨rfl, rfl, rfl, rfl, rfl, rfl⟩ := H
   go_wp2_with (first | (refine gF 62 44 Tryd.func62 #[.pointer (some ⟨gx, 0, none⟩), .pointer (some ⟨gs, 0, none⟩)] rfl rfl ?_; (with_reducible refine (runs_flat.calls k w0 wT _ g gs gx l0 i3 i4 W a col Ab _ cb _ out q1 q2 q3 q4 q5 HT.out HX.out A3.out).mono ?_); rintro e w2 ⟨rfl, u1, hT1⟩; refine ⟨_, rfl, ?_⟩))
   go_ret
   exact ⟨re, u1, hT1⟩
  ·clear c3
   rcases iE H with H1 | H1 <;> clear H <;> obtain ⟨H, c4b0, c4b1, c4⟩ := H1
   ·rcases iE H with H1 | H1 <;> clear H <;> obtain ⟨H, c5b0, c5b1, c5⟩ := H1
    ·simp only [Option.some.injEq, Prod.mk.injEq] at H
     obtain ⟨rfl, rfl, rfl, rfl, rfl, rfl⟩ := H
     go_wp2
     go_ret
     exact ⟨re, _, HT.out⟩
    ·clear c5
     obtain ⟨out1, A30, H⟩ := Option.bind_eq_some_iff.mp H
     have A3 := Aside0.mk A30
     clear A30
     simp only [Option.some.injEq, Prod.mk.injEq] at H
     obtain ⟨rfl, rfl, rfl, rfl, rfl, rfl⟩ := H
     go_wp2_with (first | (refine gF 63 65 Tryd.func63 #[.pointer (some ⟨gs, 0, none⟩), .int .i64 b2, .int .i64 col] rfl rfl ?_; refine (HT.out.fill A3.out).mono ?_; rintro e w1 ⟨rfl, A1_, c1_, h1⟩; refine ⟨_, rfl, ?_⟩; clear HT; have HT := aE h1; obtain ⟨z0, z1, z2, z3, z4, y0, y1, y2, y3, y4⟩ := cz5f HT.out.hc))
     go_ret
     exact ⟨re, _, HT.out⟩
   ·clear c4
    rcases iL H with H1 | H1 <;> clear H <;> obtain ⟨H, c5b0⟩ := H1
    ·simp only [Option.some.injEq, Prod.mk.injEq] at H
     obtain ⟨rfl, rfl, rfl, rfl, rfl, rfl⟩ := H
     go_wp2
     go_ret
     exact ⟨re, _, HT.out⟩
    ·rcases iL H with H1 | H1 <;> clear H <;> obtain ⟨H, c6b0⟩ := H1
     ·simp only [Option.some.injEq, Prod.mk.injEq] at H
      obtain ⟨rfl, rfl, rfl, rfl, rfl, rfl⟩ := H
      go_wp2
      go_ret
      exact ⟨re, _, HT.out⟩
     ·obtain ⟨out1, A30, H⟩ := Option.bind_eq_some_iff.mp H
      have A3 := Aside0.mk A30
      clear A30
      simp only [Option.some.injEq, Prod.mk.injEq] at H
      obtain ⟨rfl, rfl, rfl, rfl, rfl, rfl⟩ := H
      go_wp2_with (first | (refine gF 63 90 Tryd.func63 #[.pointer (some ⟨gs, 0, none⟩), .int .i64 (wrap64 (wrap64 (b1 + i1) - 5)), .int .i64 col] rfl rfl ?_; refine (HT.out.fill A3.out).mono ?_; rintro e w1 ⟨rfl, A1_, c1_, h1⟩; refine ⟨_, rfl, ?_⟩; clear HT; have HT := aE h1; obtain ⟨z0, z1, z2, z3, z4, y0, y1, y2, y3, y4⟩ := cz5f HT.out.hc))
      go_ret
      refine ⟨re, .slice A1_ out1.length c1_, Tw.step HT.out (below_put (Below.refl _ _) HT.out.hs) (blk_put (cs := #[.int .i64 W, .int .i64 (wrap64 (wrap64 (b1 + i1) - 5)), .int .i64 col, .slice Ab ab.length cb, .slice A1_ out1.length c1_]) HT.out.hc 2 _ rfl) ?_⟩
      exact Kd.R_mono (Kd.R_far (p := ⟨gs, 2, none⟩) (Kd.R_types HT.out.hr HT.out.hc (by decide)) (fun _ hk => hk.2) _) (fun _ _ => trivial)
 ·clear c2
  simp only [Option.some.injEq, Prod.mk.injEq] at H
  obtain ⟨rfl, rfl, rfl, rfl, rfl, rfl⟩ := H
  go_enter Tryd.func49, Tryd.ntmps49
  go_wp2_with (first | (refine gF 61 16 Tryd.func61 #[.pointer (some ⟨gx, 0, none⟩), .slice a7 tW.length c7] rfl rfl ?_; (with_reducible refine (runs_reader_word.calls k g l0 p o _ _ tW i1 i2 i3 i4 w0 _ HT.out.hi HT.out.hb (HW.out _ HT.out.hk).2.2.2.2.2.2.2 l7 f7 gx (fun W_ h_ => (cz8 (HW.out W_ (HT.out.hk.trans h_ (.inl rfl))).1).1) A1.out).mono ?_); rintro e w1 ⟨rfl, hi, hb, hk⟩; refine ⟨_, rfl, ?_⟩; have n_ := aE (Tw.keep HT.out hi hb hk); clear HT hi hb hk hx0 hx1 hx2 hx3 hx4 hx5 hx6 hx7; have HT := n_; clear n_; obtain ⟨z0, z1, z2, z3, z4, y0, y1, y2, y3, y4⟩ := cz5f HT.out.hc))
  go_ret
  exact ⟨re, _, HT.out⟩
def runs_reader_two.l0 : Nat → List Int → Int → List Int → Int → Bool → Int → Int → List Int → Option (List Int × Int × Int × Bool)
 | 0, _, _, _, _, _, _, _, _ => none
 | k + 1, l0, W, ab, p, o, a, col, out => if a < W then (if W > 0 then ((runs_mode.f k l0 p o W a col ab out).bind fun m => (if m.1 = 0 then runs_reader_two.l0 k l0 W ab m.2.1 m.2.2.1 m.2.2.2.1 m.2.2.2.2.1 m.2.2.2.2.2 else some ([], m.1, m.2.1, m.2.2.1))) else some (out, 0, p, o)) else some (out, 0, p, o)
def runs_reader_two.f (k : Nat) (s0_0 : List Int) (s0_1 : Int) (s0_2 : Bool) (a1 : Int) (l2 : List Int) : Option (List Int × Int × Int × Bool) := runs_reader_two.l0 k s0_0 a1 l2 s0_1 s0_2 (-1) 0 []
theorem runs_reader_two.mono_l : ∀ k, (∀ y0 y1 y2 y3 y4 y5 y6 y7, LeO (runs_reader_two.l0 k y0 y1 y2 y3 y4 y5 y6 y7) (runs_reader_two.l0 (k + 1) y0 y1 y2 y3 y4 y5 y6 y7))
 | 0 => fun _ _ _ _ _ _ _ _ r h => by simp [runs_reader_two.l0] at h
 | k + 1 => by
  have ih0 := runs_reader_two.mono_l k
  intro y0 y1 y2 y3 y4 y5 y6 y7
  unfold runs_reader_two.l0
  exact LeO.ite (LeO.ite (LeO.bind (runs_mode.mono _ _ _ _ _ _ _ _ k) (fun t => LeO.ite (ih0 _ _ _ _ _ _ _ _) (LeO.refl _))) (LeO.refl _)) (LeO.refl _)
theorem runs_reader_two.mono : ∀ a0 a1 a2 a3 a4 k, LeO (runs_reader_two.f k a0 a1 a2 a3 a4) (runs_reader_two.f (k + 1) a0 a1 a2 a3 a4) := fun _ _ _ _ _ k => runs_reader_two.mono_l k _ _ _ _ _ _ _ _
set_option maxHeartbeats 16000000 in
set_option maxRecDepth 100000 in
theorem runs_reader_two.calls (k : Nat) (g : Nat) (s0_0 : List Int) (s0_1 : Int) (s0_2 : Bool) (a1 : Int) (A2 : Option Addr) (c2 : Nat) (l2 : List Int) (r1 : List Int) (r2 : Int) (r3 : Int) (r4 : Bool) (w0 w : World) (hI : IsS107 w0 w g s0_0 s0_1 s0_2) (hB : Below w0.heap.size w0 w) (hr2 : Kd.C (Kd.int .u8) w A2 l2.length l2) (hc2 : l2.length ≤ c2) (hf2 : ∀ ad, A2 = some ad → 0 < l2.length → ad.block ≠ g) (gx : Nat) (hX : Xok g gx tU tC0 tC1 tW w) (h : runs_reader_two.f k s0_0 s0_1 s0_2 a1 l2 = some (r1, r2, r3, r4)) :
  Calls Tryd.prog 32 #[.pointer (some ⟨gx, 0, none⟩), .int .i64 a1, .slice A2 l2.length c2] w fun e w' => ∃ v0_ : Value, e = .returned (.tuple #[v0_, .int .i64 r2]) ∧ Kd.R (Kd.int .u8) 5 w' w.heap.size (fun _ => True) v0_ r1 ∧ IsS107 w0 w' g s0_0 r3 r4 ∧ Below w0.heap.size w0 w' ∧ KeepBut w w' g none := by
 have hu93 := Tryd.underlying93
 have HI := Aside0.mk hI
 have HB := Aside0.mk hB
 have HX := Aside0.mk hX
 have HC2 := Aside0.mk hc2
 have HA := Aside0.mk (Kd.C_foot_ne u8K hr2 hf2)
 have H' := Aside0.mk (show runs_reader_two.l0 k s0_0 a1 l2 s0_1 s0_2 (-1) 0 [] = some (r1, r2, r3, r4) from h)
 clear hI hB hX hr2 hc2 hf2 h
 go_enter Tryd.func32, Tryd.ntmps32
 go_wp2_with (first | ((with_reducible refine gd 13 rfl ?_); refine bx 13 #[.int .i64 a1, .int .i64 (-1), .int .i64 0, .slice A2 l2.length c2, .slice none 0 0] 93 rfl rfl ?_; intro gs hg w1 hbox hb; have n_ := aC (show Tw w0 w w1 g gs s0_0 s0_1 s0_2 a1 (-1) 0 A2 l2.length c2 (.slice none 0 0) [] from ⟨HI.out.below hb, below_via HB.out hb HB.out.size, KeepBut.of_below hb g none, hbox, Kd.R_nil _ _ _ _ _, Nat.le_of_eq hg.symm, HI.out.lt⟩) (aE (show True from trivial)); clear hbox hb hg; obtain ⟨HT, _⟩ := n_))
 go_loopg [] k (fun kq w' => ∃ (p : Int) (o : Bool) (a col : Int) (u : Value) (out : List Int), Aside0 (runs_reader_two.l0 kq s0_0 a1 l2 p o a col out = some (r1, r2, r3, r4)) ∧ Aside0 (kq ≤ k) ∧ Aside0 (Tw w0 w w' g gs s0_0 p o a1 a col A2 l2.length c2 u out))
 case atStart => exact ⟨s0_1, s0_2, -1, 0, .slice none 0 0, [], H', ⟨Nat.le_refl _⟩, ⟨by exact HT.out⟩⟩
 case round =>
  clear H' HT
  obtain ⟨p, o, a, col, u, out, HA1, HK1, HT⟩ := hrel
  cases gk with
  | zero => exact absurd HA1.out (by simp [runs_reader_two.l0])
  | succ k1 =>
   have H := HA1.out
   clear HA1
   simp only [runs_reader_two.l0] at H
   obtain ⟨Au, cu, eu⟩ := Kd.R_slice HT.out.hr
   subst eu
   obtain ⟨z0, z1, z2, z3, z4, y0, y1, y2, y3, y4⟩ := cz5f HT.out.hc
   rcases iL H with H1 | H1 <;> clear H <;> obtain ⟨H, c3b0⟩ := H1
   ·rcases iL H with H1 | H1 <;> clear H <;> obtain ⟨H, c4b0⟩ := H1
    ·obtain ⟨⟨m1, m2, m3, m4, m5, m6⟩, A10, H⟩ := Option.bind_eq_some_iff.mp H
     have A1 := Aside0.mk A10
     clear A10
     try dsimp only at H
     rcases iE H with H1 | H1 <;> clear H <;> obtain ⟨H, c5b0, c5b1, c5⟩ := H1
     ·have H' := Aside0.mk H
      clear H
      go_wp2_with (first | (refine gF 49 26 Tryd.func49 #[.pointer (some ⟨gx, 0, none⟩), .pointer (some ⟨gs, 0, none⟩)] rfl rfl ?_; (with_reducible refine (runs_mode.calls k1 w0 w _ g gs gx s0_0 p o a1 a col A2 c2 l2 _ out m1 m2 m3 m4 m5 m6 HT.out HX.out HA.out HC2.out A1.out).mono ?_); rintro e w2 ⟨rfl, u1, hT1⟩; refine ⟨_, rfl, ?_⟩))
      go_roundg k1
      case measure => have := HK1.out; omega
      case rel => exact ⟨m2, m3, m4, m5, u1, m6, H', ⟨by have := HK1.out; omega⟩, ⟨hT1⟩⟩
     ·clear c5
      simp only [Option.some.injEq, Prod.mk.injEq] at H
      obtain ⟨rfl, rfl, rfl, rfl⟩ := H
      go_wp2_with (first | (refine gF 49 26 Tryd.func49 #[.pointer (some ⟨gx, 0, none⟩), .pointer (some ⟨gs, 0, none⟩)] rfl rfl ?_; (with_reducible refine (runs_mode.calls k1 w0 w _ g gs gx s0_0 p o a1 a col A2 c2 l2 _ out m1 m2 m3 m4 m5 m6 HT.out HX.out HA.out HC2.out A1.out).mono ?_); rintro e w2 ⟨rfl, u1, hT1⟩; refine ⟨_, rfl, ?_⟩))
      go_ret2
      exact ⟨_, re, Kd.R_nil _ _ _ _ _, hT1.hi, hT1.hb, hT1.hk⟩
    ·simp only [Option.some.injEq, Prod.mk.injEq] at H
     obtain ⟨rfl, rfl, rfl, rfl⟩ := H
     go_wp2
     go_ret2
     exact ⟨_, re, HT.out.hr, HT.out.hi, HT.out.hb, HT.out.hk⟩
   ·simp only [Option.some.injEq, Prod.mk.injEq] at H
    obtain ⟨rfl, rfl, rfl, rfl⟩ := H
    go_wp2
    go_ret2
    exact ⟨_, re, HT.out.hr, HT.out.hi, HT.out.hb, HT.out.hk⟩
def runs_read32.l0 : Nat → List Int → Int → Int → Int → Bool → List Int → Int → List Int → Option (Int × Int × List Int × Int × Int)
 | 0, _, _, _, _, _, _, _, _ => none
 | k + 1, l0, a1, a2, p, o, ab, y, pix => if y < a2 then ((runs_reader_two.f k l0 p o a1 ab).bind fun t => (if t.2.1 = 0 then (if pix.length + t.1.length < 140737488355328 then runs_read32.l0 k l0 a1 a2 t.2.2.1 t.2.2.2 t.1 (wrap64 (y + 1)) (pix ++ t.1) else none) else some (0, 0, [], 0, t.2.1))) else ((bits_Reader_At.f l0 p o).bind fun t => some (a1, a2, pix, t.1, 0))
def runs_read32.f (k : Nat) (l0 : List Int) (a1 a2 : Int) : Option (Int × Int × List Int × Int × Int) :=
  (bitmap_New.f k a1 a2 0).bind fun t => (if t.2.2.2 = 0 then (if 0 ≤ a1 then (if a1.toNat ≤ 281474976710656 then (if l0.length < 140737488355328 then runs_read32.l0 k l0 a1 a2 0 true (List.replicate a1.toNat 0) 0 [] else none) else none) else none) else some (0, 0, [], 0, 2))
theorem runs_read32.mono_l : ∀ k, (∀ y0 y1 y2 y3 y4 y5 y6 y7, LeO (runs_read32.l0 k y0 y1 y2 y3 y4 y5 y6 y7) (runs_read32.l0 (k + 1) y0 y1 y2 y3 y4 y5 y6 y7))
 | 0 => fun _ _ _ _ _ _ _ _ r h => by simp [runs_read32.l0] at h
 | k + 1 => by
  have ih0 := runs_read32.mono_l k
  intro y0 y1 y2 y3 y4 y5 y6 y7
  unfold runs_read32.l0
  refine LeO.ite (LeO.bind (runs_reader_two.mono _ _ _ _ _ k) (fun t => LeO.ite (LeO.ite (ih0 _ _ _ _ _ _ _ _) (LeO.refl _)) (LeO.refl _))) (LeO.refl _)
theorem runs_read32.mono : ∀ a0 a1 a2 k, LeO (runs_read32.f k a0 a1 a2) (runs_read32.f (k + 1) a0 a1 a2) := by
  intro a0 a1 a2 k
  unfold runs_read32.f
  exact LeO.bind (bitmap_New.mono _ _ _ k) (fun t => LeO.ite (LeO.ite (LeO.ite (LeO.ite (runs_read32.mono_l k _ _ _ _ _ _ _ _) (LeO.refl _)) (LeO.refl _)) (LeO.refl _)) (LeO.refl _))
def runs_read32.T14 : Bool × List (List Nat × List Nat) := (true, [([], []), ([], []), ([1], [1]), ([2], [2]), ([3], [3]), ([4], [4]), ([0, 5, 0], [0]), ([5, 6, 0, 1, 2, 3, 4, 5, 6], [5]), ([7, 0, 1, 2, 3, 4, 5, 6, 7], [])])
def runs_read32.B14 : List Nat := [0, 0, 2, 6, 14, 30, 63, 127, 255]
theorem runs_read32.tab14 : rtab .any (opsOf Tryd.f30 14) = runs_read32.T14 := by kernel_rfl
theorem runs_read32.bits14 : waitsOk runs_read32.T14.2 runs_read32.B14 = true := by kernel_rfl
set_option maxHeartbeats 16000000 in
set_option maxRecDepth 100000 in
theorem runs_read32.calls (k : Nat) (A0 : Option Addr) (c0 : Nat) (l0 : List Int) (a1 a2 : Int) (r1 r2 : Int) (r3 : List Int) (r4 r5 : Int) (w : World) (hr0 : Kd.C (Kd.int .u8) w A0 l0.length l0) (hc0 : l0.length ≤ c0) (h : runs_read32.f k l0 a1 a2 = some (r1, r2, r3, r4, r5)) :
  Calls Tryd.prog 30 #[.slice A0 l0.length c0, .int .i64 a1, .int .i64 a2, .func (.func 32) #[] #[]] w fun e w' => ∃ v2_ : Value, e = .returned (.tuple #[.agg #[.int .i64 r1, .int .i64 r2, v2_], .int .i64 r4, .int .i64 r5]) ∧ Kd.R (Kd.int .u8) 5 w' w.heap.size (fun _ => True) v2_ r3 ∧ Below w.heap.size w w' := by
 have hu24 := Tryd.underlying24
 have hu86 := Tryd.underlying86
 have HR0 := Aside0.mk hr0
 have HC0 := Aside0.mk hc0
 clear hr0 hc0
 have HB := Aside0.mk (Below.refl w.heap.size w)
 unfold runs_read32.f at h
 obtain ⟨⟨t1, t2, t3, t4⟩, A1, H⟩ := Option.bind_eq_some_iff.mp h
 clear h
 have A1 := Aside0.mk A1
 try dsimp only at H
 by_cases c2 : t4 = 0
 ·rw [if_pos c2] at H
  subst c2
  by_cases c3 : 0 ≤ a1
  ·rw [if_pos c3] at H
   have c3b0 := eq_true c3
   have c3b1 := decide_eq_true c3
   clear c3
   by_cases c4 : a1.toNat ≤ 281474976710656
   ·rw [if_pos c4] at H
    have c4b0 := eq_true c4
    have c4b1 := decide_eq_true c4
    clear c4
    by_cases c5 : l0.length < 140737488355328
    ·rw [if_pos c5] at H
     have HL0 := Aside0.mk c5
     clear c5
     obtain ⟨y532, hy_⟩ : ∃ y_ : List Int, y_ = (List.replicate (a1 : Int).toNat 0) := ⟨_, rfl⟩
     rw [← hy_] at H
     have Ny532 := aE hy_
     clear hy_
     have H' := Aside0.mk H
     clear H
     go_enter Tryd.func30, Tryd.ntmps30
     go_wp2_with (first
      | ((with_reducible refine gd 8 rfl ?_); refine bx 8 #[.int .i64 0, .int .i64 0, .slice none 0 0] 24 rfl rfl ?_; intro gb8 hg wA hbox hb; have n_ := aC (bs hb) (aC hbox (aE (gz hg))); clear HB; obtain ⟨HB, BK8, GW8⟩ := n_; clear hb hbox hg)
      | (refine gF 44 18 Tryd.func44 #[.int .i64 a1, .int .i64 a2, .int .i64 0] rfl rfl ?_; (with_reducible refine (bitmap_New.calls k a1 a2 0 t1 t2 t3 0 _ A1.out).mono ?_); rintro e wB ⟨v18, rfl, ho, hb⟩; refine ⟨_, rfl, ?_⟩; have n_ := aC (blk_below (bU BK8.out) hb) (aC ho (aE (bs hb))); clear BK8 HB ho hb; obtain ⟨BK8, HO18, HB⟩ := n_; obtain ⟨Ao18, co18, eo18⟩ := Kd.R_slice HO18.out; subst eo18; clear HO18)
      | ((with_reducible refine gd 11 rfl ?_); refine bx 11 #[.int .i64 0, .int .i64 0, .slice none 0 0] 24 rfl rfl ?_; intro gb11 hg wC hbox hb; have n_ := aC (blk_below (bU BK8.out) hb) (aC (bs hb) (aC hbox (aC (gz hg) (aC (gn hg (bU BK8.out)) (aE (gm hg (bU BK8.out))))))); clear BK8 HB; obtain ⟨BK8, HB, BK11, GW11, NB8_11, NB11_8⟩ := n_; clear hb hbox hg; have hnb11 := NB11_8.out; have hnc11 := NB8_11.out; obtain ⟨hcz12_0, hcz12_1, hcz12_2, hfz12_0, hfz12_1, hfz12_2⟩ := cz3f BK11.out)
      | (refine gF 45 25 Tryd.func45 #[.slice A0 l0.length c0] rfl rfl ?_; (with_reducible refine (runs_newReader.calls 200 A0 c0 l0 tU tC0 tC1 tW _ (Kd.C_below HR0.out bl) HC0.out HL0.out newReader_tabs).mono ?_); rintro e wD ⟨gr, gx, w0, rfl, hI, hX, hB0, hs, hb, hge, hlt, hsz⟩; refine ⟨_, rfl, ?_⟩; have n_ := aC (blk_below (show _ = some (.cells #[.int .i64 0, .int .i64 0, .slice none 0 0] 24 (0, 0)) from by (repeat refine blk_far ?_ NB8_11.out _); exact BK8.out) hb) (aC (XokB.mono hX (B' := gb8 + 1) (blk_lt (o := .cells #[.int .i64 0, .int .i64 0, .slice none 0 0] 24 (0, 0)) (by (repeat refine blk_far ?_ NB8_11.out _); exact BK8.out))) (aC (St.of hI hB0 hs) (aC (Kb.refl (gb8 + 1) gr wD) (aC (Nat.lt_of_lt_of_le (blk_lt (o := .cells #[.int .i64 0, .int .i64 0, .slice none 0 0] 24 (0, 0)) (by (repeat refine blk_far ?_ NB8_11.out _); exact BK8.out)) hge : gb8 < gr) (aC hsz (aC (Nat.lt_trans hlt hsz : gr < wD.heap.size) (aE (bs hb)))))))); clear BK8 HB hI hX hB0 hs hb hge; obtain ⟨BK8, XB, ST, KB, LT8, LTX, LTG, HB⟩ := n_; obtain ⟨hcz20_0, hcz20_1, hcz20_2, hfz20_0, hfz20_1, hfz20_2⟩ := cz3f BK8.out)
      | ((with_reducible refine gd 30 rfl ?_); refine Kd.R_make (Kd.int .u8) _ 5 rfl (N := 30) rfl 22 _ _ rfl a1 rfl rfl Tryd.underlying22 (.int .u8 0) 1 info5 rfl (by decide) (by omega) 0 (ok := fun _ => True) (okp := fun _ => True) rfl (fun _ hk => hk) trivial (dt) (Nat.le_trans (Nat.mul_le_mul_right _ (dt : a1.toNat ≤ 281474976710656)) (by omega)) (Below.refl _ _) (Nat.le_refl _) ?_; intro v533 wE ho14 hb hg_ hnew_; clear hg_ hnew_; (first | rw [← Ny532.out] at ho14 | (simp only [Int.reduceToNat] at ho14; rw [← Ny532.out] at ho14)); have n_ := aC (Kd.R_lower ho14 (Kb.trans KB.out (Kb.off (gb := gb8) (g := gr) (w := wD))).1) (aC (blk_below (show _ = some (.cells #[.int .i64 a1, .int .i64 a2, .slice none 0 0] 24 (0, 0)) from by refine blk_put (cs := #[.int .i64 a1, .int .i64 a2, .slice none 0 0]) ?_ 2 _ rfl; refine blk_put (cs := #[.int .i64 a1, .int .i64 0, .slice none 0 0]) ?_ 1 _ rfl; refine blk_put (cs := #[.int .i64 0, .int .i64 0, .slice none 0 0]) ?_ 0 _ rfl; exact BK8.out) hb) (aC (St.below (St.off ST.out BK8.out rfl (Nat.ne_of_lt LT8.out)) hb) (aC (Kb.trans (Kb.trans KB.out (Kb.off (gb := gb8) (g := gr) (w := wD))) (Kb.of_below hb)) (aE (bs hb))))); clear BK8 ST KB HB; obtain ⟨HO14, BK8, ST, KB, HB⟩ := n_; clear hb ho14))
     go_loopg [14, 32] k (fun kq v14 v32 w' => ∃ (ab : List Int) (y : Int) (p : Int) (o : Bool) (pix : List Int) (u : Value), v32 = .int .i64 y ∧ Aside0 (runs_read32.l0 kq l0 a1 a2 p o ab y pix = some (r1, r2, r3, r4, r5)) ∧ Aside0 (kq ≤ k) ∧ Aside0 (Kd.R (Kd.int .u8) 5 w' wD.heap.size (fun k_ => some k_ ≠ (u : Value).ownBlock) v14 ab) ∧ Aside0 (Kd.R (Kd.int .u8) 5 w' wD.heap.size (fun k_ => some k_ ≠ (v14 : Value).ownBlock) u pix) ∧ Aside0 (w'.heap[gb8]? = some (.cells #[.int .i64 a1, .int .i64 a2, u] 24 (0, 0))) ∧ Aside0 (St w' gr l0 p o) ∧ Aside0 (Kb (gb8 + 1) gr wD w') ∧ Aside0 (Below w.heap.size w w'))
     case atStart => exact ⟨y532, (0), (0), true, ([] : List Int), (.slice none 0 0), rq, H', ⟨Nat.le_refl _⟩, ⟨rU (Kd.R_mono HO14.out (fun _ hk => (by simp [Value.ownBlock])))⟩, ⟨Kd.R_nil _ _ _ _ _⟩, ⟨bU BK8.out⟩, ⟨by exact ST.out⟩, ⟨by exact KB.out⟩, ⟨bl⟩⟩
     case round =>
      clear H' HO14 ST KB HB BK8
      obtain ⟨ab, y, p, o, pix, u, rfl, HA, HK1, HO_14, HO_p, BK8, ST, KB, HB⟩ := hrel
      cases gk with
      | zero => exact absurd HA.out (by simp [runs_read32.l0])
      | succ k1 =>
       have H := HA.out
       clear HA
       simp only [runs_read32.l0] at H
       obtain ⟨Aou, cou, eou⟩ := Kd.R_slice HO_p.out
       subst eou
       rcases iL H with H1 | H1 <;> clear H <;> obtain ⟨H, c15b0⟩ := H1
       ·obtain ⟨⟨q1, q2, q3, q4⟩, A170, H⟩ := Option.bind_eq_some_iff.mp H
        try dsimp only at H
        have A17 := Aside0.mk A170
        clear A170
        obtain ⟨Ao20, co20, eo20⟩ := Kd.R_slice HO_14.out
        subst eo20
        rcases iE H with H1 | H1 <;> clear H <;> obtain ⟨H, c18b0, c18b1, c18⟩ := H1
        ·by_cases c19 : pix.length + q1.length < 140737488355328
         ·rw [if_pos c19] at H
          have LMc19 := Aside0.mk c19
          clear c19
          obtain ⟨y540, hy_⟩ : ∃ y_ : List Int, y_ = (pix ++ q1) := ⟨_, rfl⟩
          rw [← hy_] at H
          have Ny540 := aE hy_
          clear hy_
          have H' := Aside0.mk H
          clear H
          go_wp2_with (first | ((with_reducible refine gate_value rfl ?_); refine goesV_ (some 39) rfl rfl Tryd.func32 (by kernel_rfl) rfl #[.pointer (some ⟨gx, 0, none⟩), .int .i64 a1, .slice Ao20 ab.length co20] rfl rfl (by (try simp only [List.map_toArray, List.map_cons, List.map_nil]); first | done | rfl) ?_; (with_reducible refine (runs_reader_two.calls k1 gr l0 p o a1 _ _ ab q1 q2 q3 q4 (cutAt _ gr) _ (St.to ST.out).1 (St.to ST.out).2.1 (Kd.R_reads' HO_14.out).2.2 (Kd.R_reads' HO_14.out).2.1 (fun ad e_ _ => Nat.ne_of_gt (Nat.lt_of_lt_of_le LTG.out (Kd.R_base HO_14.out _ (by rw [e_]; simp [Value.ownBlock])))) gx (XB.out.kb KB.out).old A17.out).mono ?_); rintro e wF ⟨v39, rfl, ho, hi, hb, hk⟩; refine ⟨_, rfl, ?_⟩; have n_ := aC (Kd.R_lower (Kd.R_new' (Kd.R_new' ho (Kd.R_lt HO_14.out)) (Kd.R_lt HO_p.out)) KB.out.1) (aC (Kd.R_mono (Kd.R_step (Kd.R_bound HO_p.out) (fun k_ h_ hl_ => hk.2 k_ hl_ (Nat.ne_of_gt (Nat.lt_of_lt_of_le LTG.out h_.2.1)) (by simp))) (fun k_ h_ => show some k_ ≠ v39.ownBlock from fun e_ => absurd (Kd.R_base ho k_ e_.symm) (Nat.not_le.mpr h_.2.2.1))) (aC (KeepBut.blk hk BK8.out (Nat.ne_of_lt LT8.out) (by simp)) (aC (St.of hi hb (St.to ST.out).2.2) (aC (Kb.trans KB.out (Kb.of_keep hk)) (aE (below_keep HB.out (Nat.le_refl _) hb hk (Nat.le_trans GW8.out (Nat.le_of_lt LT8.out)))))))); clear HO_14 HO_p BK8 ST KB HB ho hi hb hk; obtain ⟨HO39, HO_p, BK8, ST, KB, HB⟩ := n_; obtain ⟨hcz23_0, hcz23_1, hcz23_2, hfz23_0, hfz23_1, hfz23_2⟩ := cz3f BK8.out; obtain ⟨Ao25, co25, eo25⟩ := Kd.R_slice HO39.out; subst eo25) | ((with_reducible refine gate_builtin (b := .append) (xs := #[.tmp 47, .tmp 48]) rfl ?_); at_builtin; refine Kd.R_append_rows (Kd.int .u8) (w0 := wF) wD.heap.size rfl (.tmp 47) (.tmp 48) 22 5 (.int .u8 0) 1 rfl Tryd.underlying22 info5 rfl (by decide) (by omega) (.slice Aou pix.length cou) pix q1 _ _ _ (fun k_ => some k_ ≠ (.slice Ao25 q1.length co25 : Value).ownBlock) (fun _ => False) rfl rfl ?aO ?aR (fun _ _ h => h) (fun _ h => h.elim) ?aF ?aB ?aS ?aL ?_; (case aR => exact (Kd.R_reads' HO39.out).2.2); (case aB => exact Below.refl _ _); (case aF => exact (fun k_ hk => Kd.fresh' (Kd.R_lt HO39.out) k_ hk)); (case aO => exact HO_p.out); (case aS => exact KB.out.1); (case aL => have := LMc19.out; omega); intro v49 wG ho hb hg hat; rw [← Ny540.out] at ho; have n_ := aC (Kd.R_after HO39.out hg hat) (aC ho (aC (blk_grown (g := gb8) BK8.out hg (fun e_ => absurd (Kd.R_base HO_p.out gb8 e_.symm) (Nat.not_le.mpr (Nat.lt_trans LT8.out LTG.out)))) (aC (St.grown ST.out hg (fun k_ e_ => Nat.lt_of_lt_of_le LTG.out (Kd.R_base HO_p.out k_ e_))) (aC (Kb.grown KB.out hg (fun k_ e_ => Kd.R_base HO_p.out k_ e_)) (aE (below_via HB.out hb (Nat.le_trans GW8.out (Nat.le_of_lt (Nat.lt_trans LT8.out LTG.out))))))))); clear HO39 HO_p BK8 ST KB HB ho hb hg hat; obtain ⟨HO39, HO_p, BK8, ST, KB, HB⟩ := n_; obtain ⟨hcz24_0, hcz24_1, hcz24_2, hfz24_0, hfz24_1, hfz24_2⟩ := cz3f BK8.out; obtain ⟨Ao26, co26, eo26⟩ := Kd.R_slice HO_p.out; subst eo26))
          go_roundg k1
          case measure => have := HK1.out; omega
          case rel => exact ⟨q1, (wrap64 (y + 1)), q3, q4, y540, (.slice Ao26 y540.length co26), rq, H', ⟨by have := HK1.out; omega⟩, ⟨(Kd.R_mono (Kd.R_far (p := ⟨gb8, 2, none⟩) (Kd.R_bound HO39.out) (fun k_ h_ => Nat.ne_of_gt (Nat.lt_of_lt_of_le (Nat.lt_trans LT8.out LTG.out) h_.2.1)) (.slice Ao26 y540.length co26)) (fun _ h_ => h_.1.2))⟩, ⟨(Kd.R_mono (Kd.R_far (p := ⟨gb8, 2, none⟩) (Kd.R_bound HO_p.out) (fun k_ h_ => Nat.ne_of_gt (Nat.lt_of_lt_of_le (Nat.lt_trans LT8.out LTG.out) h_.2.1)) (.slice Ao26 y540.length co26)) (fun _ h_ => h_.1))⟩, ⟨by refine blk_put (cs := #[.int .i64 a1, .int .i64 a2, .slice Aou pix.length cou]) ?_ 2 _ rfl; exact BK8.out⟩, ⟨St.off ST.out BK8.out rfl (Nat.ne_of_lt LT8.out)⟩, ⟨Kb.trans KB.out Kb.off⟩, ⟨bl⟩⟩
         ·rw [if_neg c19] at H
          exact absurd H (by simp)
        ·simp only [Option.some.injEq, Prod.mk.injEq] at H
         obtain ⟨rfl, rfl, rfl, rfl, rfl⟩ := H
         go_wp2_with (first | ((with_reducible refine gate_value rfl ?_); refine goesV_ (some 39) rfl rfl Tryd.func32 (by kernel_rfl) rfl #[.pointer (some ⟨gx, 0, none⟩), .int .i64 a1, .slice Ao20 ab.length co20] rfl rfl (by (try simp only [List.map_toArray, List.map_cons, List.map_nil]); first | done | rfl) ?_; (with_reducible refine (runs_reader_two.calls k1 gr l0 p o a1 _ _ ab q1 q2 q3 q4 (cutAt _ gr) _ (St.to ST.out).1 (St.to ST.out).2.1 (Kd.R_reads' HO_14.out).2.2 (Kd.R_reads' HO_14.out).2.1 (fun ad e_ _ => Nat.ne_of_gt (Nat.lt_of_lt_of_le LTG.out (Kd.R_base HO_14.out _ (by rw [e_]; simp [Value.ownBlock])))) gx (XB.out.kb KB.out).old A17.out).mono ?_); rintro e wF ⟨v39, rfl, ho, hi, hb, hk⟩; refine ⟨_, rfl, ?_⟩; have n_ := aC (Kd.R_lower (Kd.R_new' (Kd.R_new' ho (Kd.R_lt HO_14.out)) (Kd.R_lt HO_p.out)) KB.out.1) (aC (Kd.R_mono (Kd.R_step (Kd.R_bound HO_p.out) (fun k_ h_ hl_ => hk.2 k_ hl_ (Nat.ne_of_gt (Nat.lt_of_lt_of_le LTG.out h_.2.1)) (by simp))) (fun k_ h_ => show some k_ ≠ v39.ownBlock from fun e_ => absurd (Kd.R_base ho k_ e_.symm) (Nat.not_le.mpr h_.2.2.1))) (aC (KeepBut.blk hk BK8.out (Nat.ne_of_lt LT8.out) (by simp)) (aC (St.of hi hb (St.to ST.out).2.2) (aC (Kb.trans KB.out (Kb.of_keep hk)) (aE (below_keep HB.out (Nat.le_refl _) hb hk (Nat.le_trans GW8.out (Nat.le_of_lt LT8.out)))))))); clear HO_14 HO_p BK8 ST KB HB ho hi hb hk; obtain ⟨HO39, HO_p, BK8, ST, KB, HB⟩ := n_; obtain ⟨hcz23_0, hcz23_1, hcz23_2, hfz23_0, hfz23_1, hfz23_2⟩ := cz3f BK8.out; obtain ⟨Ao25, co25, eo25⟩ := Kd.R_slice HO39.out; subst eo25))
         refine bodyPost_ret (results_ctt rfl _ _ gb8 24 #[.int .i64 0, .int .i64 0, .slice none 0 0] (0, 0) _ rfl (by (with_reducible repeat (first | refine blk_drewN ?_ _ | refine blk_drew ?_ | refine blk_alloc ?_ _)); refine blk_put (cs := #[.int .i64 0, .int .i64 0, .slice Aou pix.length cou]) ?_ 2 _ rfl; (with_reducible repeat (first | refine blk_drewN ?_ _ | refine blk_drew ?_ | refine blk_alloc ?_ _)); refine blk_put (cs := #[.int .i64 0, .int .i64 a2, .slice Aou pix.length cou]) ?_ 1 _ rfl; (with_reducible repeat (first | refine blk_drewN ?_ _ | refine blk_drew ?_ | refine blk_alloc ?_ _)); refine blk_put (cs := #[.int .i64 a1, .int .i64 a2, .slice Aou pix.length cou]) ?_ 0 _ rfl; exact BK8.out) Tryd.underlying24 rfl (by kernel_rfl)) rfl ?_
         exact ⟨_, re, Kd.R_nil _ _ _ _ _, bl⟩
       ·obtain ⟨⟨q1, q2, q3⟩, A170, H⟩ := Option.bind_eq_some_iff.mp H
        try dsimp only at H
        have A17 := Aside0.mk A170
        clear A170
        simp only [Option.some.injEq, Prod.mk.injEq] at H
        obtain ⟨rfl, rfl, rfl, rfl, rfl⟩ := H
        obtain ⟨hcz30_0, hcz30_1, hcz30_2, hfz30_0, hfz30_1, hfz30_2⟩ := cz3f BK8.out
        go_wp2
        have n_ := aC (blk_drew BK8.out) (aC (show St wr.drew gr l0 p o from St.same ST.out (fun _ _ => rfl)) (aC (show Kb (gb8 + 1) gr wD wr.drew from KB.out) (aC (below_drew1 HB.out) (aC (Kd.R_drew HO_p.out) (aE (show wr.drew.cell? ⟨gx, 0, none⟩ = _ from XB.out.cell0 wr KB.out))))))
        clear BK8 ST KB HB HO_p HO_14
        obtain ⟨BK8, ST, KB, HB, HO_p, HX0⟩ := n_
        refine st 9 (fun w' => w'.cell? ⟨gb8, 0, none⟩ = some (.int .i64 a1) ∧ w'.cell? ⟨gb8, 1, none⟩ = some (.int .i64 a2) ∧ w'.cell? ⟨gb8, 2, none⟩ = some (.slice Aou pix.length cou) ∧ w'.cell? ⟨gx, 0, none⟩ = some (.pointer (some ⟨gr, 0, none⟩))) [6] (bv 9 0) runs_read32.tab14 runs_read32.bits14 ⟨kc0 BK8.out, kc1 BK8.out, kc2 BK8.out, HX0.out⟩ (fun hHeld HT_ HW_ => ?_)
        generalize wr.drew = w12 at BK8 ST KB HB HO_p HX0 hHeld ⊢
        refine tk 0 52 (bv 9 1) HT_ HW_ hHeld rfl rfl (by rintro w' ⟨s0, s1, s2, s3⟩; exact yl) ?_
        refine pu 1 53 (bv 9 3) HT_ rfl rfl ?_
        refine pu 2 54 (bv 9 7) HT_ rfl rfl ?_
        refine pu 3 55 (bv 9 15) HT_ rfl rfl ?_
        refine tk 4 56 (bv 9 31) HT_ HW_ hHeld rfl rfl (by rintro w' ⟨s0, s1, s2, s3⟩; exact yl) ?_
        refine one_ (i := 5) (N := some 57) (bv 9 63) rfl rfl (one_of HT_.out (by kernel_rfl)) (by decide) (fun K hK => ?_)
        refine gK Tryd.func46 rfl #[.pointer (some ⟨gr, 0, none⟩)] rfl rfl ?_
        with_reducible refine (bits_Reader_At.calls gr l0 p o q1 q2 q3 (cutAt w12 gr) _ (St.to ST.out).1 (St.to ST.out).2.1 A17.out).mono ?_
        rintro e w13 ⟨rfl, hi, hb, hk⟩
        refine ⟨_, rfl, ?_⟩
        have n_ := aC (KeepBut.blk hk BK8.out (Nat.ne_of_lt LT8.out) (by simp)) (aC (Kd.R_step (Kd.R_bound HO_p.out) (fun k_ h_ hl_ => hk.2 k_ hl_ (Nat.ne_of_gt (Nat.lt_of_lt_of_le LTG.out h_.2.1)) (by simp))) (aC (XB.out.cell0 _ (Kb.trans KB.out (Kb.of_keep hk))) (aE (below_keep HB.out (Nat.le_refl _) hb hk (Nat.le_trans GW8.out (Nat.le_of_lt LT8.out))))))
        clear BK8 HO_p HB HX0 hi hb hk ST KB
        obtain ⟨BK8, HO_p, HX0, HB⟩ := n_
        refine hK.out _ _ ⟨kc0 BK8.out, kc1 BK8.out, kc2 BK8.out, HX0.out⟩ (fun hHeld => ?_)
        clear hK K
        refine nm (some 57) ?_
        refine last_ (i := 6) (N := none) (bv 9 127) rfl rfl (one_of HT_.out (by kernel_rfl)) (by decide) (fun K hK => ?_)
        refine want_ (by rfl) ?_
        obtain ⟨hcz30_0, hcz30_1, hcz30_2, hfz30_0, hfz30_1, hfz30_2⟩ := cz3f BK8.out
        unfold Oper.wp
        go_simp
        refine hK.out _ _ ?_
        clear hK K
        refine pu 7 9 (bv 9 255) HT_ rfl rfl ?_
        refine pu 8 10 (bv 9 511) HT_ rfl rfl ?_
        refine done_ (done_of HT_.out (by kernel_rfl)) ?_
        go_wp2
        refine bodyPost_ret (results_ctt rfl _ _ gb8 24 #[.int .i64 a1, .int .i64 a2, .slice Aou pix.length cou] (0, 0) _ rfl (by refine blk_put (cs := #[.int .i64 a1, .int .i64 a2, .slice Aou pix.length cou]) ?_ 2 _ rfl; refine blk_put (cs := #[.int .i64 a1, .int .i64 a2, .slice Aou pix.length cou]) ?_ 1 _ rfl; refine blk_put (cs := #[.int .i64 a1, .int .i64 a2, .slice Aou pix.length cou]) ?_ 0 _ rfl; exact BK8.out) Tryd.underlying24 rfl (by kernel_rfl)) rfl ?_
        exact ⟨_, re, Kd.R_lower (Kd.R_mono (Kd.R_far (p := ⟨gb8, 2, none⟩) (Kd.R_far (p := ⟨gb8, 1, none⟩) (Kd.R_far (p := ⟨gb8, 0, none⟩) (Kd.R_bound HO_p.out) (fun k_ h_ => Nat.ne_of_gt (Nat.lt_of_lt_of_le (Nat.lt_trans LT8.out LTG.out) h_.2.1)) _) (fun k_ h_ => Nat.ne_of_gt (Nat.lt_of_lt_of_le (Nat.lt_trans LT8.out LTG.out) h_.2.1)) _) (fun k_ h_ => Nat.ne_of_gt (Nat.lt_of_lt_of_le (Nat.lt_trans LT8.out LTG.out) h_.2.1)) _) (fun _ _ => trivial)) (Nat.le_trans GW8.out (Nat.le_of_lt (Nat.lt_trans LT8.out LTG.out))), bl⟩
    ·rw [if_neg c5] at H
     exact absurd H (by simp)
   ·rw [if_neg c4] at H
    exact absurd H (by simp)
  ·rw [if_neg c3] at H
   exact absurd H (by simp)
 ·rw [if_neg c2] at H
  have c2b0 := beq_eq_false_iff_ne.mpr c2
  have c2b1 := bne_iff_ne.mpr c2
  simp only [Option.some.injEq, Prod.mk.injEq] at H
  obtain ⟨rfl, rfl, rfl, rfl, rfl⟩ := H
  go_enter Tryd.func30, Tryd.ntmps30
  go_wp2_with (first | ((with_reducible refine gd 8 rfl ?_); refine bx 8 #[.int .i64 0, .int .i64 0, .slice none 0 0] 24 rfl rfl ?_; intro gb8 hg wA hbox hb; have n_ := aC (bs hb) (aC hbox (aE (gz hg))); clear HB; obtain ⟨HB, BK8, GW8⟩ := n_; clear hb hbox hg) | (refine gF 44 18 Tryd.func44 #[.int .i64 a1, .int .i64 a2, .int .i64 0] rfl rfl ?_; (with_reducible refine (bitmap_New.calls k a1 a2 0 t1 t2 t3 t4 _ A1.out).mono ?_); rintro e wB ⟨v18, rfl, ho, hb⟩; refine ⟨_, rfl, ?_⟩; have n_ := aC (blk_below (bU BK8.out) hb) (aC ho (aE (bs hb))); clear BK8 HB ho hb; obtain ⟨BK8, HO18, HB⟩ := n_; obtain ⟨Ao18, co18, eo18⟩ := Kd.R_slice HO18.out; subst eo18; clear HO18) | ((with_reducible refine gd 11 rfl ?_); refine bx 11 #[.int .i64 0, .int .i64 0, .slice none 0 0] 24 rfl rfl ?_; intro gb11 hg wC hbox hb; have n_ := aC (blk_below (bU BK8.out) hb) (aC (bs hb) (aC hbox (aC (gz hg) (aC (gn hg (bU BK8.out)) (aE (gm hg (bU BK8.out))))))); clear BK8 HB; obtain ⟨BK8, HB, BK11, GW11, NB8_11, NB11_8⟩ := n_; clear hb hbox hg; have hnb11 := NB11_8.out; have hnc11 := NB8_11.out; obtain ⟨hcz12_0, hcz12_1, hcz12_2, hfz12_0, hfz12_1, hfz12_2⟩ := cz3f BK11.out; have BKo := BK8; obtain ⟨hcz13_0, hcz13_1, hcz13_2, hfz13_0, hfz13_1, hfz13_2⟩ := cz3f BK8.out))
  refine bodyPost_ret (results_ctt rfl _ _ gb8 24 #[.int .i64 0, .int .i64 0, .slice none 0 0] (0, 0) _ rfl (by (with_reducible repeat (first | refine blk_drewN ?_ _ | refine blk_drew ?_ | refine blk_alloc ?_ _)); refine blk_put (cs := #[.int .i64 0, .int .i64 0, .slice none 0 0]) ?_ 2 _ rfl; (with_reducible repeat (first | refine blk_drewN ?_ _ | refine blk_drew ?_ | refine blk_alloc ?_ _)); refine blk_put (cs := #[.int .i64 0, .int .i64 0, .slice none 0 0]) ?_ 1 _ rfl; (with_reducible repeat (first | refine blk_drewN ?_ _ | refine blk_drew ?_ | refine blk_alloc ?_ _)); refine blk_put (cs := #[.int .i64 0, .int .i64 0, .slice none 0 0]) ?_ 0 _ rfl; (repeat refine blk_far ?_ NB8_11.out _); exact BK8.out) Tryd.underlying24 rfl (by kernel_rfl)) rfl ?_
  exact ⟨_, re, Kd.R_nil _ _ _ _ _, bl⟩
def runs_GetTwo.f (k : Nat) (l0 : List Int) (a1 a2 : Int) : Option (Int × Int × List Int × Int × Int) := runs_read32.f k l0 a1 a2
theorem runs_GetTwo.mono : ∀ a0 a1 a2 k, LeO (runs_GetTwo.f k a0 a1 a2) (runs_GetTwo.f (k + 1) a0 a1 a2) := runs_read32.mono
set_option maxHeartbeats 8000000 in
set_option maxRecDepth 100000 in
theorem runs_GetTwo.calls (k : Nat) (A0 : Option Addr) (c0 : Nat) (l0 : List Int) (a1 : Int) (a2 : Int) (r1 : Int) (r2 : Int) (r3 : List Int) (r4 : Int) (r5 : Int) (w : World) (hr0 : Kd.C (Kd.int .u8) w A0 l0.length l0) (hc0 : l0.length ≤ c0) (h : runs_GetTwo.f k l0 a1 a2 = some (r1, r2, r3, r4, r5)) :
  Calls Tryd.prog 14 #[.slice A0 l0.length c0, .int .i64 a1, .int .i64 a2] w fun e w' => ∃ v2_ : Value, e = .returned (.tuple #[.agg #[.int .i64 r1, .int .i64 r2, v2_], .int .i64 r4, .int .i64 r5]) ∧ Kd.R (Kd.int .u8) 5 w' w.heap.size (fun _ => True) v2_ r3 ∧ Below w.heap.size w w' := by
 have hu24 := Tryd.underlying24
 have HR0 := Aside0.mk hr0
 have HC0 := Aside0.mk hc0
 have A1 := Aside0.mk (show runs_read32.f k l0 a1 a2 = some (r1, r2, r3, r4, r5) from h)
 clear hr0 hc0 h
 have HB := Aside0.mk (Below.refl w.heap.size w)
 go_enter Tryd.func14, Tryd.ntmps14
 go_wp2_with (first
  | ((with_reducible refine gd 6 rfl ?_); refine bx 6 #[.int .i64 0, .int .i64 0, .slice none 0 0] 24 rfl rfl ?_; intro gb8 hg wA hbox hb; have n_ := aC (bs hb) (aC hbox (aE (gz hg))); clear HB; obtain ⟨HB, BK8, GW8⟩ := n_; clear hb hbox hg)
  | (refine gF 30 12 Tryd.func30 #[.slice A0 l0.length c0, .int .i64 a1, .int .i64 a2, .func (.func 32) #[] #[]] rfl rfl ?_; (with_reducible refine (runs_read32.calls k A0 c0 l0 a1 a2 r1 r2 r3 r4 r5 _ (Kd.C_below HR0.out bl) HC0.out A1.out).mono ?_); rintro e wB ⟨v18, rfl, ho, hb⟩; refine ⟨_, rfl, ?_⟩; have n_ := aC (blk_below (bU BK8.out) hb) (aC ho (aC (blk_lt BK8.out) (aE (bs hb)))); clear BK8 HB ho hb; obtain ⟨BK8, HO18, LT8, HB⟩ := n_; obtain ⟨Ao18, co18, eo18⟩ := Kd.R_slice HO18.out; subst eo18; obtain ⟨hcz20_0, hcz20_1, hcz20_2, hfz20_0, hfz20_1, hfz20_2⟩ := cz3f BK8.out))
 refine bodyPost_ret (results_ctt rfl _ _ gb8 24 #[.int .i64 r1, .int .i64 r2, .slice Ao18 r3.length co18] (0, 0) _ rfl (by refine blk_put (cs := #[.int .i64 r1, .int .i64 r2, .slice none 0 0]) ?_ 2 _ rfl; refine blk_put (cs := #[.int .i64 r1, .int .i64 0, .slice none 0 0]) ?_ 1 _ rfl; refine blk_put (cs := #[.int .i64 0, .int .i64 0, .slice none 0 0]) ?_ 0 _ rfl; exact BK8.out) Tryd.underlying24 rfl (by kernel_rfl)) rfl ?_
 exact ⟨_, re, Kd.R_lower (Kd.R_mono (Kd.R_far (p := ⟨gb8, 2, none⟩) (Kd.R_far (p := ⟨gb8, 1, none⟩) (Kd.R_far (p := ⟨gb8, 0, none⟩) (Kd.R_bound HO18.out) (fun k_ h_ => Nat.ne_of_gt (Nat.lt_of_lt_of_le LT8.out h_.2.1)) _) (fun k_ h_ => Nat.ne_of_gt (Nat.lt_of_lt_of_le LT8.out h_.2.1)) _) (fun k_ h_ => Nat.ne_of_gt (Nat.lt_of_lt_of_le LT8.out h_.2.1)) _) (fun _ _ => trivial)) (Nat.le_trans GW8.out (Nat.le_of_lt LT8.out)), bl⟩
end Go.Proofs.YtidgpjcgoocpeaaDoor.PTopRuns
