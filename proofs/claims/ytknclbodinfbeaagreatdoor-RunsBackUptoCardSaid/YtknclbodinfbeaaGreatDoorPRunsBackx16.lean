-- printed (wip/tools/myprint.py)
import Derived.Test.YtknclbodinfbeaaGreatDoorPRunsBackx0
import Derived.Test.YtknclbodinfbeaaGreatDoorPRunsBackx1
import Derived.Test.YtknclbodinfbeaaGreatDoorPRunsBackx11
import Derived.Test.YtknclbodinfbeaaGreatDoorPRunsBackx13
import Derived.Test.YtknclbodinfbeaaGreatDoorPRunsBackx14
import Derived.Test.YtknclbodinfbeaaGreatDoorPRunsBackx15
namespace Go.Proofs.YtknclbodinfbeaaGreatDoor.PRunsBack
open Go.RowKit Go.Proofs.YtknclbodinfbeaaGreatDoorW.PrintWords Go.Proofs.YtknclbodinfbeaaGreatDoorW.PrintLast Go.Proofs.YtknclbodinfbeaaGreatDoorW.PrintMore
attribute [local go_sem] yo ym yC yD xU xT yn yq
set_option linter.unusedVariables false
set_option linter.unusedSimpArgs false
set_option maxHeartbeats 16000000
set_option maxRecDepth 100000
def Tw (w0 wT w : World) (g gs : Nat) (l0 : List Int) (p : Int) (o : Bool) (W a col : Int) (Ab : Option Addr) (nb cb : Nat) (u : Value) (out : List Int) : Prop :=
 vo w0 w g l0 p o ∧ Below w0.heap.size w0 w ∧ vr wT w g none ∧ w.heap[gs]? = some (.cells #[.int .i64 W, .int .i64 a, .int .i64 col, .slice Ab nb cb, u] 91 (0, 0)) ∧ Kd.R (Kd.int .u8) 5 w wT.heap.size (fun _ => True) u out ∧ wT.heap.size ≤ gs ∧ g < wT.heap.size
theorem Tw.hi {w0 wT w : World} {g gs : Nat} {l0 : List Int} {p : Int} {o : Bool} {W a col : Int} {Ab : Option Addr} {nb cb : Nat} {u : Value} {out : List Int} (h : Tw w0 wT w g gs l0 p o W a col Ab nb cb u out) : vo w0 w g l0 p o := h.1
theorem Tw.hb {w0 wT w : World} {g gs : Nat} {l0 : List Int} {p : Int} {o : Bool} {W a col : Int} {Ab : Option Addr} {nb cb : Nat} {u : Value} {out : List Int} (h : Tw w0 wT w g gs l0 p o W a col Ab nb cb u out) : Below w0.heap.size w0 w := h.2.1
theorem Tw.hk {w0 wT w : World} {g gs : Nat} {l0 : List Int} {p : Int} {o : Bool} {W a col : Int} {Ab : Option Addr} {nb cb : Nat} {u : Value} {out : List Int} (h : Tw w0 wT w g gs l0 p o W a col Ab nb cb u out) : vr wT w g none := h.2.2.1
theorem Tw.hc {w0 wT w : World} {g gs : Nat} {l0 : List Int} {p : Int} {o : Bool} {W a col : Int} {Ab : Option Addr} {nb cb : Nat} {u : Value} {out : List Int} (h : Tw w0 wT w g gs l0 p o W a col Ab nb cb u out) : w.heap[gs]? = some (.cells #[.int .i64 W, .int .i64 a, .int .i64 col, .slice Ab nb cb, u] 91 (0, 0)) := h.2.2.2.1
theorem Tw.hr {w0 wT w : World} {g gs : Nat} {l0 : List Int} {p : Int} {o : Bool} {W a col : Int} {Ab : Option Addr} {nb cb : Nat} {u : Value} {out : List Int} (h : Tw w0 wT w g gs l0 p o W a col Ab nb cb u out) : Kd.R (Kd.int .u8) 5 w wT.heap.size (fun _ => True) u out := h.2.2.2.2.1
theorem Tw.hs {w0 wT w : World} {g gs : Nat} {l0 : List Int} {p : Int} {o : Bool} {W a col : Int} {Ab : Option Addr} {nb cb : Nat} {u : Value} {out : List Int} (h : Tw w0 wT w g gs l0 p o W a col Ab nb cb u out) : wT.heap.size ≤ gs := h.2.2.2.2.2.1
theorem Tw.keep {w0 wT w w' : World} {g gs : Nat} {l0 : List Int} {p p' : Int} {o o' : Bool} {W a col : Int} {Ab : Option Addr} {nb cb : Nat} {u : Value} {out : List Int} (h : Tw w0 wT w g gs l0 p o W a col Ab nb cb u out) (hi : vo w0 w' g l0 p' o') (hb : Below w0.heap.size w0 w') (hk : vr w w' g none) : Tw w0 wT w' g gs l0 p' o' W a col Ab nb cb u out := by
 obtain ⟨h1, h2, h3, h4, h5, h6, h7⟩ := h
 exact ⟨hi, hb, h3.trans hk (.inl rfl), hk.blk h4 (by omega) (by simp), Kd.vU (Kd.zo (Kd.xF h5) (fun k_ h_ hl_ => hk.2 k_ hl_ (Nat.ne_of_gt (Nat.lt_of_lt_of_le h7 h_.2.1)) (by simp))) (fun _ _ => trivial), h6, h7⟩
theorem Tw.step {w0 wT w w' : World} {g gs : Nat} {l0 : List Int} {p : Int} {o : Bool} {W a a' col col' : Int} {Ab : Option Addr} {nb cb : Nat} {u u' : Value} {out out' : List Int} (h : Tw w0 wT w g gs l0 p o W a col Ab nb cb u out) (hb : Below wT.heap.size w w') (h4' : w'.heap[gs]? = some (.cells #[.int .i64 W, .int .i64 a', .int .i64 col', .slice Ab nb cb, u'] 91 (0, 0))) (h5' : Kd.R (Kd.int .u8) 5 w' wT.heap.size (fun _ => True) u' out') : Tw w0 wT w' g gs l0 p o W a' col' Ab nb cb u' out' := by
 obtain ⟨h1, h2, h3, h4, h5, h6, h7⟩ := h
 have hg := h1.ge
 refine ⟨?_, zV h2 hb (by omega), ⟨Nat.le_trans h3.1 hb.size, fun i hi hne hr => (hb.block i hi).trans (h3.2 i hi hne hr)⟩, h4', h5', h6, h7⟩
 obtain ⟨A, c, x1, x2, x3⟩ := h1
 exact ⟨A, c, (hb.block g h7).trans x1, x2, x3⟩
def xE.T0 : Bool × List (List Nat × List Nat) := (true, [([], []), ([], []), ([1], [1]), ([2], [2]), ([3], [3]), ([], []), ([5], [5]), ([6], [6]), ([], []), ([], []), ([9], [9]), ([10], [10]), ([11], [11]), ([12], [12]), ([8, 13], [8, 13]), ([7, 14], [7, 14]), ([4, 15, 15], [4, 15]), ([0, 0, 1, 2, 3, 4, 5, 6, 7, 8, 9, 10, 11, 12, 13, 14, 15, 16], [0]), ([17, 0, 1, 2, 3, 4, 5, 6, 7, 8, 9, 10, 11, 12, 13, 14, 15, 16], [17]), ([18, 16, 16, 0, 1, 2, 3, 4, 5, 6, 7, 8, 9, 10, 11, 12, 13, 14, 15, 16], [16, 18])])
def xE.B0 : List Nat := [0, 0, 2, 6, 14, 0, 32, 96, 0, 0, 512, 1536, 3584, 7680, 16128, 32736, 65534, 131071, 262143, 524287]
theorem xE.tab0 : zi .any (opsOf Tryz.f67 0) = xE.T0 := by kernel_rfl
theorem xE.bits0 : yv xE.T0.2 xE.B0 = true := by kernel_rfl
def xE.f (k : Nat) (out : List Int) (x c : Int) : Option (List Int) := (vq.f k [c % 256] (wrap64 (x - (out.length : Int)))).bind fun t => if out.length + t.length < 140737488355328 then some (out ++ t) else none
theorem xE.calls (k : Nat) (w0 wT w : World) (g gs : Nat) (l0 : List Int) (p : Int) (o : Bool) (W a col : Int) (Ab : Option Addr) (nb cb : Nat) (u : Value) (out : List Int) (x c : Int) (r : List Int) (hT : Tw w0 wT w g gs l0 p o W a col Ab nb cb u out) (h : xE.f k out x c = some r) :
  Calls Tryz.prog 67 #[.pointer (some ⟨gs, 0, none⟩), .int .i64 x, .int .i64 c] w fun e w' => e = .returned (.tuple #[]) ∧ ∃ u', Tw w0 wT w' g gs l0 p o W x col Ab nb cb u' r := by
 have hu91 := Tryz.underlying91
 have HTW := aE hT
 obtain ⟨h1, h2, h3, h4, h5, h6, h7⟩ := hT
 unfold xE.f at h
 obtain ⟨t, A1, h⟩ := Option.bind_eq_some_iff.mp h
 by_cases lm : out.length + t.length < 140737488355328
 ·rw [if_pos lm] at h
  obtain rfl := Option.some.inj h
  obtain ⟨Au, cu, eu⟩ := Kd.vY h5
  subst eu
  obtain ⟨yy, hyy⟩ : ∃ yy : List Int, yy = out ++ t := ⟨_, rfl⟩
  have n_ := aC A1 (aC lm (aC hyy (aC h4 (aC h5 (aC h6 (aC h3.1 (aE (Below.refl wT.heap.size w))))))))
  rw [← hyy]
  clear A1 lm hyy h1 h2 h3 h4 h5 h6
  obtain ⟨A1, LM, Nyy, BK, HO, GS, SZ, HB⟩ := n_
  go_enter Tryz.func67, Tryz.ntmps67
  go_wp2
  have n_ := aC (vn BK.out) (aC (Kd.jT HO.out) (aE (vy HB.out)))
  clear BK HO HB
  obtain ⟨BK, HO, HB⟩ := n_
  refine st 20 (fun w' => w'.cell? ⟨gs, 4, none⟩ = some (.slice Au out.length cu)) [19] (bv 20 0) xE.tab0 xE.bits0 (kc4 BK.out) (fun hHeld HT_ HW_ => ?_)
  generalize w.drew = X at BK HO HB hHeld ⊢
  refine pu 0 6 (bv 20 1) HT_ rfl rfl ?_
  refine pu 1 7 (bv 20 3) HT_ rfl rfl ?_
  refine pu 2 8 (bv 20 7) HT_ rfl rfl ?_
  refine pu 3 9 (bv 20 15) HT_ rfl rfl ?_
  refine tk 4 10 (bv 20 31) HT_ HW_ hHeld rfl rfl (by rintro w' s0; exact yl) ?_
  refine pu 5 11 (bv 20 63) HT_ rfl rfl ?_
  refine pu 6 12 (bv 20 127) HT_ rfl rfl ?_
  refine pu 8 14 (bv 20 383) HT_ rfl rfl ?_
  refine pu 9 15 (bv 20 895) HT_ rfl rfl ?_
  refine pu 10 16 (bv 20 1919) HT_ rfl rfl ?_
  refine pu 11 17 (bv 20 3967) HT_ rfl rfl ?_
  refine tk 12 18 (bv 20 8063) HT_ HW_ hHeld rfl rfl (by rintro w' s0; exact yl) ?_
  refine pu 13 19 (bv 20 16255) HT_ rfl rfl ?_
  refine pu 14 20 (bv 20 32639) HT_ rfl rfl ?_
  refine yA (i := 7) (N := some 13) (bv 20 32767) rfl rfl (xl HT_.out (by kernel_rfl)) (by decide) (fun K hK => ?_)
  refine Kd.z9 (Kd.int .u8) (w0 := X) X.heap.size 5 (by rfl) (N := 13) rfl (xs := [c % 256]) (inner := [.int .u8 (c % 256)]) (ok := fun _ => True) (okp := fun _ => True) ?hr ?hp (fun _ hk => hk) trivial (Below.refl _ _) (Nat.le_refl _) (by simp) ?_
  (case hr => first | (go_simp; done) | (go_simp; rfl))
  (case hp => exact (xe.one (show Kd.M (Kd.int .u8) _ _ _ (c % 256) [.int .u8 (c % 256)] from rfl) (xe.none _ _)))
  intro a6 a7 q hb Y hn13
  have n_ := aC (vp BK.out hb) (aC q (aC (Kd.wg HO.out hb) (aE (zV HB.out hb (Nat.le_trans SZ.out HB.out.size)))))
  clear BK HO HB q hb Y hn13
  obtain ⟨BK, d, HO, HB⟩ := n_
  obtain ⟨Z, a0, a2⟩ := Kd.vY d.out
  subst a2
  refine hK.out _ _ (kc4 BK.out) (fun hHeld => ?_)
  clear hK K
  refine nm (some 13) ?_
  refine yA (i := 15) (N := some 21) (bv 20 65535) rfl rfl (xl HT_.out (by kernel_rfl)) (by decide) (fun K hK => ?_)
  refine gK Tryz.func46 rfl #[.slice Z [c % 256].length a0, .int .i64 (wrap64 (x - (out.length : Int)))] rfl rfl ?_
  with_reducible refine (vq.calls k Z a0 [c % 256] (wrap64 (x - (out.length : Int))) t _ (Kd.R_reads' d.out).2.2 (Kd.R_reads' d.out).2.1 A1.out).mono ?_
  rintro e a3 ⟨a8, rfl, ho, hb⟩
  refine ⟨_, rfl, ?_⟩
  have n_ := aC (vp BK.out hb) (aC ho (aC (Kd.wg HO.out hb) (aE (zV HB.out hb (Nat.le_trans SZ.out HB.out.size)))))
  clear BK HO HB d ho hb
  obtain ⟨BK, j, HO, HB⟩ := n_
  obtain ⟨a9, b0, a4⟩ := Kd.vY j.out
  subst a4
  refine hK.out _ _ (kc4 BK.out) (fun hHeld => ?_)
  clear hK K
  refine nm (some 21) ?_
  refine yA (i := 16) (N := some 22) (bv 20 131071) rfl rfl (xl HT_.out (by kernel_rfl)) (by decide) (fun K hK => ?_)
  refine Kd.xJ (Kd.int .u8) (w0 := a3) wT.heap.size (by rfl) (.tmp 10) (.tmp 21) 22 5 (.int .u8 0) 1 rfl Tryz.underlying22 info5 rfl (by decide) (by omega) (.slice Au out.length cu) out t _ _ _ (fun _ => True) (fun _ => False) rfl rfl ?aO ?aR (fun _ _ h => h) (fun _ h => h.elim) ?aF ?aB ?aS ?aL ?_
  (case aR => exact (Kd.R_reads' j.out).2.2)
  (case aB => exact Below.refl _ _)
  (case aF => exact (fun _ _ => trivial))
  (case aO => exact HO.out)
  (case aS => exact Nat.le_trans SZ.out HB.out.size)
  (case aL => have := LM.out; omega)
  intro b1 b2 ho hb hg hat
  rw [← Nyy.out] at ho
  have n_ := aC (xz (g := gs) BK.out hg (Kd.ja HO.out BK.out (by decide))) (aC ho (aE (zV HB.out hb (Nat.le_refl _))))
  clear BK HO j HB ho hb hg hat
  obtain ⟨BK, HO, HB⟩ := n_
  obtain ⟨O, T, a5⟩ := Kd.vY HO.out
  subst a5
  refine hK.out _ _ (kc4 BK.out) (fun hHeld => ?_)
  clear hK K
  refine nm (some 22) ?_
  refine pu 17 23 (bv 20 262143) HT_ rfl rfl ?_
  refine pu 18 24 (bv 20 524287) HT_ rfl rfl ?_
  refine last_ (i := 19) (N := none) (bv 20 1048575) rfl rfl (xl HT_.out (by kernel_rfl)) (by decide) (fun K hK => ?_)
  refine want_ (by rfl) ?_
  obtain ⟨s, y, z, B, D, E, G, I, J, L⟩ := yz BK.out
  unfold Oper.wp
  go_simp
  refine hK.out _ _ ?_
  clear hK K
  refine zd (xZ HT_.out (by kernel_rfl)) ?_
  clear s y z B D E G I J L hHeld
  have a1 := vt (cs := #[.int .i64 W, .int .i64 a, .int .i64 col, .slice Ab nb cb, .slice Au out.length cu]) BK.out 4 (.slice O yy.length T) rfl
  obtain ⟨s, y, z, B, D, E, G, I, J, L⟩ := yz a1
  go_wp2
  go_end0
  refine ⟨rfl, .slice O yy.length T, Tw.step HTW.out (kZ (kZ HB.out GS.out) GS.out) (vt (cs := #[.int .i64 W, .int .i64 a, .int .i64 col, .slice Ab nb cb, .slice O yy.length T]) a1 1 _ rfl) ?_⟩
  exact Kd.vU (Kd.wK (p := ⟨gs, 1, none⟩) (Kd.wK (p := ⟨gs, 4, none⟩) (Kd.xH HO.out BK.out (by decide)) (fun _ hk => hk.2) _) (fun _ hk => hk.2) _) (fun _ _ => trivial)
 ·rw [if_neg lm] at h
  exact absurd h (by simp)
theorem Tw.run {w0 wT w : World} {g gs gx : Nat} {l0 : List Int} {p : Int} {o : Bool} {W a col : Int} {Ab : Option Addr} {nb cb : Nat} {u : Value} {out : List Int} {k : Nat} {c r1 r2 r3 : Int} {r4 : Bool} (hT : Tw w0 wT w g gs l0 p o W a col Ab nb cb u out) (hX : Xok g gx tU qf qk tW wT) (h : wY.f k l0 p o c = some (r1, r2, r3, r4)) : Calls Tryz.prog 45 #[.pointer (some ⟨gx, 0, none⟩), .int .i64 c] w fun e w' => e = .returned (.tuple #[.int .i64 r1, .int .i64 r2]) ∧ Tw w0 wT w' g gs l0 r3 r4 W a col Ab nb cb u out := by
 refine (wY.calls k g l0 p o c r1 r2 r3 r4 w0 w hT.hi hT.hb gx (hX.keep hT.hk) h).mono ?_
 rintro e w1 ⟨rfl, hi, hb, hk⟩
 exact ⟨rfl, hT.keep hi hb hk⟩
theorem Tw.fill {w0 wT w : World} {g gs : Nat} {l0 : List Int} {p : Int} {o : Bool} {W a col : Int} {Ab : Option Addr} {nb cb : Nat} {u : Value} {out : List Int} {k : Nat} {x c : Int} {r : List Int} (hT : Tw w0 wT w g gs l0 p o W a col Ab nb cb u out) (h : xE.f k out x c = some r) : Calls Tryz.prog 67 #[.pointer (some ⟨gs, 0, none⟩), .int .i64 x, .int .i64 c] w fun e w' => e = .returned (.tuple #[]) ∧ ∃ (A : Option Addr) (c' : Nat), Tw w0 wT w' g gs l0 p o W x col Ab nb cb (.slice A r.length c') r := by
 refine (xE.calls k w0 wT w g gs l0 p o W a col Ab nb cb u out x c r hT h).mono ?_
 rintro e w1 ⟨rfl, u', h1⟩
 obtain ⟨A, c', e'⟩ := Kd.vY h1.hr
 subst e'
 exact ⟨rfl, A, c', h1⟩
def zw.f (k : Nat) (l0 : List Int) (p : Int) (o : Bool) (W a col : Int) (out : List Int) : Option (Int × Int × Bool × Int × List Int) :=
 (wY.f k l0 p o col).bind fun n => (if n.2.1 = 0 then (if n.1 = 0 ∧ a ≥ 0 then some (3, n.2.2.1, n.2.2.2, a, out) else (if wrap64 ((out.length : Int) + n.1) > W then some (3, n.2.2.1, n.2.2.2, a, out) else
  ((wY.f k l0 n.2.2.1 n.2.2.2 (wrap64 (1 - col))).bind fun m => (if m.2.1 = 0 then (if m.1 > wrap64 (W - wrap64 ((out.length : Int) + n.1)) then some (3, m.2.2.1, m.2.2.2, a, out) else (if (m.1 = 0 ∧ wrap64 ((out.length : Int) + n.1) = W) ∨ (m.1 ≠ 0 ∧ wrap64 ((out.length : Int) + n.1) ≠ W) then
   ((xE.f k out (wrap64 ((out.length : Int) + n.1)) col).bind fun out1 => (xE.f k out1 (wrap64 (wrap64 ((out.length : Int) + n.1) + m.1)) (wrap64 (1 - col))).bind fun out2 => some (0, m.2.2.1, m.2.2.2, wrap64 (wrap64 ((out.length : Int) + n.1) + m.1), out2))
   else some (3, m.2.2.1, m.2.2.2, a, out))) else some (m.2.1, m.2.2.1, m.2.2.2, a, out))))) else some (n.2.1, n.2.2.1, n.2.2.2, a, out))
theorem xE.mono : ∀ a0 a1 a2 k, vK (xE.f k a0 a1 a2) (xE.f (k + 1) a0 a1 a2) := by
 intro a0 a1 a2 k
 unfold xE.f
 exact vK.bind (vq.mono _ _ k) (fun t => vK.refl _)
theorem zw.mono : ∀ a0 a1 a2 a3 a4 a5 a6 k, vK (zw.f k a0 a1 a2 a3 a4 a5 a6) (zw.f (k + 1) a0 a1 a2 a3 a4 a5 a6) := by
 intro a0 a1 a2 a3 a4 a5 a6 k
 unfold zw.f
 exact vK.bind (wY.mono _ _ _ _ k) (fun n => vK.ite (vK.ite (vK.refl _) (vK.ite (vK.refl _) (vK.bind (wY.mono _ _ _ _ k) (fun m => vK.ite (vK.ite (vK.refl _) (vK.ite (vK.bind (xE.mono _ _ _ k) (fun x => vK.bind (xE.mono _ _ _ k) (fun y => vK.refl _))) (vK.refl _))) (vK.refl _))))) (vK.refl _))
theorem zw.calls (k : Nat) (w0 wT w : World) (g gs gx : Nat) (l0 : List Int) (p : Int) (o : Bool) (W a col : Int) (Ab : Option Addr) (nb cb : Nat) (u : Value) (out : List Int) (r1 r2 : Int) (r3 : Bool) (r4 : Int) (r5 : List Int) (hT : Tw w0 wT w g gs l0 p o W a col Ab nb cb u out) (hX : Xok g gx tU qf qk tW wT) (h : zw.f k l0 p o W a col out = some (r1, r2, r3, r4, r5)) :
  Calls Tryz.prog 66 #[.pointer (some ⟨gx, 0, none⟩), .pointer (some ⟨gs, 0, none⟩)] w fun e w' => e = .returned (.int .i64 r1) ∧ ∃ u', Tw w0 wT w' g gs l0 r2 r3 W r4 col Ab nb cb u' r5 := by
 have hu91 := Tryz.underlying91
 have HT := aE hT
 have HX := aE hX
 clear hT hX
 obtain ⟨Au, cu, eu⟩ := Kd.vY HT.out.hr
 subst eu
 obtain ⟨⟨n1, n2, n3, n4⟩, A1, H⟩ := Option.bind_eq_some_iff.mp h
 clear h
 have A1 := aE A1
 have HH := aE H
 clear H
 have H := HH.out
 clear HH
 try dsimp only at H
 rcases iE H with H1 | H1 <;> clear H <;> obtain ⟨H, a1, a2, c2⟩ := H1
 ·by_cases c3 : n1 = 0
  ·have T := c3
   have X := beq_iff_eq.mpr c3
   have Y := bne_eq_false_iff_eq.mpr c3
   by_cases c4 : a ≥ 0
   ·rw [if_pos ⟨c3, c4⟩] at H
    have Z := decide_eq_true c4
    clear c3 T c4
    simp only [Option.some.injEq, Prod.mk.injEq] at H
    obtain ⟨rfl, rfl, rfl, rfl, rfl⟩ := H
    obtain ⟨z0, z1, z2, z3, z4, y0, y1, y2, y3, y4⟩ := yz HT.out.hc
    go_enter Tryz.func66, Tryz.ntmps66
    go_wp2_with (first | ((with_reducible refine gf 45 rfl ?_); refine gL (some 15) rfl rfl Tryz.func45 rfl #[.pointer (some ⟨gx, 0, none⟩), .int .i64 col] rfl ?_; refine (HT.out.run HX.out A1.out).mono ?_; rintro e w1 ⟨rfl, h1⟩; refine ⟨_, rfl, ?_⟩; clear HT; have HT := aE h1; obtain ⟨z0, z1, z2, z3, z4, y0, y1, y2, y3, y4⟩ := yz HT.out.hc))
    go_ret
    exact ⟨re, _, HT.out⟩
   ·rw [if_neg (fun z => c4 z.2)] at H
    have Z := decide_eq_false c4
    clear c3 T c4
    rcases iL H with H1 | H1 <;> clear H <;> obtain ⟨H, a0⟩ := H1
    ·simp only [Option.some.injEq, Prod.mk.injEq] at H
     obtain ⟨rfl, rfl, rfl, rfl, rfl⟩ := H
     obtain ⟨z0, z1, z2, z3, z4, y0, y1, y2, y3, y4⟩ := yz HT.out.hc
     go_enter Tryz.func66, Tryz.ntmps66
     go_wp2_with (first | ((with_reducible refine gf 45 rfl ?_); refine gL (some 15) rfl rfl Tryz.func45 rfl #[.pointer (some ⟨gx, 0, none⟩), .int .i64 col] rfl ?_; refine (HT.out.run HX.out A1.out).mono ?_; rintro e w1 ⟨rfl, h1⟩; refine ⟨_, rfl, ?_⟩; clear HT; have HT := aE h1; obtain ⟨z0, z1, z2, z3, z4, y0, y1, y2, y3, y4⟩ := yz HT.out.hc))
     go_ret
     exact ⟨re, _, HT.out⟩
    ·obtain ⟨⟨m1, m2, m3, m4⟩, x, H⟩ := Option.bind_eq_some_iff.mp H
     have A2 := aE (show wY.f k l0 n3 n4 (wrap64 (1 - col)) = some (m1, m2, m3, m4) from x)
     clear x
     try dsimp only at H
     by_cases d2 : m2 = 0
     ·rw [if_pos d2] at H
      have B := beq_iff_eq.mpr d2
      have D := bne_eq_false_iff_eq.mpr d2
      clear d2
      by_cases d3 : m1 > wrap64 (W - (wrap64 ((out.length : Int) + n1)))
      ·rw [if_pos d3] at H
       have E := decide_eq_true d3
       clear d3
       simp only [Option.some.injEq, Prod.mk.injEq] at H
       obtain ⟨rfl, rfl, rfl, rfl, rfl⟩ := H
       obtain ⟨z0, z1, z2, z3, z4, y0, y1, y2, y3, y4⟩ := yz HT.out.hc
       go_enter Tryz.func66, Tryz.ntmps66
       go_wp2_with (first | ((with_reducible refine gf 45 rfl ?_); refine gL (some 15) rfl rfl Tryz.func45 rfl #[.pointer (some ⟨gx, 0, none⟩), .int .i64 col] rfl ?_; refine (HT.out.run HX.out A1.out).mono ?_; rintro e w1 ⟨rfl, h1⟩; refine ⟨_, rfl, ?_⟩; clear HT; have HT := aE h1; obtain ⟨z0, z1, z2, z3, z4, y0, y1, y2, y3, y4⟩ := yz HT.out.hc) | ((with_reducible refine gf 45 rfl ?_); refine gL (some 52) rfl rfl Tryz.func45 rfl #[.pointer (some ⟨gx, 0, none⟩), .int .i64 (wrap64 (1 - col))] rfl ?_; refine (HT.out.run HX.out A2.out).mono ?_; rintro e w1 ⟨rfl, h1⟩; refine ⟨_, rfl, ?_⟩; clear HT; have HT := aE h1; obtain ⟨z0, z1, z2, z3, z4, y0, y1, y2, y3, y4⟩ := yz HT.out.hc))
       go_ret
       exact ⟨re, _, HT.out⟩
      ·rw [if_neg d3] at H
       have E := decide_eq_false d3
       clear d3
       by_cases d4 : m1 = 0
       ·have j := d4
        have G := beq_iff_eq.mpr d4
        have I := bne_eq_false_iff_eq.mpr d4
        by_cases d5 : (wrap64 ((out.length : Int) + n1)) = W
        ·have d := d5
         have q := beq_iff_eq.mpr d5
         have r := bne_eq_false_iff_eq.mpr d5
         rw [if_pos (.inl ⟨d4, d5⟩)] at H
         clear d4 j d5 d
         obtain ⟨out1, s, H⟩ := Option.bind_eq_some_iff.mp H
         obtain ⟨out2, t, H⟩ := Option.bind_eq_some_iff.mp H
         have A3 := aE s
         have A4 := aE t
         clear s t
         simp only [Option.some.injEq, Prod.mk.injEq] at H
         obtain ⟨rfl, rfl, rfl, rfl, rfl⟩ := H
         obtain ⟨z0, z1, z2, z3, z4, y0, y1, y2, y3, y4⟩ := yz HT.out.hc
         go_enter Tryz.func66, Tryz.ntmps66
         go_wp2_with (first | ((with_reducible refine gf 45 rfl ?_); refine gL (some 15) rfl rfl Tryz.func45 rfl #[.pointer (some ⟨gx, 0, none⟩), .int .i64 col] rfl ?_; refine (HT.out.run HX.out A1.out).mono ?_; rintro e w1 ⟨rfl, h1⟩; refine ⟨_, rfl, ?_⟩; clear HT; have HT := aE h1; obtain ⟨z0, z1, z2, z3, z4, y0, y1, y2, y3, y4⟩ := yz HT.out.hc) | ((with_reducible refine gf 45 rfl ?_); refine gL (some 52) rfl rfl Tryz.func45 rfl #[.pointer (some ⟨gx, 0, none⟩), .int .i64 (wrap64 (1 - col))] rfl ?_; refine (HT.out.run HX.out A2.out).mono ?_; rintro e w1 ⟨rfl, h1⟩; refine ⟨_, rfl, ?_⟩; clear HT; have HT := aE h1; obtain ⟨z0, z1, z2, z3, z4, y0, y1, y2, y3, y4⟩ := yz HT.out.hc) | ((with_reducible refine gf 67 rfl ?_); refine gL (some 83) rfl rfl Tryz.func67 rfl #[.pointer (some ⟨gs, 0, none⟩), .int .i64 (wrap64 ((out.length : Int) + n1)), .int .i64 col] rfl ?_; refine (HT.out.fill A3.out).mono ?_; rintro e w1 ⟨rfl, J, L, h1⟩; refine ⟨_, rfl, ?_⟩; clear HT; have HT := aE h1; obtain ⟨z0, z1, z2, z3, z4, y0, y1, y2, y3, y4⟩ := yz HT.out.hc) | ((with_reducible refine gf 67 rfl ?_); refine gL (some 93) rfl rfl Tryz.func67 rfl #[.pointer (some ⟨gs, 0, none⟩), .int .i64 (wrap64 ((wrap64 ((out.length : Int) + n1)) + m1)), .int .i64 (wrap64 (1 - col))] rfl ?_; refine (HT.out.fill A4.out).mono ?_; rintro e w1 ⟨rfl, M, O, h1⟩; refine ⟨_, rfl, ?_⟩; clear HT; have HT := aE h1; obtain ⟨z0, z1, z2, z3, z4, y0, y1, y2, y3, y4⟩ := yz HT.out.hc))
         go_ret
         exact ⟨re, _, HT.out⟩
        ·have d := d5
         have q := beq_eq_false_iff_ne.mpr d5
         have r := bne_iff_ne.mpr d5
         rw [if_neg (fun z => z.elim (fun y => absurd y.2 d5) (fun y => absurd d4 y.1))] at H
         clear d4 j d5 d
         simp only [Option.some.injEq, Prod.mk.injEq] at H
         obtain ⟨rfl, rfl, rfl, rfl, rfl⟩ := H
         obtain ⟨z0, z1, z2, z3, z4, y0, y1, y2, y3, y4⟩ := yz HT.out.hc
         go_enter Tryz.func66, Tryz.ntmps66
         go_wp2_with (first | ((with_reducible refine gf 45 rfl ?_); refine gL (some 15) rfl rfl Tryz.func45 rfl #[.pointer (some ⟨gx, 0, none⟩), .int .i64 col] rfl ?_; refine (HT.out.run HX.out A1.out).mono ?_; rintro e w1 ⟨rfl, h1⟩; refine ⟨_, rfl, ?_⟩; clear HT; have HT := aE h1; obtain ⟨z0, z1, z2, z3, z4, y0, y1, y2, y3, y4⟩ := yz HT.out.hc) | ((with_reducible refine gf 45 rfl ?_); refine gL (some 52) rfl rfl Tryz.func45 rfl #[.pointer (some ⟨gx, 0, none⟩), .int .i64 (wrap64 (1 - col))] rfl ?_; refine (HT.out.run HX.out A2.out).mono ?_; rintro e w1 ⟨rfl, h1⟩; refine ⟨_, rfl, ?_⟩; clear HT; have HT := aE h1; obtain ⟨z0, z1, z2, z3, z4, y0, y1, y2, y3, y4⟩ := yz HT.out.hc))
         go_ret
         exact ⟨re, _, HT.out⟩
       ·have j := d4
        have G := beq_eq_false_iff_ne.mpr d4
        have I := bne_iff_ne.mpr d4
        by_cases d5 : (wrap64 ((out.length : Int) + n1)) = W
        ·have d := d5
         have q := beq_iff_eq.mpr d5
         have r := bne_eq_false_iff_eq.mpr d5
         rw [if_neg (fun z => z.elim (fun y => absurd y.1 d4) (fun y => absurd d5 y.2))] at H
         clear d4 j d5 d
         simp only [Option.some.injEq, Prod.mk.injEq] at H
         obtain ⟨rfl, rfl, rfl, rfl, rfl⟩ := H
         obtain ⟨z0, z1, z2, z3, z4, y0, y1, y2, y3, y4⟩ := yz HT.out.hc
         go_enter Tryz.func66, Tryz.ntmps66
         go_wp2_with (first | ((with_reducible refine gf 45 rfl ?_); refine gL (some 15) rfl rfl Tryz.func45 rfl #[.pointer (some ⟨gx, 0, none⟩), .int .i64 col] rfl ?_; refine (HT.out.run HX.out A1.out).mono ?_; rintro e w1 ⟨rfl, h1⟩; refine ⟨_, rfl, ?_⟩; clear HT; have HT := aE h1; obtain ⟨z0, z1, z2, z3, z4, y0, y1, y2, y3, y4⟩ := yz HT.out.hc) | ((with_reducible refine gf 45 rfl ?_); refine gL (some 52) rfl rfl Tryz.func45 rfl #[.pointer (some ⟨gx, 0, none⟩), .int .i64 (wrap64 (1 - col))] rfl ?_; refine (HT.out.run HX.out A2.out).mono ?_; rintro e w1 ⟨rfl, h1⟩; refine ⟨_, rfl, ?_⟩; clear HT; have HT := aE h1; obtain ⟨z0, z1, z2, z3, z4, y0, y1, y2, y3, y4⟩ := yz HT.out.hc))
         go_ret
         exact ⟨re, _, HT.out⟩
        ·have d := d5
         have q := beq_eq_false_iff_ne.mpr d5
         have r := bne_iff_ne.mpr d5
         rw [if_pos (.inr ⟨d4, d5⟩)] at H
         clear d4 j d5 d
         obtain ⟨out1, s, H⟩ := Option.bind_eq_some_iff.mp H
         obtain ⟨out2, t, H⟩ := Option.bind_eq_some_iff.mp H
         have A3 := aE s
         have A4 := aE t
         clear s t
         simp only [Option.some.injEq, Prod.mk.injEq] at H
         obtain ⟨rfl, rfl, rfl, rfl, rfl⟩ := H
         obtain ⟨z0, z1, z2, z3, z4, y0, y1, y2, y3, y4⟩ := yz HT.out.hc
         go_enter Tryz.func66, Tryz.ntmps66
         go_wp2_with (first | ((with_reducible refine gf 45 rfl ?_); refine gL (some 15) rfl rfl Tryz.func45 rfl #[.pointer (some ⟨gx, 0, none⟩), .int .i64 col] rfl ?_; refine (HT.out.run HX.out A1.out).mono ?_; rintro e w1 ⟨rfl, h1⟩; refine ⟨_, rfl, ?_⟩; clear HT; have HT := aE h1; obtain ⟨z0, z1, z2, z3, z4, y0, y1, y2, y3, y4⟩ := yz HT.out.hc) | ((with_reducible refine gf 45 rfl ?_); refine gL (some 52) rfl rfl Tryz.func45 rfl #[.pointer (some ⟨gx, 0, none⟩), .int .i64 (wrap64 (1 - col))] rfl ?_; refine (HT.out.run HX.out A2.out).mono ?_; rintro e w1 ⟨rfl, h1⟩; refine ⟨_, rfl, ?_⟩; clear HT; have HT := aE h1; obtain ⟨z0, z1, z2, z3, z4, y0, y1, y2, y3, y4⟩ := yz HT.out.hc) | ((with_reducible refine gf 67 rfl ?_); refine gL (some 83) rfl rfl Tryz.func67 rfl #[.pointer (some ⟨gs, 0, none⟩), .int .i64 (wrap64 ((out.length : Int) + n1)), .int .i64 col] rfl ?_; refine (HT.out.fill A3.out).mono ?_; rintro e w1 ⟨rfl, J, L, h1⟩; refine ⟨_, rfl, ?_⟩; clear HT; have HT := aE h1; obtain ⟨z0, z1, z2, z3, z4, y0, y1, y2, y3, y4⟩ := yz HT.out.hc) | ((with_reducible refine gf 67 rfl ?_); refine gL (some 93) rfl rfl Tryz.func67 rfl #[.pointer (some ⟨gs, 0, none⟩), .int .i64 (wrap64 ((wrap64 ((out.length : Int) + n1)) + m1)), .int .i64 (wrap64 (1 - col))] rfl ?_; refine (HT.out.fill A4.out).mono ?_; rintro e w1 ⟨rfl, M, O, h1⟩; refine ⟨_, rfl, ?_⟩; clear HT; have HT := aE h1; obtain ⟨z0, z1, z2, z3, z4, y0, y1, y2, y3, y4⟩ := yz HT.out.hc))
         go_ret
         exact ⟨re, _, HT.out⟩
     ·rw [if_neg d2] at H
      have B := beq_eq_false_iff_ne.mpr d2
      have D := bne_iff_ne.mpr d2
      clear d2
      simp only [Option.some.injEq, Prod.mk.injEq] at H
      obtain ⟨rfl, rfl, rfl, rfl, rfl⟩ := H
      obtain ⟨z0, z1, z2, z3, z4, y0, y1, y2, y3, y4⟩ := yz HT.out.hc
      go_enter Tryz.func66, Tryz.ntmps66
      go_wp2_with (first | ((with_reducible refine gf 45 rfl ?_); refine gL (some 15) rfl rfl Tryz.func45 rfl #[.pointer (some ⟨gx, 0, none⟩), .int .i64 col] rfl ?_; refine (HT.out.run HX.out A1.out).mono ?_; rintro e w1 ⟨rfl, h1⟩; refine ⟨_, rfl, ?_⟩; clear HT; have HT := aE h1; obtain ⟨z0, z1, z2, z3, z4, y0, y1, y2, y3, y4⟩ := yz HT.out.hc) | ((with_reducible refine gf 45 rfl ?_); refine gL (some 52) rfl rfl Tryz.func45 rfl #[.pointer (some ⟨gx, 0, none⟩), .int .i64 (wrap64 (1 - col))] rfl ?_; refine (HT.out.run HX.out A2.out).mono ?_; rintro e w1 ⟨rfl, h1⟩; refine ⟨_, rfl, ?_⟩; clear HT; have HT := aE h1; obtain ⟨z0, z1, z2, z3, z4, y0, y1, y2, y3, y4⟩ := yz HT.out.hc))
      go_ret
      exact ⟨re, _, HT.out⟩
  ·rw [if_neg (fun z => c3 z.1)] at H
   have X := beq_eq_false_iff_ne.mpr c3
   have Y := bne_iff_ne.mpr c3
   clear c3
   rcases iL H with H1 | H1 <;> clear H <;> obtain ⟨H, a0⟩ := H1
   ·simp only [Option.some.injEq, Prod.mk.injEq] at H
    obtain ⟨rfl, rfl, rfl, rfl, rfl⟩ := H
    obtain ⟨z0, z1, z2, z3, z4, y0, y1, y2, y3, y4⟩ := yz HT.out.hc
    go_enter Tryz.func66, Tryz.ntmps66
    go_wp2_with (first | ((with_reducible refine gf 45 rfl ?_); refine gL (some 15) rfl rfl Tryz.func45 rfl #[.pointer (some ⟨gx, 0, none⟩), .int .i64 col] rfl ?_; refine (HT.out.run HX.out A1.out).mono ?_; rintro e w1 ⟨rfl, h1⟩; refine ⟨_, rfl, ?_⟩; clear HT; have HT := aE h1; obtain ⟨z0, z1, z2, z3, z4, y0, y1, y2, y3, y4⟩ := yz HT.out.hc))
    go_ret
    exact ⟨re, _, HT.out⟩
   ·obtain ⟨⟨m1, m2, m3, m4⟩, x, H⟩ := Option.bind_eq_some_iff.mp H
    have A2 := aE (show wY.f k l0 n3 n4 (wrap64 (1 - col)) = some (m1, m2, m3, m4) from x)
    clear x
    try dsimp only at H
    by_cases d2 : m2 = 0
    ·rw [if_pos d2] at H
     have B := beq_iff_eq.mpr d2
     have D := bne_eq_false_iff_eq.mpr d2
     clear d2
     by_cases d3 : m1 > wrap64 (W - (wrap64 ((out.length : Int) + n1)))
     ·rw [if_pos d3] at H
      have E := decide_eq_true d3
      clear d3
      simp only [Option.some.injEq, Prod.mk.injEq] at H
      obtain ⟨rfl, rfl, rfl, rfl, rfl⟩ := H
      obtain ⟨z0, z1, z2, z3, z4, y0, y1, y2, y3, y4⟩ := yz HT.out.hc
      go_enter Tryz.func66, Tryz.ntmps66
      go_wp2_with (first | ((with_reducible refine gf 45 rfl ?_); refine gL (some 15) rfl rfl Tryz.func45 rfl #[.pointer (some ⟨gx, 0, none⟩), .int .i64 col] rfl ?_; refine (HT.out.run HX.out A1.out).mono ?_; rintro e w1 ⟨rfl, h1⟩; refine ⟨_, rfl, ?_⟩; clear HT; have HT := aE h1; obtain ⟨z0, z1, z2, z3, z4, y0, y1, y2, y3, y4⟩ := yz HT.out.hc) | ((with_reducible refine gf 45 rfl ?_); refine gL (some 52) rfl rfl Tryz.func45 rfl #[.pointer (some ⟨gx, 0, none⟩), .int .i64 (wrap64 (1 - col))] rfl ?_; refine (HT.out.run HX.out A2.out).mono ?_; rintro e w1 ⟨rfl, h1⟩; refine ⟨_, rfl, ?_⟩; clear HT; have HT := aE h1; obtain ⟨z0, z1, z2, z3, z4, y0, y1, y2, y3, y4⟩ := yz HT.out.hc))
      go_ret
      exact ⟨re, _, HT.out⟩
     ·rw [if_neg d3] at H
      have E := decide_eq_false d3
      clear d3
      by_cases d4 : m1 = 0
      ·have j := d4
       have G := beq_iff_eq.mpr d4
       have I := bne_eq_false_iff_eq.mpr d4
       by_cases d5 : (wrap64 ((out.length : Int) + n1)) = W
       ·have d := d5
        have q := beq_iff_eq.mpr d5
        have r := bne_eq_false_iff_eq.mpr d5
        rw [if_pos (.inl ⟨d4, d5⟩)] at H
        clear d4 j d5 d
        obtain ⟨out1, s, H⟩ := Option.bind_eq_some_iff.mp H
        obtain ⟨out2, t, H⟩ := Option.bind_eq_some_iff.mp H
        have A3 := aE s
        have A4 := aE t
        clear s t
        simp only [Option.some.injEq, Prod.mk.injEq] at H
        obtain ⟨rfl, rfl, rfl, rfl, rfl⟩ := H
        obtain ⟨z0, z1, z2, z3, z4, y0, y1, y2, y3, y4⟩ := yz HT.out.hc
        go_enter Tryz.func66, Tryz.ntmps66
        go_wp2_with (first | ((with_reducible refine gf 45 rfl ?_); refine gL (some 15) rfl rfl Tryz.func45 rfl #[.pointer (some ⟨gx, 0, none⟩), .int .i64 col] rfl ?_; refine (HT.out.run HX.out A1.out).mono ?_; rintro e w1 ⟨rfl, h1⟩; refine ⟨_, rfl, ?_⟩; clear HT; have HT := aE h1; obtain ⟨z0, z1, z2, z3, z4, y0, y1, y2, y3, y4⟩ := yz HT.out.hc) | ((with_reducible refine gf 45 rfl ?_); refine gL (some 52) rfl rfl Tryz.func45 rfl #[.pointer (some ⟨gx, 0, none⟩), .int .i64 (wrap64 (1 - col))] rfl ?_; refine (HT.out.run HX.out A2.out).mono ?_; rintro e w1 ⟨rfl, h1⟩; refine ⟨_, rfl, ?_⟩; clear HT; have HT := aE h1; obtain ⟨z0, z1, z2, z3, z4, y0, y1, y2, y3, y4⟩ := yz HT.out.hc) | ((with_reducible refine gf 67 rfl ?_); refine gL (some 83) rfl rfl Tryz.func67 rfl #[.pointer (some ⟨gs, 0, none⟩), .int .i64 (wrap64 ((out.length : Int) + n1)), .int .i64 col] rfl ?_; refine (HT.out.fill A3.out).mono ?_; rintro e w1 ⟨rfl, J, L, h1⟩; refine ⟨_, rfl, ?_⟩; clear HT; have HT := aE h1; obtain ⟨z0, z1, z2, z3, z4, y0, y1, y2, y3, y4⟩ := yz HT.out.hc) | ((with_reducible refine gf 67 rfl ?_); refine gL (some 93) rfl rfl Tryz.func67 rfl #[.pointer (some ⟨gs, 0, none⟩), .int .i64 (wrap64 ((wrap64 ((out.length : Int) + n1)) + m1)), .int .i64 (wrap64 (1 - col))] rfl ?_; refine (HT.out.fill A4.out).mono ?_; rintro e w1 ⟨rfl, M, O, h1⟩; refine ⟨_, rfl, ?_⟩; clear HT; have HT := aE h1; obtain ⟨z0, z1, z2, z3, z4, y0, y1, y2, y3, y4⟩ := yz HT.out.hc))
        go_ret
        exact ⟨re, _, HT.out⟩
       ·have d := d5
        have q := beq_eq_false_iff_ne.mpr d5
        have r := bne_iff_ne.mpr d5
        rw [if_neg (fun z => z.elim (fun y => absurd y.2 d5) (fun y => absurd d4 y.1))] at H
        clear d4 j d5 d
        simp only [Option.some.injEq, Prod.mk.injEq] at H
        obtain ⟨rfl, rfl, rfl, rfl, rfl⟩ := H
        obtain ⟨z0, z1, z2, z3, z4, y0, y1, y2, y3, y4⟩ := yz HT.out.hc
        go_enter Tryz.func66, Tryz.ntmps66
        go_wp2_with (first | ((with_reducible refine gf 45 rfl ?_); refine gL (some 15) rfl rfl Tryz.func45 rfl #[.pointer (some ⟨gx, 0, none⟩), .int .i64 col] rfl ?_; refine (HT.out.run HX.out A1.out).mono ?_; rintro e w1 ⟨rfl, h1⟩; refine ⟨_, rfl, ?_⟩; clear HT; have HT := aE h1; obtain ⟨z0, z1, z2, z3, z4, y0, y1, y2, y3, y4⟩ := yz HT.out.hc) | ((with_reducible refine gf 45 rfl ?_); refine gL (some 52) rfl rfl Tryz.func45 rfl #[.pointer (some ⟨gx, 0, none⟩), .int .i64 (wrap64 (1 - col))] rfl ?_; refine (HT.out.run HX.out A2.out).mono ?_; rintro e w1 ⟨rfl, h1⟩; refine ⟨_, rfl, ?_⟩; clear HT; have HT := aE h1; obtain ⟨z0, z1, z2, z3, z4, y0, y1, y2, y3, y4⟩ := yz HT.out.hc))
        go_ret
        exact ⟨re, _, HT.out⟩
      ·have j := d4
       have G := beq_eq_false_iff_ne.mpr d4
       have I := bne_iff_ne.mpr d4
       by_cases d5 : (wrap64 ((out.length : Int) + n1)) = W
       ·have d := d5
        have q := beq_iff_eq.mpr d5
        have r := bne_eq_false_iff_eq.mpr d5
        rw [if_neg (fun z => z.elim (fun y => absurd y.1 d4) (fun y => absurd d5 y.2))] at H
        clear d4 j d5 d
        simp only [Option.some.injEq, Prod.mk.injEq] at H
        obtain ⟨rfl, rfl, rfl, rfl, rfl⟩ := H
        obtain ⟨z0, z1, z2, z3, z4, y0, y1, y2, y3, y4⟩ := yz HT.out.hc
        go_enter Tryz.func66, Tryz.ntmps66
        go_wp2_with (first | ((with_reducible refine gf 45 rfl ?_); refine gL (some 15) rfl rfl Tryz.func45 rfl #[.pointer (some ⟨gx, 0, none⟩), .int .i64 col] rfl ?_; refine (HT.out.run HX.out A1.out).mono ?_; rintro e w1 ⟨rfl, h1⟩; refine ⟨_, rfl, ?_⟩; clear HT; have HT := aE h1; obtain ⟨z0, z1, z2, z3, z4, y0, y1, y2, y3, y4⟩ := yz HT.out.hc) | ((with_reducible refine gf 45 rfl ?_); refine gL (some 52) rfl rfl Tryz.func45 rfl #[.pointer (some ⟨gx, 0, none⟩), .int .i64 (wrap64 (1 - col))] rfl ?_; refine (HT.out.run HX.out A2.out).mono ?_; rintro e w1 ⟨rfl, h1⟩; refine ⟨_, rfl, ?_⟩; clear HT; have HT := aE h1; obtain ⟨z0, z1, z2, z3, z4, y0, y1, y2, y3, y4⟩ := yz HT.out.hc))
        go_ret
        exact ⟨re, _, HT.out⟩
       ·have d := d5
        have q := beq_eq_false_iff_ne.mpr d5
        have r := bne_iff_ne.mpr d5
        rw [if_pos (.inr ⟨d4, d5⟩)] at H
        clear d4 j d5 d
        obtain ⟨out1, s, H⟩ := Option.bind_eq_some_iff.mp H
        obtain ⟨out2, t, H⟩ := Option.bind_eq_some_iff.mp H
        have A3 := aE s
        have A4 := aE t
        clear s t
        simp only [Option.some.injEq, Prod.mk.injEq] at H
        obtain ⟨rfl, rfl, rfl, rfl, rfl⟩ := H
        obtain ⟨z0, z1, z2, z3, z4, y0, y1, y2, y3, y4⟩ := yz HT.out.hc
        go_enter Tryz.func66, Tryz.ntmps66
        go_wp2_with (first | ((with_reducible refine gf 45 rfl ?_); refine gL (some 15) rfl rfl Tryz.func45 rfl #[.pointer (some ⟨gx, 0, none⟩), .int .i64 col] rfl ?_; refine (HT.out.run HX.out A1.out).mono ?_; rintro e w1 ⟨rfl, h1⟩; refine ⟨_, rfl, ?_⟩; clear HT; have HT := aE h1; obtain ⟨z0, z1, z2, z3, z4, y0, y1, y2, y3, y4⟩ := yz HT.out.hc) | ((with_reducible refine gf 45 rfl ?_); refine gL (some 52) rfl rfl Tryz.func45 rfl #[.pointer (some ⟨gx, 0, none⟩), .int .i64 (wrap64 (1 - col))] rfl ?_; refine (HT.out.run HX.out A2.out).mono ?_; rintro e w1 ⟨rfl, h1⟩; refine ⟨_, rfl, ?_⟩; clear HT; have HT := aE h1; obtain ⟨z0, z1, z2, z3, z4, y0, y1, y2, y3, y4⟩ := yz HT.out.hc) | ((with_reducible refine gf 67 rfl ?_); refine gL (some 83) rfl rfl Tryz.func67 rfl #[.pointer (some ⟨gs, 0, none⟩), .int .i64 (wrap64 ((out.length : Int) + n1)), .int .i64 col] rfl ?_; refine (HT.out.fill A3.out).mono ?_; rintro e w1 ⟨rfl, J, L, h1⟩; refine ⟨_, rfl, ?_⟩; clear HT; have HT := aE h1; obtain ⟨z0, z1, z2, z3, z4, y0, y1, y2, y3, y4⟩ := yz HT.out.hc) | ((with_reducible refine gf 67 rfl ?_); refine gL (some 93) rfl rfl Tryz.func67 rfl #[.pointer (some ⟨gs, 0, none⟩), .int .i64 (wrap64 ((wrap64 ((out.length : Int) + n1)) + m1)), .int .i64 (wrap64 (1 - col))] rfl ?_; refine (HT.out.fill A4.out).mono ?_; rintro e w1 ⟨rfl, M, O, h1⟩; refine ⟨_, rfl, ?_⟩; clear HT; have HT := aE h1; obtain ⟨z0, z1, z2, z3, z4, y0, y1, y2, y3, y4⟩ := yz HT.out.hc))
        go_ret
        exact ⟨re, _, HT.out⟩
    ·rw [if_neg d2] at H
     have B := beq_eq_false_iff_ne.mpr d2
     have D := bne_iff_ne.mpr d2
     clear d2
     simp only [Option.some.injEq, Prod.mk.injEq] at H
     obtain ⟨rfl, rfl, rfl, rfl, rfl⟩ := H
     obtain ⟨z0, z1, z2, z3, z4, y0, y1, y2, y3, y4⟩ := yz HT.out.hc
     go_enter Tryz.func66, Tryz.ntmps66
     go_wp2_with (first | ((with_reducible refine gf 45 rfl ?_); refine gL (some 15) rfl rfl Tryz.func45 rfl #[.pointer (some ⟨gx, 0, none⟩), .int .i64 col] rfl ?_; refine (HT.out.run HX.out A1.out).mono ?_; rintro e w1 ⟨rfl, h1⟩; refine ⟨_, rfl, ?_⟩; clear HT; have HT := aE h1; obtain ⟨z0, z1, z2, z3, z4, y0, y1, y2, y3, y4⟩ := yz HT.out.hc) | ((with_reducible refine gf 45 rfl ?_); refine gL (some 52) rfl rfl Tryz.func45 rfl #[.pointer (some ⟨gx, 0, none⟩), .int .i64 (wrap64 (1 - col))] rfl ?_; refine (HT.out.run HX.out A2.out).mono ?_; rintro e w1 ⟨rfl, h1⟩; refine ⟨_, rfl, ?_⟩; clear HT; have HT := aE h1; obtain ⟨z0, z1, z2, z3, z4, y0, y1, y2, y3, y4⟩ := yz HT.out.hc))
     go_ret
     exact ⟨re, _, HT.out⟩
 ·clear c2
  simp only [Option.some.injEq, Prod.mk.injEq] at H
  obtain ⟨rfl, rfl, rfl, rfl, rfl⟩ := H
  obtain ⟨z0, z1, z2, z3, z4, y0, y1, y2, y3, y4⟩ := yz HT.out.hc
  go_enter Tryz.func66, Tryz.ntmps66
  go_wp2_with (first | ((with_reducible refine gf 45 rfl ?_); refine gL (some 15) rfl rfl Tryz.func45 rfl #[.pointer (some ⟨gx, 0, none⟩), .int .i64 col] rfl ?_; refine (HT.out.run HX.out A1.out).mono ?_; rintro e w1 ⟨rfl, h1⟩; refine ⟨_, rfl, ?_⟩; clear HT; have HT := aE h1; obtain ⟨z0, z1, z2, z3, z4, y0, y1, y2, y3, y4⟩ := yz HT.out.hc))
  go_ret
  exact ⟨re, _, HT.out⟩
def xN.f (k : Nat) (l0 : List Int) (p : Int) (o : Bool) (W a col : Int) (ab out : List Int) : Option (Int × Int × Bool × Int × Int × List Int) :=
 (vR.f k l0 p o tW).bind fun i => (if i.2.1 = 0 then ((wO.f k ab a (col % 256)).bind fun b => (if i.1 = 1 then ((zw.f k l0 i.2.2.1 i.2.2.2 W a col out).bind fun q => some (q.1, q.2.1, q.2.2.1, q.2.2.2.1, col, q.2.2.2.2)) else (if i.1 = 0 then (if b.2 = W then some (3, i.2.2.1, i.2.2.2, a, col, out) else ((xE.f k out b.2 col).bind fun out1 => some (0, i.2.2.1, i.2.2.2, b.2, col, out1)))
  else (if wrap64 (wrap64 (b.1 + i.1) - 5) ≤ a then some (3, i.2.2.1, i.2.2.2, a, col, out) else (if wrap64 (wrap64 (b.1 + i.1) - 5) > W then some (3, i.2.2.1, i.2.2.2, a, col, out) else ((xE.f k out (wrap64 (wrap64 (b.1 + i.1) - 5)) col).bind fun out1 => some (0, i.2.2.1, i.2.2.2, wrap64 (wrap64 (b.1 + i.1) - 5), wrap64 (1 - col), out1))))))) else some (i.2.1, i.2.2.1, i.2.2.2, a, col, out))
theorem xN.mono : ∀ a0 a1 a2 a3 a4 a5 a6 a7 k, vK (xN.f k a0 a1 a2 a3 a4 a5 a6 a7) (xN.f (k + 1) a0 a1 a2 a3 a4 a5 a6 a7) := by
 intro a0 a1 a2 a3 a4 a5 a6 a7 k
 unfold xN.f
 exact vK.bind (vR.mono _ _ _ _ k) (fun i => vK.ite (vK.bind (wO.mono _ _ _ k) (fun b => vK.ite (vK.bind (zw.mono _ _ _ _ _ _ _ k) (fun q => vK.refl _)) (vK.ite (vK.ite (vK.refl _) (vK.bind (xE.mono _ _ _ k) (fun x => vK.refl _))) (vK.ite (vK.refl _) (vK.ite (vK.refl _) (vK.bind (xE.mono _ _ _ k) (fun x => vK.refl _))))))) (vK.refl _))
def xN.T4 : Bool × List (List Nat × List Nat) := (true, [([], []), ([0], [0]), ([1], [1]), ([2], [2]), ([], []), ([4], [4]), ([5], [5]), ([6], [6]), ([], []), ([8], [8]), ([9], [9]), ([10], [10]), ([11], [11]), ([3, 7, 12], [3, 7, 12]), ([13], [13]), ([14], [14]), ([14], [14]), ([15, 13, 0, 1, 2, 3, 4, 5, 6, 7, 8, 9, 10, 11, 12, 13, 14, 15], [15]), ([16, 17, 0, 1, 2, 3, 4, 5, 6, 7, 8, 9, 10, 11, 12, 13, 14, 15, 16, 17], [16])])
def xN.B4 : List Nat := [0, 1, 3, 7, 0, 16, 48, 112, 0, 256, 768, 1792, 3840, 8191, 16383, 32767, 32767, 65535, 262143]
theorem xN.tab4 : zi .any (opsOf Tryz.f47 4) = xN.T4 := by kernel_rfl
theorem xN.bits4 : yv xN.T4.2 xN.B4 = true := by kernel_rfl
theorem xN.calls (k : Nat) (w0 wT w : World) (g gs gx : Nat) (l0 : List Int) (p : Int) (o : Bool) (W a col : Int) (Ab : Option Addr) (cb : Nat) (ab : List Int) (u : Value) (out : List Int) (r1 r2 : Int) (r3 : Bool) (r4 r5 : Int) (r6 : List Int) (hT : Tw w0 wT w g gs l0 p o W a col Ab ab.length cb u out) (hX : Xok g gx tU qf qk tW wT) (hA : ∀ W', vr wT W' g none → Kd.C (Kd.int .u8) W' Ab ab.length ab) (hcb : ab.length ≤ cb) (h : xN.f k l0 p o W a col ab out = some (r1, r2, r3, r4, r5, r6)) :
  Calls Tryz.prog 47 #[.pointer (some ⟨gx, 0, none⟩), .pointer (some ⟨gs, 0, none⟩)] w fun e w' => e = .returned (.int .i64 r1) ∧ ∃ u', Tw w0 wT w' g gs l0 r2 r3 W r4 r5 Ab ab.length cb u' r6 := by
 have hu91 := Tryz.underlying91
 have hu84 := Tryz.underlying84
 have HT := aE hT
 have HX := aE hX
 have HA := aE hA
 have HCB := aE hcb
 clear hT hA hcb
 obtain ⟨a1, a2, a3, a4, a5, a6, a7, c1, c2, c3, c4, c5, c6, c7, ⟨_, _, _, _, _, _, l7⟩, ⟨_, _, _, f7⟩, hW⟩ := hX
 have HW := aE hW
 clear hW
 obtain ⟨Au, cu, eu⟩ := Kd.vY HT.out.hr
 subst eu
 obtain ⟨⟨i1, i2, i3, i4⟩, A1, H⟩ := Option.bind_eq_some_iff.mp h
 clear h
 have A1 := aE A1
 replace H : (if i2 = 0 then ((wO.f k ab a (col % 256)).bind fun b => (if i1 = 1 then ((zw.f k l0 i3 i4 W a col out).bind fun q => some (q.1, q.2.1, q.2.2.1, q.2.2.2.1, col, q.2.2.2.2)) else (if i1 = 0 then (if b.2 = W then some (3, i3, i4, a, col, out) else ((xE.f k out b.2 col).bind fun out1 => some (0, i3, i4, b.2, col, out1)))
  else (if wrap64 (wrap64 (b.1 + i1) - 5) ≤ a then some (3, i3, i4, a, col, out) else (if wrap64 (wrap64 (b.1 + i1) - 5) > W then some (3, i3, i4, a, col, out) else ((xE.f k out (wrap64 (wrap64 (b.1 + i1) - 5)) col).bind fun out1 => some (0, i3, i4, wrap64 (wrap64 (b.1 + i1) - 5), wrap64 (1 - col), out1))))))) else some (i2, i3, i4, a, col, out)) = some (r1, r2, r3, r4, r5, r6) := H
 obtain ⟨s, t, x, y, z, B, D, E, _⟩ := cz8f (HW.out w HT.out.hk).1
 rcases iE H with H1 | H1 <;> clear H <;> obtain ⟨H, J, L, c2⟩ := H1
 ·obtain ⟨⟨b1, b2⟩, G, H⟩ := Option.bind_eq_some_iff.mp H
  have A2 := aE (show wO.f k ab a (col % 256) = some (b1, b2) from G)
  clear G
  try dsimp only at H
  go_enter Tryz.func47, Tryz.ntmps47
  go_wp2_with (first | ((with_reducible refine gf 65 rfl ?_); refine gL (some 16) rfl rfl Tryz.func65 rfl #[.pointer (some ⟨gx, 0, none⟩), .slice a7 tW.length c7] rfl ?_; (with_reducible refine (vR.calls k g l0 p o _ _ tW i1 i2 i3 i4 w0 _ HT.out.hi HT.out.hb (HW.out _ HT.out.hk).2.2.2.2.2.2.2 l7 f7 gx (fun W_ h_ => (cz8 (HW.out W_ (HT.out.hk.trans h_ (.inl rfl))).1).1) A1.out).mono ?_); rintro e w1 ⟨rfl, hi, hb, hk⟩; refine ⟨_, rfl, ?_⟩; have n_ := aE (Tw.keep HT.out hi hb hk); clear HT hi hb hk s t x y z B D E; have HT := n_; clear n_; obtain ⟨z0, z1, z2, z3, z4, y0, y1, y2, y3, y4⟩ := yz HT.out.hc))
  clear z0 z1 z2 z3 z4 y0 y1 y2 y3 y4
  have n_ := aE (Tw.keep HT.out (vo.drew HT.out.hi) (vy HT.out.hb) (vT (vr.refl _ _ _)))
  clear HT
  have HT := n_
  clear n_
  refine st 19 (fun w' => w'.cell? ⟨gs, 1, none⟩ = some (.int .i64 a) ∧ w'.cell? ⟨gs, 2, none⟩ = some (.int .i64 col) ∧ w'.cell? ⟨gs, 3, none⟩ = some (.slice Ab ab.length cb)) [] (bv 19 0) xN.tab4 xN.bits4 ⟨jz HT.out.hc, jK HT.out.hc, kw HT.out.hc⟩ (fun hHeld HT_ HW_ => ?_)
  generalize w1.drew = a0 at HT hHeld ⊢
  refine pu 0 23 (bv 19 1) HT_ rfl rfl ?_
  refine pu 1 24 (bv 19 3) HT_ rfl rfl ?_
  refine pu 2 25 (bv 19 7) HT_ rfl rfl ?_
  refine tk 3 26 (bv 19 15) HT_ HW_ hHeld rfl rfl (by rintro w' ⟨s0, s1, s2⟩; exact yl) ?_
  refine pu 4 27 (bv 19 31) HT_ rfl rfl ?_
  refine pu 5 28 (bv 19 63) HT_ rfl rfl ?_
  refine pu 6 29 (bv 19 127) HT_ rfl rfl ?_
  refine tk 7 30 (bv 19 255) HT_ HW_ hHeld rfl rfl (by rintro w' ⟨s0, s1, s2⟩; exact yl) ?_
  refine pu 8 31 (bv 19 511) HT_ rfl rfl ?_
  refine pu 9 32 (bv 19 1023) HT_ rfl rfl ?_
  refine pu 10 33 (bv 19 2047) HT_ rfl rfl ?_
  refine tk 11 34 (bv 19 4095) HT_ HW_ hHeld rfl rfl (by rintro w' ⟨s0, s1, s2⟩; exact yl) ?_
  refine pu 12 35 (bv 19 8191) HT_ rfl rfl ?_
  refine yA (i := 13) (N := some 36) (bv 19 16383) rfl rfl (xl HT_.out (by kernel_rfl)) (by decide) (fun K hK => ?_)
  refine gK Tryz.func38 rfl #[.slice Ab ab.length cb, .int .i64 a, .int .u8 (col % 256)] rfl rfl ?_
  with_reducible refine (wO.calls k Ab cb ab a (col % 256) b1 b2 _ (HA.out _ HT.out.hk) HCB.out A2.out).mono ?_
  rintro e a8 ⟨rfl, hb⟩
  refine ⟨_, rfl, ?_⟩
  have n_ := aE (Tw.keep HT.out (HT.out.hi.below hb) (zV HT.out.hb hb HT.out.hb.size) (vr.of_below hb g none))
  clear HT hb
  have HT := n_
  clear n_
  refine hK.out _ _ ⟨jz HT.out.hc, jK HT.out.hc, kw HT.out.hc⟩ (fun hHeld => ?_)
  clear hK K
  refine nm (some 36) ?_
  refine pu 14 22 (bv 19 32767) HT_ rfl rfl ?_
  refine pu 15 37 (bv 19 65535) HT_ rfl rfl ?_
  refine pu 16 38 (bv 19 131071) HT_ rfl rfl ?_
  refine pu 17 7 (bv 19 262143) HT_ rfl rfl ?_
  refine pu 18 8 (bv 19 524287) HT_ rfl rfl ?_
  refine zd (xZ HT_.out (by kernel_rfl)) ?_
  clear hHeld
  obtain ⟨z0, z1, z2, z3, z4, y0, y1, y2, y3, y4⟩ := yz HT.out.hc
  rcases iE H with H1 | H1 <;> clear H <;> obtain ⟨H, M, O, c3⟩ := H1
  ·obtain ⟨⟨q1, q2, q3, q4, q5⟩, d, H⟩ := Option.bind_eq_some_iff.mp H
   have A3 := aE d
   clear d
   simp only [Option.some.injEq, Prod.mk.injEq] at H
   obtain ⟨rfl, rfl, rfl, rfl, rfl, rfl⟩ := H
   go_wp2_with (first | ((with_reducible refine gf 66 rfl ?_); refine gL (some 44) rfl rfl Tryz.func66 rfl #[.pointer (some ⟨gx, 0, none⟩), .pointer (some ⟨gs, 0, none⟩)] rfl ?_; (with_reducible refine (zw.calls k w0 wT _ g gs gx l0 i3 i4 W a col Ab _ cb _ out q1 q2 q3 q4 q5 HT.out HX.out A3.out).mono ?_); rintro e w2 ⟨rfl, u1, hT1⟩; refine ⟨_, rfl, ?_⟩))
   go_ret
   exact ⟨re, u1, hT1⟩
  ·clear c3
   rcases iE H with H1 | H1 <;> clear H <;> obtain ⟨H, T, X, c4⟩ := H1
   ·rcases iE H with H1 | H1 <;> clear H <;> obtain ⟨H, I, Y, c5⟩ := H1
    ·simp only [Option.some.injEq, Prod.mk.injEq] at H
     obtain ⟨rfl, rfl, rfl, rfl, rfl, rfl⟩ := H
     go_wp2
     go_ret
     exact ⟨re, _, HT.out⟩
    ·clear c5
     obtain ⟨out1, d, H⟩ := Option.bind_eq_some_iff.mp H
     have A3 := aE d
     clear d
     simp only [Option.some.injEq, Prod.mk.injEq] at H
     obtain ⟨rfl, rfl, rfl, rfl, rfl, rfl⟩ := H
     go_wp2_with (first | ((with_reducible refine gf 67 rfl ?_); refine gL (some 65) rfl rfl Tryz.func67 rfl #[.pointer (some ⟨gs, 0, none⟩), .int .i64 b2, .int .i64 col] rfl ?_; refine (HT.out.fill A3.out).mono ?_; rintro e w1 ⟨rfl, j, r, h1⟩; refine ⟨_, rfl, ?_⟩; clear HT; have HT := aE h1; obtain ⟨z0, z1, z2, z3, z4, y0, y1, y2, y3, y4⟩ := yz HT.out.hc))
     go_ret
     exact ⟨re, _, HT.out⟩
   ·clear c4
    rcases iL H with H1 | H1 <;> clear H <;> obtain ⟨H, I⟩ := H1
    ·simp only [Option.some.injEq, Prod.mk.injEq] at H
     obtain ⟨rfl, rfl, rfl, rfl, rfl, rfl⟩ := H
     go_wp2
     go_ret
     exact ⟨re, _, HT.out⟩
    ·rcases iL H with H1 | H1 <;> clear H <;> obtain ⟨H, Z⟩ := H1
     ·simp only [Option.some.injEq, Prod.mk.injEq] at H
      obtain ⟨rfl, rfl, rfl, rfl, rfl, rfl⟩ := H
      go_wp2
      go_ret
      exact ⟨re, _, HT.out⟩
     ·obtain ⟨out1, d, H⟩ := Option.bind_eq_some_iff.mp H
      have A3 := aE d
      clear d
      simp only [Option.some.injEq, Prod.mk.injEq] at H
      obtain ⟨rfl, rfl, rfl, rfl, rfl, rfl⟩ := H
      go_wp2_with (first | ((with_reducible refine gf 67 rfl ?_); refine gL (some 90) rfl rfl Tryz.func67 rfl #[.pointer (some ⟨gs, 0, none⟩), .int .i64 (wrap64 (wrap64 (b1 + i1) - 5)), .int .i64 col] rfl ?_; refine (HT.out.fill A3.out).mono ?_; rintro e w1 ⟨rfl, j, r, h1⟩; refine ⟨_, rfl, ?_⟩; clear HT; have HT := aE h1; obtain ⟨z0, z1, z2, z3, z4, y0, y1, y2, y3, y4⟩ := yz HT.out.hc))
      go_ret
      refine ⟨re, .slice j out1.length r, Tw.step HT.out (kZ (Below.refl _ _) HT.out.hs) (vt (cs := #[.int .i64 W, .int .i64 (wrap64 (wrap64 (b1 + i1) - 5)), .int .i64 col, .slice Ab ab.length cb, .slice j out1.length r]) HT.out.hc 2 _ rfl) ?_⟩
      exact Kd.vU (Kd.wK (p := ⟨gs, 2, none⟩) (Kd.xH HT.out.hr HT.out.hc (by decide)) (fun _ hk => hk.2) _) (fun _ _ => trivial)
 ·clear c2
  simp only [Option.some.injEq, Prod.mk.injEq] at H
  obtain ⟨rfl, rfl, rfl, rfl, rfl, rfl⟩ := H
  go_enter Tryz.func47, Tryz.ntmps47
  go_wp2_with (first | ((with_reducible refine gf 65 rfl ?_); refine gL (some 16) rfl rfl Tryz.func65 rfl #[.pointer (some ⟨gx, 0, none⟩), .slice a7 tW.length c7] rfl ?_; (with_reducible refine (vR.calls k g l0 p o _ _ tW i1 i2 i3 i4 w0 _ HT.out.hi HT.out.hb (HW.out _ HT.out.hk).2.2.2.2.2.2.2 l7 f7 gx (fun W_ h_ => (cz8 (HW.out W_ (HT.out.hk.trans h_ (.inl rfl))).1).1) A1.out).mono ?_); rintro e w1 ⟨rfl, hi, hb, hk⟩; refine ⟨_, rfl, ?_⟩; have n_ := aE (Tw.keep HT.out hi hb hk); clear HT hi hb hk s t x y z B D E; have HT := n_; clear n_; obtain ⟨z0, z1, z2, z3, z4, y0, y1, y2, y3, y4⟩ := yz HT.out.hc))
  go_ret
  exact ⟨re, _, HT.out⟩
def wM.l0 : Nat → List Int → Int → List Int → Int → Bool → Int → Int → List Int → Option (List Int × Int × Int × Bool)
 | 0, _, _, _, _, _, _, _, _ => none
 | k + 1, l0, W, ab, p, o, a, col, out => if a < W then (if W > 0 then ((xN.f k l0 p o W a col ab out).bind fun m => (if m.1 = 0 then wM.l0 k l0 W ab m.2.1 m.2.2.1 m.2.2.2.1 m.2.2.2.2.1 m.2.2.2.2.2 else some ([], m.1, m.2.1, m.2.2.1))) else some (out, 0, p, o)) else some (out, 0, p, o)
def wM.f (k : Nat) (d : List Int) (e : Int) (j : Bool) (a1 : Int) (l2 : List Int) : Option (List Int × Int × Int × Bool) := wM.l0 k d a1 l2 e j (-1) 0 []
theorem wM.wt : ∀ k, (∀ y0 y1 y2 y3 y4 y5 y6 y7, vK (wM.l0 k y0 y1 y2 y3 y4 y5 y6 y7) (wM.l0 (k + 1) y0 y1 y2 y3 y4 y5 y6 y7))
 | 0 => fun _ _ _ _ _ _ _ _ r h => by simp [wM.l0] at h
 | k + 1 => by
  have ih0 := wM.wt k
  intro y0 y1 y2 y3 y4 y5 y6 y7
  unfold wM.l0
  exact vK.ite (vK.ite (vK.bind (xN.mono _ _ _ _ _ _ _ _ k) (fun t => vK.ite (ih0 _ _ _ _ _ _ _ _) (vK.refl _))) (vK.refl _)) (vK.refl _)
theorem wM.mono : ∀ a0 a1 a2 a3 a4 k, vK (wM.f k a0 a1 a2 a3 a4) (wM.f (k + 1) a0 a1 a2 a3 a4) := fun _ _ _ _ _ k => wM.wt k _ _ _ _ _ _ _ _
theorem wM.calls (k : Nat) (g : Nat) (d : List Int) (j : Int) (q : Bool) (a1 : Int) (A2 : Option Addr) (c2 : Nat) (l2 : List Int) (r1 : List Int) (r2 : Int) (r3 : Int) (r4 : Bool) (w0 w : World) (hI : vo w0 w g d j q) (hB : Below w0.heap.size w0 w) (hr2 : Kd.C (Kd.int .u8) w A2 l2.length l2) (r : l2.length ≤ c2) (hf2 : ∀ ad, A2 = some ad → 0 < l2.length → ad.block ≠ g) (gx : Nat) (hX : Xok g gx tU qf qk tW w) (h : wM.f k d j q a1 l2 = some (r1, r2, r3, r4)) :
  Calls Tryz.prog 27 #[.pointer (some ⟨gx, 0, none⟩), .int .i64 a1, .slice A2 l2.length c2] w fun e w' => ∃ s : Value, e = .returned (.tuple #[s, .int .i64 r2]) ∧ Kd.R (Kd.int .u8) 5 w' w.heap.size (fun _ => True) s r1 ∧ vo w0 w' g d r3 r4 ∧ Below w0.heap.size w0 w' ∧ vr w w' g none := by
 have hu91 := Tryz.underlying91
 have HI := aE hI
 have HB := aE hB
 have HX := aE hX
 have t := aE r
 have HA := aE (Kd.C_foot_ne u8K hr2 hf2)
 have H' := aE (show wM.l0 k d a1 l2 j q (-1) 0 [] = some (r1, r2, r3, r4) from h)
 clear hI hB hX hr2 r hf2 h
 go_enter Tryz.func27, Tryz.ntmps27
 go_wp2_with (first | ((with_reducible refine gd 13 rfl ?_); refine bx 13 #[.int .i64 a1, .int .i64 (-1), .int .i64 0, .slice A2 l2.length c2, .slice none 0 0] 91 rfl rfl ?_; intro gs hg w1 hbox hb; have n_ := aC (show Tw w0 w w1 g gs d j q a1 (-1) 0 A2 l2.length c2 (.slice none 0 0) [] from ⟨HI.out.below hb, zV HB.out hb HB.out.size, vr.of_below hb g none, hbox, Kd.yu _ _ _ _ _, Nat.le_of_eq hg.symm, HI.out.lt⟩) (aE (show True from trivial)); clear hbox hb hg; obtain ⟨HT, _⟩ := n_))
 go_loopg [] k (fun kq w' => ∃ (p : Int) (o : Bool) (a col : Int) (u : Value) (out : List Int), Aside0 (wM.l0 kq d a1 l2 p o a col out = some (r1, r2, r3, r4)) ∧ Aside0 (kq ≤ k) ∧ Aside0 (Tw w0 w w' g gs d p o a1 a col A2 l2.length c2 u out))
 case atStart => exact ⟨j, q, -1, 0, .slice none 0 0, [], H', ⟨Nat.le_refl _⟩, ⟨by exact HT.out⟩⟩
 case round =>
  clear H' HT
  obtain ⟨p, o, a, col, u, out, HA1, x, HT⟩ := hrel
  cases gk with
  | zero => exact absurd HA1.out (by simp [wM.l0])
  | succ k1 =>
   have H := HA1.out
   clear HA1
   simp only [wM.l0] at H
   obtain ⟨Au, cu, eu⟩ := Kd.vY HT.out.hr
   subst eu
   obtain ⟨z0, z1, z2, z3, z4, y0, y1, y2, y3, y4⟩ := yz HT.out.hc
   rcases iL H with H1 | H1 <;> clear H <;> obtain ⟨H, z⟩ := H1
   ·rcases iL H with H1 | H1 <;> clear H <;> obtain ⟨H, B⟩ := H1
    ·obtain ⟨⟨m1, m2, m3, m4, m5, m6⟩, y, H⟩ := Option.bind_eq_some_iff.mp H
     have A1 := aE y
     clear y
     try dsimp only at H
     rcases iE H with H1 | H1 <;> clear H <;> obtain ⟨H, D, E, c5⟩ := H1
     ·have H' := aE H
      clear H
      go_wp2_with (first | ((with_reducible refine gf 47 rfl ?_); refine gL (some 26) rfl rfl Tryz.func47 rfl #[.pointer (some ⟨gx, 0, none⟩), .pointer (some ⟨gs, 0, none⟩)] rfl ?_; (with_reducible refine (xN.calls k1 w0 w _ g gs gx d p o a1 a col A2 c2 l2 _ out m1 m2 m3 m4 m5 m6 HT.out HX.out HA.out t.out A1.out).mono ?_); rintro e w2 ⟨rfl, u1, hT1⟩; refine ⟨_, rfl, ?_⟩))
      go_roundg k1
      case measure => have := x.out; omega
      case rel => exact ⟨m2, m3, m4, m5, u1, m6, H', ⟨by have := x.out; omega⟩, ⟨hT1⟩⟩
     ·clear c5
      simp only [Option.some.injEq, Prod.mk.injEq] at H
      obtain ⟨rfl, rfl, rfl, rfl⟩ := H
      go_wp2_with (first | ((with_reducible refine gf 47 rfl ?_); refine gL (some 26) rfl rfl Tryz.func47 rfl #[.pointer (some ⟨gx, 0, none⟩), .pointer (some ⟨gs, 0, none⟩)] rfl ?_; (with_reducible refine (xN.calls k1 w0 w _ g gs gx d p o a1 a col A2 c2 l2 _ out m1 m2 m3 m4 m5 m6 HT.out HX.out HA.out t.out A1.out).mono ?_); rintro e w2 ⟨rfl, u1, hT1⟩; refine ⟨_, rfl, ?_⟩))
      go_ret2
      exact ⟨_, re, Kd.yu _ _ _ _ _, hT1.hi, hT1.hb, hT1.hk⟩
    ·simp only [Option.some.injEq, Prod.mk.injEq] at H
     obtain ⟨rfl, rfl, rfl, rfl⟩ := H
     go_wp2
     go_ret2
     exact ⟨_, re, HT.out.hr, HT.out.hi, HT.out.hb, HT.out.hk⟩
   ·simp only [Option.some.injEq, Prod.mk.injEq] at H
    obtain ⟨rfl, rfl, rfl, rfl⟩ := H
    go_wp2
    go_ret2
    exact ⟨_, re, HT.out.hr, HT.out.hi, HT.out.hb, HT.out.hk⟩
def xa.l0 : Nat → List Int → Int → Int → Int → Bool → List Int → Int → List Int → Option (Int × Int × List Int × Int × Int)
 | 0, _, _, _, _, _, _, _, _ => none
 | k + 1, l0, a1, a2, p, o, ab, y, zW => if y < a2 then ((wM.f k l0 p o a1 ab).bind fun t => (if t.2.1 = 0 then (if zW.length + t.1.length < 140737488355328 then xa.l0 k l0 a1 a2 t.2.2.1 t.2.2.2 t.1 (wrap64 (y + 1)) (zW ++ t.1) else none) else some (0, 0, [], 0, t.2.1))) else ((yJ.f l0 p o).bind fun t => some (a1, a2, zW, t.1, 0))
def xa.f (k : Nat) (l0 : List Int) (a1 a2 : Int) : Option (Int × Int × List Int × Int × Int) :=
  (wN.f k a1 a2 0).bind fun t => (if t.2.2.2 = 0 then (if 0 ≤ a1 then (if a1.toNat ≤ 281474976710656 then (if l0.length < 140737488355328 then xa.l0 k l0 a1 a2 0 true (List.replicate a1.toNat 0) 0 [] else none) else none) else none) else some (0, 0, [], 0, 2))
theorem xa.wt : ∀ k, (∀ y0 y1 y2 y3 y4 y5 y6 y7, vK (xa.l0 k y0 y1 y2 y3 y4 y5 y6 y7) (xa.l0 (k + 1) y0 y1 y2 y3 y4 y5 y6 y7))
 | 0 => fun _ _ _ _ _ _ _ _ r h => by simp [xa.l0] at h
 | k + 1 => by
  have ih0 := xa.wt k
  intro y0 y1 y2 y3 y4 y5 y6 y7
  unfold xa.l0
  refine vK.ite (vK.bind (wM.mono _ _ _ _ _ k) (fun t => vK.ite (vK.ite (ih0 _ _ _ _ _ _ _ _) (vK.refl _)) (vK.refl _))) (vK.refl _)
theorem xa.mono : ∀ a0 a1 a2 k, vK (xa.f k a0 a1 a2) (xa.f (k + 1) a0 a1 a2) := by
  intro a0 a1 a2 k
  unfold xa.f
  exact vK.bind (wN.mono _ _ _ k) (fun t => vK.ite (vK.ite (vK.ite (vK.ite (xa.wt k _ _ _ _ _ _ _ _) (vK.refl _)) (vK.refl _)) (vK.refl _)) (vK.refl _))
def xa.T14 : Bool × List (List Nat × List Nat) := (true, [([], []), ([], []), ([1], [1]), ([2], [2]), ([3], [3]), ([4], [4]), ([0, 5, 0], [0]), ([5, 6, 0, 1, 2, 3, 4, 5, 6], [5]), ([7, 0, 1, 2, 3, 4, 5, 6, 7], [])])
def xa.B14 : List Nat := [0, 0, 2, 6, 14, 30, 63, 127, 255]
theorem xa.tab14 : zi .any (opsOf Tryz.f25 14) = xa.T14 := by kernel_rfl
theorem xa.bits14 : yv xa.T14.2 xa.B14 = true := by kernel_rfl
theorem xa.calls (k : Nat) (A0 : Option Addr) (c0 : Nat) (l0 : List Int) (a1 a2 : Int) (r1 r2 : Int) (r3 : List Int) (r4 r5 : Int) (w : World) (hr0 : Kd.C (Kd.int .u8) w A0 l0.length l0) (d7 : l0.length ≤ c0) (h : xa.f k l0 a1 a2 = some (r1, r2, r3, r4, r5)) :
  Calls Tryz.prog 25 #[.slice A0 l0.length c0, .int .i64 a1, .int .i64 a2, .func (.func 27) #[] #[]] w fun e w' => ∃ d8 : Value, e = .returned (.tuple #[.agg #[.int .i64 r1, .int .i64 r2, d8], .int .i64 r4, .int .i64 r5]) ∧ Kd.R (Kd.int .u8) 5 w' w.heap.size (fun _ => True) d8 r3 ∧ Below w.heap.size w w' := by
 have hu24 := Tryz.underlying24
 have hu84 := Tryz.underlying84
 have g6 := aE hr0
 have g7 := aE d7
 clear hr0 d7
 have HB := bR w
 unfold xa.f at h
 obtain ⟨⟨t1, t2, t3, t4⟩, A1, H⟩ := Option.bind_eq_some_iff.mp h
 clear h
 have A1 := aE A1
 try dsimp only at H
 by_cases c2 : t4 = 0
 ·rw [if_pos c2] at H
  subst c2
  by_cases c3 : 0 ≤ a1
  ·rw [if_pos c3] at H
   have h7 := eq_true c3
   have h8 := decide_eq_true c3
   clear c3
   by_cases c4 : a1.toNat ≤ 281474976710656
   ·rw [if_pos c4] at H
    have h9 := eq_true c4
    have i0 := decide_eq_true c4
    clear c4
    by_cases c5 : l0.length < 140737488355328
    ·rw [if_pos c5] at H
     have HL0 := aE c5
     clear c5
     obtain ⟨d9, hy_⟩ : ∃ y_ : List Int, y_ = (List.replicate (a1 : Int).toNat 0) := ⟨_, rfl⟩
     rw [← hy_] at H
     have G := aE hy_
     clear hy_
     have H' := aE H
     clear H
     go_enter Tryz.func25, Tryz.ntmps25
     go_wp2_with (first
      | ((with_reducible refine gd 8 rfl ?_); refine bx 8 #[.int .i64 0, .int .i64 0, .slice none 0 0] 24 rfl rfl ?_; intro q hg wA hbox hb; have n_ := aC (bs hb) (aC hbox (aE (gz hg))); clear HB; obtain ⟨HB, d, E⟩ := n_; clear hb hbox hg)
      | ((with_reducible refine gf 42 rfl ?_); refine gL (some 18) rfl rfl Tryz.func42 rfl #[.int .i64 a1, .int .i64 a2, .int .i64 0] rfl ?_; (with_reducible refine (wN.calls k a1 a2 0 t1 t2 t3 0 _ A1.out).mono ?_); rintro e wB ⟨g8, rfl, ho, hb⟩; refine ⟨_, rfl, ?_⟩; have n_ := aC (vp (bU d.out) hb) (aC ho (aE (bs hb))); clear d HB ho hb; obtain ⟨d, x, HB⟩ := n_; obtain ⟨e0, e1, I⟩ := Kd.vY x.out; subst I; clear x)
      | ((with_reducible refine gd 11 rfl ?_); refine bx 11 #[.int .i64 0, .int .i64 0, .slice none 0 0] 24 rfl rfl ?_; intro e2 hg wC hbox hb; have n_ := aC (vp (bU d.out) hb) (aC (bs hb) (aC hbox (aC (gz hg) (aC (gn hg (bU d.out)) (aE (gm hg (bU d.out))))))); clear d HB; obtain ⟨d, HB, J, e3, r, t⟩ := n_; clear hb hbox hg; have d2 := t.out; have d3 := r.out; obtain ⟨L, M, O, T, X, Y⟩ := yk J.out)
      | ((with_reducible refine gf 43 rfl ?_); refine gL (some 25) rfl rfl Tryz.func43 rfl #[.slice A0 l0.length c0] rfl ?_; (with_reducible refine (zu.calls 200 A0 c0 l0 tU qf qk tW _ (Kd.wz g6.out bl) g7.out HL0.out kc).mono ?_); rintro e wD ⟨gr, gx, w0, rfl, hI, hX, hB0, hs, hb, hge, hlt, hsz⟩; refine ⟨_, rfl, ?_⟩; have n_ := aC (vp (show _ = some (.cells #[.int .i64 0, .int .i64 0, .slice none 0 0] 24 (0, 0)) from by (repeat refine wk ?_ r.out _); exact d.out) hb) (aC (qi.mono hX (B' := q + 1) (zk (o := .cells #[.int .i64 0, .int .i64 0, .slice none 0 0] 24 (0, 0)) (by (repeat refine wk ?_ r.out _); exact d.out))) (aC (St.of hI hB0 hs) (aC (Kb.refl (q + 1) gr wD) (aC (Nat.lt_of_lt_of_le (zk (o := .cells #[.int .i64 0, .int .i64 0, .slice none 0 0] 24 (0, 0)) (by (repeat refine wk ?_ r.out _); exact d.out)) hge : q < gr) (aC hsz (aC (Nat.lt_trans hlt hsz : gr < wD.heap.size) (aE (bs hb)))))))); clear d HB hI hX hB0 hs hb hge; obtain ⟨d, XB, ST, KB, LT8, LTX, LTG, HB⟩ := n_; obtain ⟨e4, e5, e6, e7, e8, e9⟩ := yk d.out)
      | ((with_reducible refine gd 30 rfl ?_); refine Kd.jN (Kd.int .u8) _ 5 rfl (N := 30) rfl 22 _ _ rfl a1 rfl rfl Tryz.underlying22 (.int .u8 0) 1 info5 rfl (by decide) (by omega) 0 (ok := fun _ => True) (okp := fun _ => True) rfl (fun _ hk => hk) trivial (dt) (Nat.le_trans (Nat.mul_le_mul_right _ (dt : a1.toNat ≤ 281474976710656)) (by omega)) (Below.refl _ _) (Nat.le_refl _) ?_; intro i1 wE z hb hg_ hnew_; clear hg_ hnew_; (first | rw [← G.out] at z | (simp only [Int.reduceToNat] at z; rw [← G.out] at z)); have n_ := aC (Kd.vS z (Kb.trans KB.out (Kb.off (gb := q) (g := gr) (w := wD))).1) (aC (vp (show _ = some (.cells #[.int .i64 a1, .int .i64 a2, .slice none 0 0] 24 (0, 0)) from by refine vt (cs := #[.int .i64 a1, .int .i64 a2, .slice none 0 0]) ?_ 2 _ rfl; refine vt (cs := #[.int .i64 a1, .int .i64 0, .slice none 0 0]) ?_ 1 _ rfl; refine vt (cs := #[.int .i64 0, .int .i64 0, .slice none 0 0]) ?_ 0 _ rfl; exact d.out) hb) (aC (St.below (St.off ST.out d.out rfl (Nat.ne_of_lt LT8.out)) hb) (aC (Kb.trans (Kb.trans KB.out (Kb.off (gb := q) (g := gr) (w := wD))) (Kb.of_below hb)) (aE (bs hb))))); clear d ST KB HB; obtain ⟨b8, d, ST, KB, HB⟩ := n_; clear hb z))
     go_loopg [14, 32] k (fun kq f0 g9 w' => ∃ (ab : List Int) (y : Int) (p : Int) (o : Bool) (zW : List Int) (u : Value), g9 = .int .i64 y ∧ Aside0 (xa.l0 kq l0 a1 a2 p o ab y zW = some (r1, r2, r3, r4, r5)) ∧ Aside0 (kq ≤ k) ∧ Aside0 (Kd.R (Kd.int .u8) 5 w' wD.heap.size (fun k_ => some k_ ≠ (u : Value).ownBlock) f0 ab) ∧ Aside0 (Kd.R (Kd.int .u8) 5 w' wD.heap.size (fun k_ => some k_ ≠ (f0 : Value).ownBlock) u zW) ∧ Aside0 (w'.heap[q]? = some (.cells #[.int .i64 a1, .int .i64 a2, u] 24 (0, 0))) ∧ Aside0 (St w' gr l0 p o) ∧ Aside0 (Kb (q + 1) gr wD w') ∧ Aside0 (Below w.heap.size w w'))
     case atStart => exact ⟨d9, (0), (0), true, ([] : List Int), (.slice none 0 0), rq, H', ⟨Nat.le_refl _⟩, ⟨rU (Kd.vU b8.out (fun _ hk => (by simp [Value.ownBlock])))⟩, ⟨Kd.yu _ _ _ _ _⟩, ⟨bU d.out⟩, ⟨by exact ST.out⟩, ⟨by exact KB.out⟩, ⟨bl⟩⟩
     case round =>
      clear H' b8 ST KB HB d
      obtain ⟨ab, y, p, o, zW, u, rfl, HA, f1, j, HO_p, d, ST, KB, HB⟩ := hrel
      cases gk with
      | zero => exact absurd HA.out (by simp [xa.l0])
      | succ k1 =>
       have H := HA.out
       clear HA
       simp only [xa.l0] at H
       obtain ⟨Aou, cou, eou⟩ := Kd.vY HO_p.out
       subst eou
       rcases iL H with H1 | H1 <;> clear H <;> obtain ⟨H, h3⟩ := H1
       ·obtain ⟨⟨q1, q2, q3, q4⟩, B, H⟩ := Option.bind_eq_some_iff.mp H
        try dsimp only at H
        have b6 := aE B
        clear B
        obtain ⟨b9, c1, f2⟩ := Kd.vY j.out
        subst f2
        rcases iE H with H1 | H1 <;> clear H <;> obtain ⟨H, h4, h5, i4⟩ := H1
        ·by_cases b7 : zW.length + q1.length < 140737488355328
         ·rw [if_pos b7] at H
          have d4 := aE b7
          clear b7
          obtain ⟨D, hy_⟩ : ∃ y_ : List Int, y_ = (zW ++ q1) := ⟨_, rfl⟩
          rw [← hy_] at H
          have d5 := aE hy_
          clear hy_
          have H' := aE H
          clear H
          go_wp2_with (first | ((with_reducible refine zN rfl ?_); refine jX (some 39) rfl rfl Tryz.func27 (by kernel_rfl) rfl #[.pointer (some ⟨gx, 0, none⟩), .int .i64 a1, .slice b9 ab.length c1] rfl rfl (by (try simp only [List.map_toArray, List.map_cons, List.map_nil]); first | done | rfl) ?_; (with_reducible refine (wM.calls k1 gr l0 p o a1 _ _ ab q1 q2 q3 q4 (cutAt _ gr) _ (St.to ST.out).1 (St.to ST.out).2.1 (Kd.R_reads' j.out).2.2 (Kd.R_reads' j.out).2.1 (fun ad e_ _ => Nat.ne_of_gt (Nat.lt_of_lt_of_le LTG.out (Kd.xc j.out _ (by rw [e_]; simp [Value.ownBlock])))) gx (XB.out.kb KB.out).old b6.out).mono ?_); rintro e wF ⟨d6, rfl, ho, hi, hb, hk⟩; refine ⟨_, rfl, ?_⟩; have n_ := aC (Kd.vS (Kd.R_new' (Kd.R_new' ho (Kd.xW j.out)) (Kd.xW HO_p.out)) KB.out.1) (aC (Kd.vU (Kd.zo (Kd.xF HO_p.out) (fun k_ h_ hl_ => hk.2 k_ hl_ (Nat.ne_of_gt (Nat.lt_of_lt_of_le LTG.out h_.2.1)) (by simp))) (fun k_ h_ => show some k_ ≠ d6.ownBlock from fun e_ => absurd (Kd.xc ho k_ e_.symm) (Nat.not_le.mpr h_.2.2.1))) (aC (vr.blk hk d.out (Nat.ne_of_lt LT8.out) (by simp)) (aC (St.of hi hb (St.to ST.out).2.2) (aC (Kb.trans KB.out (Kb.js hk)) (aE (z7 HB.out (Nat.le_refl _) hb hk (Nat.le_trans E.out (Nat.le_of_lt LT8.out)))))))); clear j HO_p d ST KB HB ho hi hb hk; obtain ⟨s, HO_p, d, ST, KB, HB⟩ := n_; obtain ⟨Z, a0, a3, a4, a5, a6⟩ := yk d.out; obtain ⟨d0, d1, a7⟩ := Kd.vY s.out; subst a7) | ((with_reducible refine wU (b := .append) (xs := #[.tmp 47, .tmp 48]) rfl ?_); at_builtin; refine Kd.xO (Kd.int .u8) (w0 := wF) wD.heap.size rfl (.tmp 47) (.tmp 48) 22 5 (.int .u8 0) 1 rfl Tryz.underlying22 info5 rfl (by decide) (by omega) (.slice Aou zW.length cou) zW q1 _ _ _ (fun k_ => some k_ ≠ (.slice d0 q1.length d1 : Value).ownBlock) (fun _ => False) rfl rfl ?aO ?aR (fun _ _ h => h) (fun _ h => h.elim) ?aF ?aB ?aS ?aL ?_; (case aR => exact (Kd.R_reads' s.out).2.2); (case aB => exact Below.refl _ _); (case aF => exact (fun k_ hk => Kd.fresh' (Kd.xW s.out) k_ hk)); (case aO => exact HO_p.out); (case aS => exact KB.out.1); (case aL => have := d4.out; omega); intro i5 wG ho hb hg hat; rw [← d5.out] at ho; have n_ := aC (Kd.yG s.out hg hat) (aC ho (aC (xz (g := q) d.out hg (fun e_ => absurd (Kd.xc HO_p.out q e_.symm) (Nat.not_le.mpr (Nat.lt_trans LT8.out LTG.out)))) (aC (St.grown ST.out hg (fun k_ e_ => Nat.lt_of_lt_of_le LTG.out (Kd.xc HO_p.out k_ e_))) (aC (Kb.grown KB.out hg (fun k_ e_ => Kd.xc HO_p.out k_ e_)) (aE (zV HB.out hb (Nat.le_trans E.out (Nat.le_of_lt (Nat.lt_trans LT8.out LTG.out))))))))); clear s HO_p d ST KB HB ho hb hg hat; obtain ⟨s, HO_p, d, ST, KB, HB⟩ := n_; obtain ⟨f3, f4, f5, f6, f7, f8⟩ := yk d.out; obtain ⟨a8, a9, f9⟩ := Kd.vY HO_p.out; subst f9))
          go_roundg k1
          case measure => have := f1.out; omega
          case rel => exact ⟨q1, (wrap64 (y + 1)), q3, q4, D, (.slice a8 D.length a9), rq, H', ⟨by have := f1.out; omega⟩, ⟨(Kd.vU (Kd.wK (p := ⟨q, 2, none⟩) (Kd.xF s.out) (fun k_ h_ => Nat.ne_of_gt (Nat.lt_of_lt_of_le (Nat.lt_trans LT8.out LTG.out) h_.2.1)) (.slice a8 D.length a9)) (fun _ h_ => h_.1.2))⟩, ⟨(Kd.vU (Kd.wK (p := ⟨q, 2, none⟩) (Kd.xF HO_p.out) (fun k_ h_ => Nat.ne_of_gt (Nat.lt_of_lt_of_le (Nat.lt_trans LT8.out LTG.out) h_.2.1)) (.slice a8 D.length a9)) (fun _ h_ => h_.1))⟩, ⟨by refine vt (cs := #[.int .i64 a1, .int .i64 a2, .slice Aou zW.length cou]) ?_ 2 _ rfl; exact d.out⟩, ⟨St.off ST.out d.out rfl (Nat.ne_of_lt LT8.out)⟩, ⟨Kb.trans KB.out Kb.off⟩, ⟨bl⟩⟩
         ·rw [if_neg b7] at H
          exact nB H
        ·simp only [Option.some.injEq, Prod.mk.injEq] at H
         obtain ⟨rfl, rfl, rfl, rfl, rfl⟩ := H
         go_wp2_with (first | ((with_reducible refine zN rfl ?_); refine jX (some 39) rfl rfl Tryz.func27 (by kernel_rfl) rfl #[.pointer (some ⟨gx, 0, none⟩), .int .i64 a1, .slice b9 ab.length c1] rfl rfl (by (try simp only [List.map_toArray, List.map_cons, List.map_nil]); first | done | rfl) ?_; (with_reducible refine (wM.calls k1 gr l0 p o a1 _ _ ab q1 q2 q3 q4 (cutAt _ gr) _ (St.to ST.out).1 (St.to ST.out).2.1 (Kd.R_reads' j.out).2.2 (Kd.R_reads' j.out).2.1 (fun ad e_ _ => Nat.ne_of_gt (Nat.lt_of_lt_of_le LTG.out (Kd.xc j.out _ (by rw [e_]; simp [Value.ownBlock])))) gx (XB.out.kb KB.out).old b6.out).mono ?_); rintro e wF ⟨d6, rfl, ho, hi, hb, hk⟩; refine ⟨_, rfl, ?_⟩; have n_ := aC (Kd.vS (Kd.R_new' (Kd.R_new' ho (Kd.xW j.out)) (Kd.xW HO_p.out)) KB.out.1) (aC (Kd.vU (Kd.zo (Kd.xF HO_p.out) (fun k_ h_ hl_ => hk.2 k_ hl_ (Nat.ne_of_gt (Nat.lt_of_lt_of_le LTG.out h_.2.1)) (by simp))) (fun k_ h_ => show some k_ ≠ d6.ownBlock from fun e_ => absurd (Kd.xc ho k_ e_.symm) (Nat.not_le.mpr h_.2.2.1))) (aC (vr.blk hk d.out (Nat.ne_of_lt LT8.out) (by simp)) (aC (St.of hi hb (St.to ST.out).2.2) (aC (Kb.trans KB.out (Kb.js hk)) (aE (z7 HB.out (Nat.le_refl _) hb hk (Nat.le_trans E.out (Nat.le_of_lt LT8.out)))))))); clear j HO_p d ST KB HB ho hi hb hk; obtain ⟨s, HO_p, d, ST, KB, HB⟩ := n_; obtain ⟨Z, a0, a3, a4, a5, a6⟩ := yk d.out; obtain ⟨d0, d1, a7⟩ := Kd.vY s.out; subst a7))
         refine bodyPost_ret (zy rfl _ _ q 24 #[.int .i64 0, .int .i64 0, .slice none 0 0] (0, 0) _ rfl (by (with_reducible repeat first | apply vm | apply vn | apply vl); refine vt (cs := #[.int .i64 0, .int .i64 0, .slice Aou zW.length cou]) ?_ 2 _ rfl; (with_reducible repeat first | apply vm | apply vn | apply vl); refine vt (cs := #[.int .i64 0, .int .i64 a2, .slice Aou zW.length cou]) ?_ 1 _ rfl; (with_reducible repeat first | apply vm | apply vn | apply vl); refine vt (cs := #[.int .i64 a1, .int .i64 a2, .slice Aou zW.length cou]) ?_ 0 _ rfl; exact d.out) Tryz.underlying24 rfl (by kernel_rfl)) rfl ?_
         exact ⟨_, re, Kd.yu _ _ _ _ _, bl⟩
       ·obtain ⟨⟨q1, q2, q3⟩, B, H⟩ := Option.bind_eq_some_iff.mp H
        try dsimp only at H
        have b6 := aE B
        clear B
        simp only [Option.some.injEq, Prod.mk.injEq] at H
        obtain ⟨rfl, rfl, rfl, rfl, rfl⟩ := H
        obtain ⟨b0, b1, b2, b3, b4, b5⟩ := yk d.out
        go_wp2
        have n_ := aC (vn d.out) (aC (show St wr.drew gr l0 p o from St.same ST.out (fun _ _ => rfl)) (aC (show Kb (q + 1) gr wD wr.drew from KB.out) (aC (vy HB.out) (aC (Kd.jT HO_p.out) (aE (show wr.drew.cell? ⟨gx, 0, none⟩ = _ from XB.out.cell0 wr KB.out))))))
        clear d ST KB HB HO_p j
        obtain ⟨d, ST, KB, HB, HO_p, HX0⟩ := n_
        refine st 9 (fun w' => w'.cell? ⟨q, 0, none⟩ = some (.int .i64 a1) ∧ w'.cell? ⟨q, 1, none⟩ = some (.int .i64 a2) ∧ w'.cell? ⟨q, 2, none⟩ = some (.slice Aou zW.length cou) ∧ w'.cell? ⟨gx, 0, none⟩ = some (.pointer (some ⟨gr, 0, none⟩))) [6] (bv 9 0) xa.tab14 xa.bits14 ⟨jB d.out, jz d.out, jK d.out, HX0.out⟩ (fun hHeld HT_ HW_ => ?_)
        generalize wr.drew = h6 at d ST KB HB HO_p HX0 hHeld ⊢
        refine tk 0 52 (bv 9 1) HT_ HW_ hHeld rfl rfl (by rintro w' ⟨s0, s1, s2, s3⟩; exact yl) ?_
        refine pu 1 53 (bv 9 3) HT_ rfl rfl ?_
        refine pu 2 54 (bv 9 7) HT_ rfl rfl ?_
        refine pu 3 55 (bv 9 15) HT_ rfl rfl ?_
        refine tk 4 56 (bv 9 31) HT_ HW_ hHeld rfl rfl (by rintro w' ⟨s0, s1, s2, s3⟩; exact yl) ?_
        refine yA (i := 5) (N := some 57) (bv 9 63) rfl rfl (xl HT_.out (by kernel_rfl)) (by decide) (fun K hK => ?_)
        refine gK Tryz.func44 rfl #[.pointer (some ⟨gr, 0, none⟩)] rfl rfl ?_
        with_reducible refine (yJ.calls gr l0 p o q1 q2 q3 (cutAt h6 gr) _ (St.to ST.out).1 (St.to ST.out).2.1 b6.out).mono ?_
        rintro e i6 ⟨rfl, hi, hb, hk⟩
        refine ⟨_, rfl, ?_⟩
        have n_ := aC (vr.blk hk d.out (Nat.ne_of_lt LT8.out) (by simp)) (aC (Kd.zo (Kd.xF HO_p.out) (fun k_ h_ hl_ => hk.2 k_ hl_ (Nat.ne_of_gt (Nat.lt_of_lt_of_le LTG.out h_.2.1)) (by simp))) (aC (XB.out.cell0 _ (Kb.trans KB.out (Kb.js hk))) (aE (z7 HB.out (Nat.le_refl _) hb hk (Nat.le_trans E.out (Nat.le_of_lt LT8.out))))))
        clear d HO_p HB HX0 hi hb hk ST KB
        obtain ⟨d, HO_p, HX0, HB⟩ := n_
        refine hK.out _ _ ⟨jB d.out, jz d.out, jK d.out, HX0.out⟩ (fun hHeld => ?_)
        clear hK K
        refine nm (some 57) ?_
        refine last_ (i := 6) (N := none) (bv 9 127) rfl rfl (xl HT_.out (by kernel_rfl)) (by decide) (fun K hK => ?_)
        refine want_ (by rfl) ?_
        obtain ⟨b0, b1, b2, b3, b4, b5⟩ := yk d.out
        unfold Oper.wp
        go_simp
        refine hK.out _ _ ?_
        clear hK K
        refine pu 7 9 (bv 9 255) HT_ rfl rfl ?_
        refine pu 8 10 (bv 9 511) HT_ rfl rfl ?_
        refine zd (xZ HT_.out (by kernel_rfl)) ?_
        go_wp2
        refine bodyPost_ret (zy rfl _ _ q 24 #[.int .i64 a1, .int .i64 a2, .slice Aou zW.length cou] (0, 0) _ rfl (by refine vt (cs := #[.int .i64 a1, .int .i64 a2, .slice Aou zW.length cou]) ?_ 2 _ rfl; refine vt (cs := #[.int .i64 a1, .int .i64 a2, .slice Aou zW.length cou]) ?_ 1 _ rfl; refine vt (cs := #[.int .i64 a1, .int .i64 a2, .slice Aou zW.length cou]) ?_ 0 _ rfl; exact d.out) Tryz.underlying24 rfl (by kernel_rfl)) rfl ?_
        exact ⟨_, re, Kd.vS (Kd.vU (Kd.wK (p := ⟨q, 2, none⟩) (Kd.wK (p := ⟨q, 1, none⟩) (Kd.wK (p := ⟨q, 0, none⟩) (Kd.xF HO_p.out) (fun k_ h_ => Nat.ne_of_gt (Nat.lt_of_lt_of_le (Nat.lt_trans LT8.out LTG.out) h_.2.1)) _) (fun k_ h_ => Nat.ne_of_gt (Nat.lt_of_lt_of_le (Nat.lt_trans LT8.out LTG.out) h_.2.1)) _) (fun k_ h_ => Nat.ne_of_gt (Nat.lt_of_lt_of_le (Nat.lt_trans LT8.out LTG.out) h_.2.1)) _) (fun _ _ => trivial)) (Nat.le_trans E.out (Nat.le_of_lt (Nat.lt_trans LT8.out LTG.out))), bl⟩
    ·rw [if_neg c5] at H
     exact nB H
   ·rw [if_neg c4] at H
    exact nB H
  ·rw [if_neg c3] at H
   exact nB H
 ·rw [if_neg c2] at H
  have i2 := beq_eq_false_iff_ne.mpr c2
  have i3 := bne_iff_ne.mpr c2
  simp only [Option.some.injEq, Prod.mk.injEq] at H
  obtain ⟨rfl, rfl, rfl, rfl, rfl⟩ := H
  go_enter Tryz.func25, Tryz.ntmps25
  go_wp2_with (first | ((with_reducible refine gd 8 rfl ?_); refine bx 8 #[.int .i64 0, .int .i64 0, .slice none 0 0] 24 rfl rfl ?_; intro q hg wA hbox hb; have n_ := aC (bs hb) (aC hbox (aE (gz hg))); clear HB; obtain ⟨HB, d, E⟩ := n_; clear hb hbox hg) | ((with_reducible refine gf 42 rfl ?_); refine gL (some 18) rfl rfl Tryz.func42 rfl #[.int .i64 a1, .int .i64 a2, .int .i64 0] rfl ?_; (with_reducible refine (wN.calls k a1 a2 0 t1 t2 t3 t4 _ A1.out).mono ?_); rintro e wB ⟨g8, rfl, ho, hb⟩; refine ⟨_, rfl, ?_⟩; have n_ := aC (vp (bU d.out) hb) (aC ho (aE (bs hb))); clear d HB ho hb; obtain ⟨d, x, HB⟩ := n_; obtain ⟨e0, e1, I⟩ := Kd.vY x.out; subst I; clear x) | ((with_reducible refine gd 11 rfl ?_); refine bx 11 #[.int .i64 0, .int .i64 0, .slice none 0 0] 24 rfl rfl ?_; intro e2 hg wC hbox hb; have n_ := aC (vp (bU d.out) hb) (aC (bs hb) (aC hbox (aC (gz hg) (aC (gn hg (bU d.out)) (aE (gm hg (bU d.out))))))); clear d HB; obtain ⟨d, HB, J, e3, r, t⟩ := n_; clear hb hbox hg; have d2 := t.out; have d3 := r.out; obtain ⟨L, M, O, T, X, Y⟩ := yk J.out; have BKo := d; obtain ⟨g0, g1, g2, g3, g4, g5⟩ := yk d.out))
  refine bodyPost_ret (zy rfl _ _ q 24 #[.int .i64 0, .int .i64 0, .slice none 0 0] (0, 0) _ rfl (by (with_reducible repeat first | apply vm | apply vn | apply vl); refine vt (cs := #[.int .i64 0, .int .i64 0, .slice none 0 0]) ?_ 2 _ rfl; (with_reducible repeat first | apply vm | apply vn | apply vl); refine vt (cs := #[.int .i64 0, .int .i64 0, .slice none 0 0]) ?_ 1 _ rfl; (with_reducible repeat first | apply vm | apply vn | apply vl); refine vt (cs := #[.int .i64 0, .int .i64 0, .slice none 0 0]) ?_ 0 _ rfl; (repeat refine wk ?_ r.out _); exact d.out) Tryz.underlying24 rfl (by kernel_rfl)) rfl ?_
  exact ⟨_, re, Kd.yu _ _ _ _ _, bl⟩
def ze.f (k : Nat) (l0 : List Int) (a1 a2 : Int) : Option (Int × Int × List Int × Int × Int) := xa.f k l0 a1 a2
theorem ze.mono : ∀ a0 a1 a2 k, vK (ze.f k a0 a1 a2) (ze.f (k + 1) a0 a1 a2) := xa.mono
theorem ze.calls (k : Nat) (A0 : Option Addr) (c0 : Nat) (l0 : List Int) (a1 : Int) (a2 : Int) (r1 : Int) (r2 : Int) (r3 : List Int) (r4 : Int) (r5 : Int) (w : World) (hr0 : Kd.C (Kd.int .u8) w A0 l0.length l0) (r : l0.length ≤ c0) (h : ze.f k l0 a1 a2 = some (r1, r2, r3, r4, r5)) :
  Calls Tryz.prog 9 #[.slice A0 l0.length c0, .int .i64 a1, .int .i64 a2] w fun e w' => ∃ s : Value, e = .returned (.tuple #[.agg #[.int .i64 r1, .int .i64 r2, s], .int .i64 r4, .int .i64 r5]) ∧ Kd.R (Kd.int .u8) 5 w' w.heap.size (fun _ => True) s r3 ∧ Below w.heap.size w w' := by
 have hu24 := Tryz.underlying24
 have I := aE hr0
 have J := aE r
 have A1 := aE (show xa.f k l0 a1 a2 = some (r1, r2, r3, r4, r5) from h)
 clear hr0 r h
 have HB := bR w
 go_enter Tryz.func9, Tryz.ntmps9
 go_wp2_with (first
  | ((with_reducible refine gd 6 rfl ?_); refine bx 6 #[.int .i64 0, .int .i64 0, .slice none 0 0] 24 rfl rfl ?_; intro j hg wA hbox hb; have n_ := aC (bs hb) (aC hbox (aE (gz hg))); clear HB; obtain ⟨HB, d, L⟩ := n_; clear hb hbox hg)
  | ((with_reducible refine gf 25 rfl ?_); refine gL (some 12) rfl rfl Tryz.func25 rfl #[.slice A0 l0.length c0, .int .i64 a1, .int .i64 a2, .func (.func 27) #[] #[]] rfl ?_; (with_reducible refine (xa.calls k A0 c0 l0 a1 a2 r1 r2 r3 r4 r5 _ (Kd.wz I.out bl) J.out A1.out).mono ?_); rintro e wB ⟨M, rfl, ho, hb⟩; refine ⟨_, rfl, ?_⟩; have n_ := aC (vp (bU d.out) hb) (aC ho (aC (zk d.out) (aE (bs hb)))); clear d HB ho hb; obtain ⟨d, q, LT8, HB⟩ := n_; obtain ⟨t, u, x⟩ := Kd.vY q.out; subst x; obtain ⟨y, z, B, D, E, G⟩ := yk d.out))
 refine bodyPost_ret (zy rfl _ _ j 24 #[.int .i64 r1, .int .i64 r2, .slice t r3.length u] (0, 0) _ rfl (by refine vt (cs := #[.int .i64 r1, .int .i64 r2, .slice none 0 0]) ?_ 2 _ rfl; refine vt (cs := #[.int .i64 r1, .int .i64 0, .slice none 0 0]) ?_ 1 _ rfl; refine vt (cs := #[.int .i64 0, .int .i64 0, .slice none 0 0]) ?_ 0 _ rfl; exact d.out) Tryz.underlying24 rfl (by kernel_rfl)) rfl ?_
 exact ⟨_, re, Kd.vS (Kd.vU (Kd.wK (p := ⟨j, 2, none⟩) (Kd.wK (p := ⟨j, 1, none⟩) (Kd.wK (p := ⟨j, 0, none⟩) (Kd.xF q.out) (fun k_ h_ => Nat.ne_of_gt (Nat.lt_of_lt_of_le LT8.out h_.2.1)) _) (fun k_ h_ => Nat.ne_of_gt (Nat.lt_of_lt_of_le LT8.out h_.2.1)) _) (fun k_ h_ => Nat.ne_of_gt (Nat.lt_of_lt_of_le LT8.out h_.2.1)) _) (fun _ _ => trivial)) (Nat.le_trans L.out (Nat.le_of_lt LT8.out)), bl⟩
end Go.Proofs.YtknclbodinfbeaaGreatDoor.PRunsBack
