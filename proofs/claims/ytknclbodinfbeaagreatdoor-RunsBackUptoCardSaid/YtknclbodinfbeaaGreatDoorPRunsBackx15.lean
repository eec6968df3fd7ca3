-- printed (wip/tools/myprint.py)
import Derived.Test.YtknclbodinfbeaaGreatDoorPRunsBackx0
import Derived.Test.YtknclbodinfbeaaGreatDoorPRunsBackx3
import Derived.Test.YtknclbodinfbeaaGreatDoorPRunsBackx5
import Derived.Test.YtknclbodinfbeaaGreatDoorPRunsBackx9
import Derived.Test.YtknclbodinfbeaaGreatDoorPRunsBackx11
import Derived.Test.YtknclbodinfbeaaGreatDoorPRunsBackx13
import Derived.Test.YtknclbodinfbeaaGreatDoorPRunsBackx14
namespace Go.Proofs.YtknclbodinfbeaaGreatDoor.PRunsBack
open Go.RowKit Go.Proofs.YtknclbodinfbeaaGreatDoorW.PrintWords Go.Proofs.YtknclbodinfbeaaGreatDoorW.PrintLast Go.Proofs.YtknclbodinfbeaaGreatDoorW.PrintMore
attribute [local go_sem] yo ym yC yD xU xT yn yq
set_option linter.unusedVariables false
set_option linter.unusedSimpArgs false
set_option maxHeartbeats 16000000
set_option maxRecDepth 100000
theorem qY.calls (A0 : Option Addr) (c0 : Nat) (l0 : List Int) (w : World) (hr0 : Kd.C (Kd.int .u8) w A0 l0.length l0) (s : l0.length ≤ c0) (hl : l0.length < 140737488355328) :
 Calls Tryz.prog 60 #[.slice A0 l0.length c0] w fun e w' => ∃ (gr : Nat) (A : Option Addr) (c : Nat), e = .returned (.pointer (some ⟨gr, 0, none⟩)) ∧ w'.heap[gr]? = some (.cells #[.slice A l0.length c, .int .i64 0, .bool true] 110 (0, 0)) ∧ Kd.R (Kd.int .u8) 5 w' w.heap.size (fun k_ => k_ < gr) (.slice A l0.length c) l0 ∧ w.heap.size ≤ gr ∧ Below w.heap.size w w' := by
 have hu110 := Tryz.underlying110
 have y := aE hr0
 have D := aE s
 clear hr0 s
 have HB := bR w
 obtain ⟨d, hy_⟩ : ∃ y_ : List Int, y_ = (([] : List Int)) := ⟨_, rfl⟩
 have j := aE hy_
 have hl' : d.length + l0.length < 140737488355328 := by rw [hy_]; simpa using hl
 have e0 : d ++ l0 = l0 := by rw [hy_]; rfl
 clear hy_
 go_enter Tryz.func60, Tryz.ntmps60
 go_wp2_with (first | ((with_reducible refine gd 3 rfl ?_); refine Kd.zZ (Kd.int .u8) _ 5 ?hg (N := 3) ?hd (xs := ([] : List Int)) (inner := []) (ok := fun _ => True) (okp := fun _ => True) ?hr ?hp (fun _ hk => hk) trivial (Below.refl _ _) (Nat.le_refl _) (by simp) ?_; (case hd => rfl); (case hg => rfl); (case hr => first | (go_simp; done) | (go_simp; rfl)); (case hp => exact (xe.none _ _)); intro t w5 k hb hg_ hnew_; clear hg_ hnew_; (first | rw [← j.out] at k | (simp only [Int.reduceToNat] at k; rw [← j.out] at k)); have n_ := aC (Kd.vS k bz) (aE (bs hb)); clear HB; obtain ⟨q, HB⟩ := n_; clear hb k) | ((with_reducible refine wU (b := .append) (xs := #[.tmp 3, .tmp 4]) rfl ?_); at_builtin; refine Kd.xO (Kd.int .u8) (w0 := w) w.heap.size rfl (.tmp 3) (.tmp 4) 22 5 (.int .u8 0) 1 rfl Tryz.underlying22 info5 rfl (by decide) (by omega) t d l0 _ _ _ (fun _ => True) (fun _ => False) rfl rfl ?aO ?aR (fun _ _ h => h) (fun _ h => h.elim) ?aF ?aB ?aS ?aL ?_; (case aR => repeat (first | exact (Kd.wz y.out HB.out) | (with_reducible refine Kd.yi ?_ _) | (with_reducible refine Kd.yg ?_ _) | (with_reducible refine Kd.yr ?_))); (case aB => exact bl); (case aF => exact (fun _ _ => trivial)); (case aO => exact (rU q.out)); (case aS => exact bz); (case aL => omega); intro B w7 ho hb hg hat; rw [e0] at ho; have n_ := aC hb (aE ho); clear HB q; obtain ⟨HB, r⟩ := n_; clear ho hb hg hat; obtain ⟨u, x, z⟩ := Kd.vY r.out; subst z) | ((with_reducible refine gd 7 rfl ?_); refine bx 7 #[.slice u l0.length x, .int .i64 0, .bool true] 110 rfl rfl ?_; intro gr hg w9 hbox hb; have n_ := aC hbox (aC (Kd.vU (Kd.wg (Kd.xF r.out) hb) (fun k_ hk => show k_ < gr by rw [hg]; exact hk.2.2.1)) (aC (show w.heap.size ≤ gr by rw [hg]; exact bz) (aE (bs hb)))); obtain ⟨IS, HR, HG, HB2⟩ := n_; clear hbox))
 go_ret
 exact ⟨gr, u, x, by rw [hg]; rfl, IS.out, HR.out, HG.out, HB2.out⟩
def Kb (B g : Nat) (w W_ : World) : Prop := w.heap.size ≤ W_.heap.size ∧ ∀ i, B ≤ i → i < w.heap.size → i ≠ g → W_.heap[i]? = w.heap[i]?
theorem Kb.refl (B g : Nat) (w : World) : Kb B g w w := ⟨Nat.le_refl _, fun _ _ _ _ => rfl⟩
theorem Kb.trans {B g : Nat} {w w1 w2 : World} (h : Kb B g w w1) (k : Kb B g w1 w2) : Kb B g w w2 := ⟨Nat.le_trans h.1 k.1, fun i h1 h2 h3 => (k.2 i h1 (Nat.lt_of_lt_of_le h2 h.1) h3).trans (h.2 i h1 h2 h3)⟩
theorem Kb.js {B g : Nat} {w w1 : World} (k : vr w w1 g none) : Kb B g w w1 := ⟨k.1, fun i _ h2 h3 => k.2 i h2 h3 (by simp)⟩
theorem Kb.of_below {B g : Nat} {w w1 : World} (k : Below w.heap.size w w1) : Kb B g w w1 := Kb.js (vr.of_below k g none)
def qi (B g gx : Nat) (U C0 C1 : List wb × List ByteArray) (ws : List ByteArray) (w : World) : Prop :=
 ∃ (a1 a2 a3 a4 a5 a6 a7 : Option Addr) (c1 c2 c3 c4 c5 c6 c7 : Nat),
  (U.1.length ≤ c1 ∧ U.2.length ≤ c2 ∧ C0.1.length ≤ c3 ∧ C0.2.length ≤ c4 ∧ C1.1.length ≤ c5 ∧ C1.2.length ≤ c6 ∧ ws.length ≤ c7) ∧
  ((∀ ad, a2 = some ad → 0 < U.2.length → ad.block ≠ g) ∧ (∀ ad, a4 = some ad → 0 < C0.2.length → ad.block ≠ g) ∧ (∀ ad, a6 = some ad → 0 < C1.2.length → ad.block ≠ g) ∧ (∀ ad, a7 = some ad → 0 < ws.length → ad.block ≠ g)) ∧
  ∀ W_ : World, Kb B g w W_ →
   W_.heap[gx]? = some (.cells #[.pointer (some ⟨g, 0, none⟩), .slice a1 U.1.length c1, .slice a2 U.2.length c2, .slice a3 C0.1.length c3, .slice a4 C0.2.length c4, .slice a5 C1.1.length c5, .slice a6 C1.2.length c6, .slice a7 ws.length c7] 84 (0, 0)) ∧
   Kd.C yj W_ a1 U.1.length U.1 ∧ Kd.C Kd.string W_ a2 U.2.length U.2 ∧ Kd.C yj W_ a3 C0.1.length C0.1 ∧ Kd.C Kd.string W_ a4 C0.2.length C0.2 ∧ Kd.C yj W_ a5 C1.1.length C1.1 ∧ Kd.C Kd.string W_ a6 C1.2.length C1.2 ∧ Kd.C Kd.string W_ a7 ws.length ws
theorem qi.old {B g gx : Nat} {U C0 C1 : List wb × List ByteArray} {ws : List ByteArray} {w : World} (h : qi B g gx U C0 C1 ws w) : Xok g gx U C0 C1 ws w := by
 obtain ⟨a1, a2, a3, a4, a5, a6, a7, c1, c2, c3, c4, c5, c6, c7, hl, hf, hW⟩ := h
 exact ⟨a1, a2, a3, a4, a5, a6, a7, c1, c2, c3, c4, c5, c6, c7, hl, hf, fun W_ q => hW W_ (Kb.js q)⟩
theorem qi.kb {B g gx : Nat} {U C0 C1 : List wb × List ByteArray} {ws : List ByteArray} {w w' : World} (h : qi B g gx U C0 C1 ws w) (k : Kb B g w w') : qi B g gx U C0 C1 ws w' := by
 obtain ⟨a1, a2, a3, a4, a5, a6, a7, c1, c2, c3, c4, c5, c6, c7, hl, hf, hW⟩ := h
 exact ⟨a1, a2, a3, a4, a5, a6, a7, c1, c2, c3, c4, c5, c6, c7, hl, hf, fun W_ q => hW W_ (k.trans q)⟩
theorem qi.cell0 {B g gx : Nat} {U C0 C1 : List wb × List ByteArray} {ws : List ByteArray} {w : World} (h : qi B g gx U C0 C1 ws w) : ∀ W_, Kb B g w W_ → W_.cell? ⟨gx, 0, none⟩ = some (.pointer (some ⟨g, 0, none⟩)) := by
 obtain ⟨a1, a2, a3, a4, a5, a6, a7, c1, c2, c3, c4, c5, c6, c7, hl, hf, hW⟩ := h
 exact fun W_ q => (cz8 (hW W_ q).1).1
def St (w : World) (g : Nat) (l0 : List Int) (p : Int) (o : Bool) : Prop := ∃ A c, w.heap[g]? = some (.cells #[.slice A l0.length c, .int .i64 p, .bool o] 110 (0, 0)) ∧ Kd.C (Kd.int .u8) w A l0.length l0 ∧ ∀ ad, A = some ad → 0 < l0.length → ad.block < g
def zu.f (k : Nat) : Option ((List wb × List ByteArray) × (List wb × List ByteArray) × (List wb × List ByteArray) × List ByteArray) :=
 (xX.f k 0).bind fun t => (wL.f k t.1).bind fun U => (zb.f 0).bind fun a => (wL.f k a).bind fun C0 => (zb.f 1).bind fun b => (wL.f k b).bind fun C1 => (zn.f).bind fun u => some (U, C0, C1, ([(⟨#[48, 48, 48, 49]⟩ : ByteArray), (⟨#[48, 48, 49]⟩ : ByteArray)] ++ u))
def cutAt (w : World) (g : Nat) : World := { w with heap := w.heap.extract 0 g }
theorem jb {w : World} {g : Nat} (h : g ≤ w.heap.size) : (cutAt w g).heap.size = g := by
 show (w.heap.extract 0 g).size = g
 simp; omega
theorem qg {w : World} {g i : Nat} (h : g ≤ w.heap.size) (hi : i < g) : (cutAt w g).heap[i]? = w.heap[i]? := by
 show (w.heap.extract 0 g)[i]? = w.heap[i]?
 rw [Array.getElem?_extract]; simp [hi]; omega
theorem qq {w : World} {g : Nat} (h : g ≤ w.heap.size) : Below (cutAt w g).heap.size (cutAt w g) w := by
 refine ⟨rfl, rfl, rfl, by rw [jb h]; exact h, fun k hk => ?_⟩
 rw [jb h] at hk
 exact (qg h hk).symm
theorem C_by {α : Type} {d : Kd α} {W W' : World} {A : Option Addr} {n : Nat} {xs : List α} (hd : ∀ {W W' : World} {x : α} {cs : List Value}, d.K W x cs → d.K W' x cs) (h : d.C W A n xs) (hs : ∀ ad, A = some ad → 0 < n → W'.heap[ad.block]? = W.heap[ad.block]?) : d.C W' A n xs := by
 refine ⟨h.1, h.2.1, fun hn => ?_⟩
 obtain ⟨ad, he, hc⟩ := h.2.2 hn
 refine ⟨ad, he, fun j p hj => ?_⟩
 obtain ⟨cs, h1, h2, h3⟩ := hc j p hj
 refine ⟨cs, h1, hd h2, fun i u hu => ?_⟩
 rw [← h3 i u hu]
 have hb : ∀ m, (ad.add m).block = ad.block := fun m => by rw [add_block]
 simp only [World.cell?, hb, add_block, hs ad he hn]
theorem u8K {W W' : World} {x : Int} {cs : List Value} (h : (Kd.int .u8).K W x cs) : (Kd.int .u8).K W' x cs := h
theorem St.lt {w : World} {g : Nat} {l0 : List Int} {p : Int} {o : Bool} (h : St w g l0 p o) : g < w.heap.size := by
 obtain ⟨A, c, hb, _, _⟩ := h
 exact zk hb
theorem St.to {w : World} {g : Nat} {l0 : List Int} {p : Int} {o : Bool} (h : St w g l0 p o) : vo (cutAt w g) w g l0 p o ∧ Below (cutAt w g).heap.size (cutAt w g) w ∧ (cutAt w g).heap.size = g := by
 have hlt := Nat.le_of_lt h.lt
 obtain ⟨A, c, hb, hc, hg⟩ := h
 exact ⟨⟨A, c, hb, Nat.le_of_eq (jb hlt), C_by u8K hc (fun ad e hn => qg hlt (hg ad e hn))⟩, qq hlt, jb hlt⟩
theorem St.of {w0 w : World} {g : Nat} {l0 : List Int} {p : Int} {o : Bool} (h : vo w0 w g l0 p o) (hB : Below w0.heap.size w0 w) (hs : w0.heap.size = g) : St w g l0 p o := by
 obtain ⟨A, c, hb, _, hc⟩ := h
 exact ⟨A, c, hb, Kd.wz hc hB, fun ad e hn => hs ▸ Kd.C_lt (e ▸ hc) hn (by decide)⟩
theorem St.same {w w' : World} {g : Nat} {l0 : List Int} {p : Int} {o : Bool} (h : St w g l0 p o) (hs : ∀ i, i ≤ g → w'.heap[i]? = w.heap[i]?) : St w' g l0 p o := by
 obtain ⟨A, c, hb, hc, hg⟩ := h
 exact ⟨A, c, (hs g (Nat.le_refl _)).trans hb, C_by u8K hc (fun ad e hn => hs _ (Nat.le_of_lt (hg ad e hn))), hg⟩
theorem St.below {w w' : World} {g : Nat} {l0 : List Int} {p : Int} {o : Bool} (h : St w g l0 p o) (hB : Below w.heap.size w w') : St w' g l0 p o := h.same (fun i hi => hB.block i (Nat.lt_of_le_of_lt hi h.lt))
theorem St.put {w : World} {g gb : Nat} {l0 : List Int} {p : Int} {o : Bool} {cs : Array Value} {t : TypeId} (h : St w g l0 p o) (hb : w.heap[gb]? = some (.cells cs t (0, 0))) (hn : noInt .u8 cs = true) (hne : g ≠ gb) (j : Nat) (v : Value) : St (w.setCell ⟨gb, j, none⟩ v) g l0 p o := by
 obtain ⟨A, c, h1, hc, hg⟩ := h
 exact ⟨A, c, (Below.heap_setCell w ⟨gb, j, none⟩ v g hne).trans h1, cO hb hn hc, hg⟩
theorem zu.calls (k : Nat) (A0 : Option Addr) (c0 : Nat) (l0 : List Int) (U C0 C1 : List wb × List ByteArray) (ws : List ByteArray) (w : World) (hr0 : Kd.C (Kd.int .u8) w A0 l0.length l0) (y : l0.length ≤ c0) (hl : l0.length < 140737488355328) (h : zu.f k = some (U, C0, C1, ws)) :
 Calls Tryz.prog 43 #[.slice A0 l0.length c0] w fun e w' => ∃ (g gx : Nat) (w0 : World), e = .returned (.pointer (some ⟨gx, 0, none⟩)) ∧ vo w0 w' g l0 0 true ∧ qi w.heap.size g gx U C0 C1 ws w' ∧ Below w0.heap.size w0 w' ∧ w0.heap.size = g ∧ Below w.heap.size w w' ∧ w.heap.size ≤ g ∧ g < gx ∧ gx < w'.heap.size := by
 have hu84 := Tryz.underlying84
 have hu81 := Tryz.underlying81
 have hu82 := Tryz.underlying82
 unfold zu.f at h
 obtain ⟨⟨t, te⟩, A1, h⟩ := Option.bind_eq_some_iff.mp h
 obtain ⟨⟨U1, U2⟩, A2, h⟩ := Option.bind_eq_some_iff.mp h
 obtain ⟨t2, A3, h⟩ := Option.bind_eq_some_iff.mp h
 obtain ⟨⟨D1, D2⟩, A4, h⟩ := Option.bind_eq_some_iff.mp h
 obtain ⟨t3, A5, h⟩ := Option.bind_eq_some_iff.mp h
 obtain ⟨⟨E1, E2⟩, A6, h⟩ := Option.bind_eq_some_iff.mp h
 obtain ⟨u, A7, h⟩ := Option.bind_eq_some_iff.mp h
 obtain ⟨yy, hyy⟩ : ∃ yy : List ByteArray, yy = [(⟨#[48, 48, 48, 49]⟩ : ByteArray), (⟨#[48, 48, 49]⟩ : ByteArray)] := ⟨_, rfl⟩
 rw [← hyy] at h
 simp only [Option.some.injEq, Prod.mk.injEq] at h
 obtain ⟨rfl, rfl, rfl, rfl⟩ := h
 have hul : u.length = 7 := by
  have := Option.some.inj A7
  rw [← this]; rfl
 have hll : yy.length = 2 := by rw [hyy]; rfl
 have Nyy := aE hyy
 clear hyy
 have n_ := aC hr0 (aC y (aC hl (aC A1 (aC A2 (aC A3 (aC A4 (aC A5 (aC A6 (aC A7 (aC hul (aC hll (aE (Below.refl w.heap.size w)))))))))))))
 clear hr0 y hl A1 A2 A3 A4 A5 A6 A7 hul hll
 obtain ⟨G, I, HL0, A1, A2, A3, A4, A5, A6, A7, HUL, HLL, HB⟩ := n_
 go_enter Tryz.func43, Tryz.ntmps43
 go_wp2_with (first
  | ((with_reducible refine gf 35 rfl ?_); refine gL (some 6) rfl rfl Tryz.func35 rfl #[.int .i64 0] rfl ?_; (with_reducible refine (xX.calls k 0 t te _ A1.out).mono ?_); rintro e w1 ⟨v1, rfl, ho, hb⟩; refine ⟨_, rfl, ?_⟩; have n_ := aC (Kd.vS (Kd.vU (Kd.xF ho) (fun k_ hk => show k_ < w1.heap.size from hk.2.2.1)) bz) (aC (show w.heap.size ≤ w1.heap.size from (bs hb).size) (aE (bs hb))); clear HB; obtain ⟨HT, HGE0, HB⟩ := n_; clear ho hb; obtain ⟨At, ct, et⟩ := Kd.vY HT.out; subst et)
  | ((with_reducible refine gf 60 rfl ?_); refine gL (some 10) rfl rfl Tryz.func60 rfl #[.slice A0 l0.length c0] rfl ?_; (with_reducible refine (qY.calls A0 c0 l0 _ (Kd.wz G.out HB.out) I.out HL0.out).mono ?_); rintro e w3 ⟨gr, J, L, rfl, hcell, hrow, hge, hb⟩; refine ⟨_, rfl, ?_⟩; have n_ := aC hcell (aC (Kd.vU (Kd.xF hrow) (fun k_ hk => show k_ < gr ∧ w1.heap.size ≤ k_ from ⟨hk.1, hk.2.1⟩)) (aC hge (aC (zk hcell) (aC (Kd.wg HT.out hb) (aE (bs hb)))))); clear HB HT; obtain ⟨HCELL, HROW, HGE, HLT, HT, HB⟩ := n_; clear hcell hrow hge hb)
  | ((with_reducible refine gf 61 rfl ?_); refine gL (some 12) rfl rfl Tryz.func61 rfl #[.slice At t.length ct] rfl ?_; (with_reducible refine (wL.calls k (fun k_ => k_ < w1.heap.size) _ t U1 U2 w _ HB.out HT.out A2.out).mono ?_); rintro e w4 ⟨v2, v3, rfl, d, j, hb, hk⟩; refine ⟨_, rfl, ?_⟩; have n_ := aC ((hk.2 gr HLT.out (Nat.not_lt.mpr HGE.out)).trans HCELL.out) (aC (Kd.R_kept HROW.out hk (fun k_ h_ => Nat.not_lt.mpr h_.2)) (aC (Nat.lt_of_lt_of_le HLT.out hk.1) (aC (Kd.vU d (fun k_ h_ => show k_ ≠ gr from h_.elim (fun q => Nat.ne_of_lt (Nat.lt_of_lt_of_le q HGE.out)) (fun q => Nat.ne_of_gt (Nat.lt_of_lt_of_le HLT.out q)))) (aC (Kd.vU j (fun k_ h_ => show k_ ≠ gr from h_.elim (fun q => Nat.ne_of_lt (Nat.lt_of_lt_of_le q HGE.out)) (fun q => Nat.ne_of_gt (Nat.lt_of_lt_of_le HLT.out q)))) (aE hb))))); clear HB HT HCELL HROW HLT d j hb hk; obtain ⟨HCELL, HROW, HLT, HU1, HU2, HB⟩ := n_; obtain ⟨Au, cu, eu⟩ := Kd.vY HU1.out; subst eu; obtain ⟨Av, cv, ev⟩ := Kd.vY HU2.out; subst ev)
  | ((with_reducible refine gf 37 rfl ?_); refine gL (some 13) rfl rfl Tryz.func37 rfl #[.int .i64 0] rfl ?_; (with_reducible refine (zb.calls 0 t2 _ A3.out).mono ?_); rintro e w5 ⟨v4, rfl, ho, z⟩; refine ⟨_, rfl, ?_⟩; have HB5 := aE z; have B := aE ho; clear ho z)
  | ((with_reducible refine gf 61 rfl ?_); refine gL (some 14) rfl rfl Tryz.func61 rfl #[v4] rfl ?_; (with_reducible refine (wL.calls k (fun _ => True) v4 t2 D1 D2 w4 _ HB5.out B.out A4.out).mono ?_); rintro e w6 ⟨v5, v6, rfl, d, j, hb, hk⟩; refine ⟨_, rfl, ?_⟩; have n_ := aC (vp HCELL.out hb) (aC (Kd.wg HROW.out hb) (aC (Nat.lt_of_lt_of_le HLT.out hb.size) (aC (Kd.wg HU1.out hb) (aC (Kd.wg HU2.out hb) (aC (Kd.vS (Kd.vU (Kd.xF d) (fun k_ h_ => show k_ ≠ gr from Nat.ne_of_gt (Nat.lt_of_lt_of_le HLT.out h_.2.1))) HB.out.size) (aC (Kd.vS (Kd.vU (Kd.xF j) (fun k_ h_ => show k_ ≠ gr from Nat.ne_of_gt (Nat.lt_of_lt_of_le HLT.out h_.2.1))) HB.out.size) (aE (bs hb)))))))); clear HB HCELL HROW HLT HU1 HU2 d j hb hk HB5 B; obtain ⟨HCELL, HROW, HLT, HU1, HU2, HD1, HD2, HB⟩ := n_; obtain ⟨Ad, cd, ed⟩ := Kd.vY HD1.out; subst ed; obtain ⟨Af, cf, ef⟩ := Kd.vY HD2.out; subst ef)
  | ((with_reducible refine gf 37 rfl ?_); refine gL (some 15) rfl rfl Tryz.func37 rfl #[.int .i64 1] rfl ?_; (with_reducible refine (zb.calls 1 t3 _ A5.out).mono ?_); rintro e w7 ⟨v7, rfl, ho, D⟩; refine ⟨_, rfl, ?_⟩; have HB7 := aE D; have E := aE ho; clear ho D)
  | ((with_reducible refine gf 61 rfl ?_); refine gL (some 16) rfl rfl Tryz.func61 rfl #[v7] rfl ?_; (with_reducible refine (wL.calls k (fun _ => True) v7 t3 E1 E2 w6 _ HB7.out E.out A6.out).mono ?_); rintro e w8 ⟨v8, v9, rfl, d, j, hb, hk⟩; refine ⟨_, rfl, ?_⟩; have n_ := aC (vp HCELL.out hb) (aC (Kd.wg HROW.out hb) (aC (Nat.lt_of_lt_of_le HLT.out hb.size) (aC (Kd.wg HU1.out hb) (aC (Kd.wg HU2.out hb) (aC (Kd.wg HD1.out hb) (aC (Kd.wg HD2.out hb) (aC (Kd.vS (Kd.vU (Kd.xF d) (fun k_ h_ => show k_ ≠ gr from Nat.ne_of_gt (Nat.lt_of_lt_of_le HLT.out h_.2.1))) HB.out.size) (aC (Kd.vS (Kd.vU (Kd.xF j) (fun k_ h_ => show k_ ≠ gr from Nat.ne_of_gt (Nat.lt_of_lt_of_le HLT.out h_.2.1))) HB.out.size) (aE (bs hb)))))))))); clear HB HCELL HROW HLT HU1 HU2 HD1 HD2 d j hb hk HB7 E; obtain ⟨HCELL, HROW, HLT, HU1, HU2, HD1, HD2, HE1, HE2, HB⟩ := n_; obtain ⟨Ae, ce, ee⟩ := Kd.vY HE1.out; subst ee; obtain ⟨Ah, ch, eh⟩ := Kd.vY HE2.out; subst eh)
  | ((with_reducible refine gd 18 rfl ?_); refine Kd.zZ Kd.string _ 9 ?hg (N := 18) ?hd (xs := ([(⟨#[48, 48, 48, 49]⟩ : ByteArray), (⟨#[48, 48, 49]⟩ : ByteArray)] : List ByteArray)) (inner := [.string (⟨#[48, 48, 48, 49]⟩ : ByteArray), .string (⟨#[48, 48, 49]⟩ : ByteArray)]) (ok := fun _ => True) (okp := fun _ => True) ?hr ?hp (fun _ hk => hk) trivial (Below.refl _ _) (Nat.le_refl _) (by simp) ?_; (case hd => rfl); (case hg => rfl); (case hr => first | (go_simp; done) | (go_simp; rfl)); (case hp => exact (xe.one (show Kd.M Kd.string _ _ _ (⟨#[48, 48, 48, 49]⟩ : ByteArray) [.string (⟨#[48, 48, 48, 49]⟩ : ByteArray)] from rfl) (xe.one (show Kd.M Kd.string _ _ _ (⟨#[48, 48, 49]⟩ : ByteArray) [.string (⟨#[48, 48, 49]⟩ : ByteArray)] from rfl) (xe.none _ _)))); intro O w9 d hb hg_ hnew_; clear hg_ hnew_; (first | rw [← Nyy.out] at d | (simp only [Int.reduceToNat] at d; rw [← Nyy.out] at d)); have r := aE d; have HB9 := aE hb; clear d hb)
  | ((with_reducible refine gf 41 rfl ?_); refine gL (some 19) rfl rfl Tryz.func41 rfl #[] rfl ?_; (with_reducible refine (zn.calls u _ A7.out).mono ?_); rintro e T ⟨X, rfl, ho, hb⟩; refine ⟨_, rfl, ?_⟩; have n_ := aC ho (aC (Kd.wg r.out hb) (aE (xu HB9.out hb))); clear r HB9 ho hb; obtain ⟨s, r, HB9⟩ := n_; obtain ⟨Ai, ci, ei⟩ := Kd.vY s.out; subst ei)
  | ((with_reducible refine wU (b := .append) (xs := #[.tmp 18, .tmp 19]) rfl ?_); at_builtin; refine Kd.xO Kd.string (w0 := w8) w8.heap.size rfl (.tmp 18) (.tmp 19) 37 9 (.string ⟨#[]⟩) 16 rfl Tryz.underlying37 info9 rfl (by decide) (by omega) O yy u _ _ _ (fun _ => True) (fun _ => False) rfl rfl ?aO ?aR (fun _ _ h => h) (fun _ h => h.elim) ?aF ?aB ?aS ?aL ?_; (case aR => exact (Kd.R_reads' s.out).2.2); (case aB => exact HB9.out); (case aF => exact (fun _ _ => trivial)); (case aO => exact r.out); (case aS => exact HB9.out.size); (case aL => have Y := HUL.out; have Z := HLL.out; omega); intro a0 a1 ho hb hg hat; have n_ := aC (vp HCELL.out hb) (aC (Kd.wg HROW.out hb) (aC (Nat.lt_of_lt_of_le HLT.out hb.size) (aC (Kd.wg HU1.out hb) (aC (Kd.wg HU2.out hb) (aC (Kd.wg HD1.out hb) (aC (Kd.wg HD2.out hb) (aC (Kd.wg HE1.out hb) (aC (Kd.wg HE2.out hb) (aC (Kd.vS (Kd.vU (Kd.xF ho) (fun k_ h_ => show k_ ≠ gr from Nat.ne_of_gt (Nat.lt_of_lt_of_le HLT.out h_.2.1))) HB.out.size) (aE (bs hb))))))))))); clear HB HCELL HROW HLT HU1 HU2 HD1 HD2 HE1 HE2 ho hb hg hat r s HB9; obtain ⟨HCELL, HROW, HLT, HU1, HU2, HD1, HD2, HE1, HE2, HW, HB⟩ := n_; obtain ⟨Aj, cj, ej⟩ := Kd.vY HW.out; subst ej)
  | ((with_reducible refine gd 22 rfl ?_); refine bx 22 #[.pointer (some ⟨gr, 0, none⟩), .slice Au U1.length cu, .slice Av U2.length cv, .slice Ad D1.length cd, .slice Af D2.length cf, .slice Ae E1.length ce, .slice Ah E2.length ch, .slice Aj (yy ++ u).length cj] 84 rfl rfl ?_; intro gx hg x hbox hb; have n_ := aC hbox (aC (show gx = _ from hg) (aE hb)); clear hbox hb; obtain ⟨HBOX, HGX, HB12⟩ := n_))
 go_ret
 have hB := HB12.out
 have hlt : gr < gx := by rw [HGX.out]; exact HLT.out
 have hsz : gx < x.heap.size := zk HBOX.out
 have hne : gx ≠ gr := Nat.ne_of_gt hlt
 have hle : gr ≤ x.heap.size := by omega
 have hge0 : w.heap.size ≤ gr := Nat.le_trans HGE0.out HGE.out
 refine ⟨gr, gx, by rw [HGX.out]; rfl, cutAt x gr, ⟨J, L, vp HCELL.out hB, Nat.le_of_eq (jb hle), ?_⟩, ⟨Au, Av, Ad, Af, Ae, Ah, Aj, cu, cv, cd, cf, ce, ch, cj, ⟨?_, ?_, ?_, ?_, ?_, ?_, ?_⟩, ⟨?_, ?_, ?_, ?_⟩, fun W_ hk => ⟨(hk.2 gx (Nat.le_trans hge0 (Nat.le_of_lt hlt)) hsz hne).trans HBOX.out, ?_, ?_, ?_, ?_, ?_, ?_, ?_⟩⟩, qq hle, jb hle, bs hB, ?_, hlt, hsz⟩
 ·exact (Kd.R_reads' (Kd.kB (Kd.wg HROW.out hB) (fun k_ h_ => qg hle h_.1))).2.2
 ·exact (Kd.R_reads' HU1.out).2.1
 ·exact (Kd.R_reads' HU2.out).2.1
 ·exact (Kd.R_reads' HD1.out).2.1
 ·exact (Kd.R_reads' HD2.out).2.1
 ·exact (Kd.R_reads' HE1.out).2.1
 ·exact (Kd.R_reads' HE2.out).2.1
 ·exact (Kd.R_reads' HW.out).2.1
 ·intro ad ha _; exact HU2.out.1 _ (by rw [ha]; rfl)
 ·intro ad ha _; exact HD2.out.1 _ (by rw [ha]; rfl)
 ·intro ad ha _; exact HE2.out.1 _ (by rw [ha]; rfl)
 ·intro ad ha _; exact HW.out.1 _ (by rw [ha]; rfl)
 ·exact (Kd.R_reads' (Kd.zo (Kd.xF (Kd.wg HU1.out hB)) (fun k_ ho hl_ => hk.2 k_ ho.2.1 hl_ ho.1))).2.2
 ·exact (Kd.R_reads' (Kd.zo (Kd.xF (Kd.wg HU2.out hB)) (fun k_ ho hl_ => hk.2 k_ ho.2.1 hl_ ho.1))).2.2
 ·exact (Kd.R_reads' (Kd.zo (Kd.xF (Kd.wg HD1.out hB)) (fun k_ ho hl_ => hk.2 k_ ho.2.1 hl_ ho.1))).2.2
 ·exact (Kd.R_reads' (Kd.zo (Kd.xF (Kd.wg HD2.out hB)) (fun k_ ho hl_ => hk.2 k_ ho.2.1 hl_ ho.1))).2.2
 ·exact (Kd.R_reads' (Kd.zo (Kd.xF (Kd.wg HE1.out hB)) (fun k_ ho hl_ => hk.2 k_ ho.2.1 hl_ ho.1))).2.2
 ·exact (Kd.R_reads' (Kd.zo (Kd.xF (Kd.wg HE2.out hB)) (fun k_ ho hl_ => hk.2 k_ ho.2.1 hl_ ho.1))).2.2
 ·exact (Kd.R_reads' (Kd.zo (Kd.xF (Kd.wg HW.out hB)) (fun k_ ho hl_ => hk.2 k_ ho.2.1 hl_ ho.1))).2.2
 ·exact hge0
theorem kc : zu.f 200 = some (tU, qf, qk, tW) := by kernel_rfl
theorem qi.mono {B B' g gx : Nat} {U C0 C1 : List wb × List ByteArray} {ws : List ByteArray} {w : World} (h : qi B g gx U C0 C1 ws w) (hB : B' ≤ B) : qi B' g gx U C0 C1 ws w := by
 obtain ⟨a1, a2, a3, a4, a5, a6, a7, c1, c2, c3, c4, c5, c6, c7, hl, hf, hW⟩ := h
 exact ⟨a1, a2, a3, a4, a5, a6, a7, c1, c2, c3, c4, c5, c6, c7, hl, hf, fun W_ q => hW W_ ⟨q.1, fun i h1 h2 h3 => q.2 i (Nat.le_trans hB h1) h2 h3⟩⟩
theorem St.off {w w' : World} {g gb : Nat} {l0 : List Int} {p : Int} {o : Bool} {cs : Array Value} {t : TypeId} (h : St w g l0 p o) (hb : w.heap[gb]? = some (.cells cs t (0, 0))) (hn : noInt .u8 cs = true) (hne : gb ≠ g) [u : WOff gb w w'] : St w' g l0 p o := by
 have hlt := h.lt
 obtain ⟨A, c, h1, hc, hg⟩ := h
 exact ⟨A, c, (u.off.2 g hlt hne.symm).trans h1, cO hb hn hc, hg⟩
theorem Kb.off {w w' : World} {g gb : Nat} [u : WOff gb w w'] : Kb (gb + 1) g w w' := ⟨u.off.1, fun i h1 h2 _ => u.off.2 i h2 (by omega)⟩
theorem Kb.grown {B g : Nat} {w W W2 : World} {row : Option Nat} (h : Kb B g w W) (hg : W.grownBy W2 row) (hr : ∀ k, row = some k → w.heap.size ≤ k) : Kb B g w W2 :=
 ⟨Nat.le_trans h.1 hg.size, fun i h1 h2 h3 => (hg.block i (Nat.lt_of_lt_of_le h2 h.1) (fun e => absurd (hr i e.symm) (Nat.not_le.mpr h2))).trans (h.2 i h1 h2 h3)⟩
theorem St.grown {w W2 : World} {g : Nat} {l0 : List Int} {p : Int} {o : Bool} {row : Option Nat} (h : St w g l0 p o) (hg : w.grownBy W2 row) (hr : ∀ k, row = some k → g < k) : St W2 g l0 p o :=
 h.same (fun i hi => hg.block i (Nat.lt_of_le_of_lt hi h.lt) (fun e => absurd (hr i e.symm) (Nat.not_lt.mpr hi)))
theorem z7 {B g : Nat} {w W W2 : World} {n : Nat} (h : Below B w W) (hB : B ≤ w.heap.size) (hb : Below n (cutAt W g) W2) (hk : vr W W2 g none) (hg : B ≤ g) : Below B w W2 :=
 ⟨hb.os.trans h.os, hb.tape.trans h.tape, hb.output.trans h.output, Nat.le_trans h.size hk.1, fun i hi => (hk.2 i (Nat.lt_of_lt_of_le hi (Nat.le_trans hB h.size)) (Nat.ne_of_lt (Nat.lt_of_lt_of_le hi hg)) (by simp)).trans (h.block i hi)⟩
theorem zV {B n : Nat} {w W W2 : World} (h : Below B w W) (hb : Below n W W2) (hn : B ≤ n) : Below B w W2 :=
 ⟨hb.os.trans h.os, hb.tape.trans h.tape, hb.output.trans h.output, Nat.le_trans h.size hb.size, fun i hi => (hb.block i (Nat.lt_of_lt_of_le hi hn)).trans (h.block i hi)⟩
theorem want_ {c : Bool} {A B : Prop} (hc : c = true) (h : A) : if c = true then A else B := by rw [if_pos hc]; exact h
theorem kZ {B : Nat} {w W : World} {p : Addr} {v : Value} (h : Below B w W) (hp : B ≤ p.block) : Below B w (W.setCell p v) :=
 ⟨h.os, h.tape, h.output, by simpa [World.setCell] using h.size, fun k hk => (Below.heap_setCell W p v k (Nat.ne_of_lt (Nat.lt_of_lt_of_le hk hp))).trans (h.block k hk)⟩
def xb.l0 : Nat → List Int → Int → Int → Int → Bool → List Int → Int → List Int → Option (Int × Int × List Int × Int × Int)
 | 0, _, _, _, _, _, _, _, _ => none
 | k + 1, l0, a1, a2, p, o, ab, y, zW => if y < a2 then ((wI.f k l0 p o a1 ab).bind fun t => (if t.2.1 = 0 then (if zW.length + t.1.length < 140737488355328 then xb.l0 k l0 a1 a2 t.2.2.1 t.2.2.2 t.1 (wrap64 (y + 1)) (zW ++ t.1) else none) else some (0, 0, [], 0, t.2.1))) else ((yJ.f l0 p o).bind fun t => some (a1, a2, zW, t.1, 0))
def xb.f (k : Nat) (l0 : List Int) (a1 a2 : Int) : Option (Int × Int × List Int × Int × Int) :=
  (wN.f k a1 a2 0).bind fun t => (if t.2.2.2 = 0 then (if 0 ≤ a1 then (if a1.toNat ≤ 281474976710656 then (if l0.length < 140737488355328 then xb.l0 k l0 a1 a2 0 true (List.replicate a1.toNat 0) 0 [] else none) else none) else none) else some (0, 0, [], 0, 2))
theorem xb.wt : ∀ k, (∀ y0 y1 y2 y3 y4 y5 y6 y7, vK (xb.l0 k y0 y1 y2 y3 y4 y5 y6 y7) (xb.l0 (k + 1) y0 y1 y2 y3 y4 y5 y6 y7))
 | 0 => fun _ _ _ _ _ _ _ _ r h => by simp [xb.l0] at h
 | k + 1 => by
  have ih0 := xb.wt k
  intro y0 y1 y2 y3 y4 y5 y6 y7
  unfold xb.l0
  refine vK.ite (vK.bind (wI.mono _ _ _ _ _ k) (fun t => vK.ite (vK.ite (ih0 _ _ _ _ _ _ _ _) (vK.refl _)) (vK.refl _))) (vK.refl _)
theorem xb.mono : ∀ a0 a1 a2 k, vK (xb.f k a0 a1 a2) (xb.f (k + 1) a0 a1 a2) := by
  intro a0 a1 a2 k
  unfold xb.f
  exact vK.bind (wN.mono _ _ _ k) (fun t => vK.ite (vK.ite (vK.ite (vK.ite (xb.wt k _ _ _ _ _ _ _ _) (vK.refl _)) (vK.refl _)) (vK.refl _)) (vK.refl _))
def xb.T14 : Bool × List (List Nat × List Nat) := (true, [([], []), ([], []), ([1], [1]), ([2], [2]), ([3], [3]), ([4], [4]), ([0, 5, 0], [0]), ([5, 6, 0, 1, 2, 3, 4, 5, 6], [5]), ([7, 0, 1, 2, 3, 4, 5, 6, 7], [])])
def xb.B14 : List Nat := [0, 0, 2, 6, 14, 30, 63, 127, 255]
theorem xb.tab14 : zi .any (opsOf Tryz.f25 14) = xb.T14 := by kernel_rfl
theorem xb.bits14 : yv xb.T14.2 xb.B14 = true := by kernel_rfl
theorem xb.calls (k : Nat) (A0 : Option Addr) (c0 : Nat) (l0 : List Int) (a1 a2 : Int) (r1 r2 : Int) (r3 : List Int) (r4 r5 : Int) (w : World) (hr0 : Kd.C (Kd.int .u8) w A0 l0.length l0) (d7 : l0.length ≤ c0) (h : xb.f k l0 a1 a2 = some (r1, r2, r3, r4, r5)) :
  Calls Tryz.prog 25 #[.slice A0 l0.length c0, .int .i64 a1, .int .i64 a2, .func (.func 26) #[] #[]] w fun e w' => ∃ d8 : Value, e = .returned (.tuple #[.agg #[.int .i64 r1, .int .i64 r2, d8], .int .i64 r4, .int .i64 r5]) ∧ Kd.R (Kd.int .u8) 5 w' w.heap.size (fun _ => True) d8 r3 ∧ Below w.heap.size w w' := by
 have hu24 := Tryz.underlying24
 have hu84 := Tryz.underlying84
 have g6 := aE hr0
 have g7 := aE d7
 clear hr0 d7
 have HB := bR w
 unfold xb.f at h
 obtain ⟨⟨t1, t2, t3, t4⟩, A1, H⟩ := Option.bind_eq_some_iff.mp h
 clear h
 have A1 := aE A1
 try dsimp only at H
 by_cases c2 : t4 = 0
 ·rw [if_pos c2] at H
  subst c2
  by_cases c3 : 0 ≤ a1
  ·rw [if_pos c3] at H
   have h7 := eq_true c3
   have h8 := decide_eq_true c3
   clear c3
   by_cases c4 : a1.toNat ≤ 281474976710656
   ·rw [if_pos c4] at H
    have h9 := eq_true c4
    have i0 := decide_eq_true c4
    clear c4
    by_cases c5 : l0.length < 140737488355328
    ·rw [if_pos c5] at H
     have HL0 := aE c5
     clear c5
     obtain ⟨d9, hy_⟩ : ∃ y_ : List Int, y_ = (List.replicate (a1 : Int).toNat 0) := ⟨_, rfl⟩
     rw [← hy_] at H
     have G := aE hy_
     clear hy_
     have H' := aE H
     clear H
     go_enter Tryz.func25, Tryz.ntmps25
     go_wp2_with (first
      | ((with_reducible refine gd 8 rfl ?_); refine bx 8 #[.int .i64 0, .int .i64 0, .slice none 0 0] 24 rfl rfl ?_; intro q hg wA hbox hb; have n_ := aC (bs hb) (aC hbox (aE (gz hg))); clear HB; obtain ⟨HB, d, E⟩ := n_; clear hb hbox hg)
      | ((with_reducible refine gf 42 rfl ?_); refine gL (some 18) rfl rfl Tryz.func42 rfl #[.int .i64 a1, .int .i64 a2, .int .i64 0] rfl ?_; (with_reducible refine (wN.calls k a1 a2 0 t1 t2 t3 0 _ A1.out).mono ?_); rintro e wB ⟨g8, rfl, ho, hb⟩; refine ⟨_, rfl, ?_⟩; have n_ := aC (vp (bU d.out) hb) (aC ho (aE (bs hb))); clear d HB ho hb; obtain ⟨d, x, HB⟩ := n_; obtain ⟨e0, e1, I⟩ := Kd.vY x.out; subst I; clear x)
      | ((with_reducible refine gd 11 rfl ?_); refine bx 11 #[.int .i64 0, .int .i64 0, .slice none 0 0] 24 rfl rfl ?_; intro e2 hg wC hbox hb; have n_ := aC (vp (bU d.out) hb) (aC (bs hb) (aC hbox (aC (gz hg) (aC (gn hg (bU d.out)) (aE (gm hg (bU d.out))))))); clear d HB; obtain ⟨d, HB, J, e3, r, t⟩ := n_; clear hb hbox hg; have d2 := t.out; have d3 := r.out; obtain ⟨L, M, O, T, X, Y⟩ := yk J.out)
      | ((with_reducible refine gf 43 rfl ?_); refine gL (some 25) rfl rfl Tryz.func43 rfl #[.slice A0 l0.length c0] rfl ?_; (with_reducible refine (zu.calls 200 A0 c0 l0 tU qf qk tW _ (Kd.wz g6.out bl) g7.out HL0.out kc).mono ?_); rintro e wD ⟨gr, gx, w0, rfl, hI, hX, hB0, hs, hb, hge, hlt, hsz⟩; refine ⟨_, rfl, ?_⟩; have n_ := aC (vp (show _ = some (.cells #[.int .i64 0, .int .i64 0, .slice none 0 0] 24 (0, 0)) from by (repeat refine wk ?_ r.out _); exact d.out) hb) (aC (qi.mono hX (B' := q + 1) (zk (o := .cells #[.int .i64 0, .int .i64 0, .slice none 0 0] 24 (0, 0)) (by (repeat refine wk ?_ r.out _); exact d.out))) (aC (St.of hI hB0 hs) (aC (Kb.refl (q + 1) gr wD) (aC (Nat.lt_of_lt_of_le (zk (o := .cells #[.int .i64 0, .int .i64 0, .slice none 0 0] 24 (0, 0)) (by (repeat refine wk ?_ r.out _); exact d.out)) hge : q < gr) (aC hsz (aC (Nat.lt_trans hlt hsz : gr < wD.heap.size) (aE (bs hb)))))))); clear d HB hI hX hB0 hs hb hge; obtain ⟨d, XB, ST, KB, LT8, LTX, LTG, HB⟩ := n_; obtain ⟨e4, e5, e6, e7, e8, e9⟩ := yk d.out)
      | ((with_reducible refine gd 30 rfl ?_); refine Kd.jN (Kd.int .u8) _ 5 rfl (N := 30) rfl 22 _ _ rfl a1 rfl rfl Tryz.underlying22 (.int .u8 0) 1 info5 rfl (by decide) (by omega) 0 (ok := fun _ => True) (okp := fun _ => True) rfl (fun _ hk => hk) trivial (dt) (Nat.le_trans (Nat.mul_le_mul_right _ (dt : a1.toNat ≤ 281474976710656)) (by omega)) (Below.refl _ _) (Nat.le_refl _) ?_; intro i1 wE z hb hg_ hnew_; clear hg_ hnew_; (first | rw [← G.out] at z | (simp only [Int.reduceToNat] at z; rw [← G.out] at z)); have n_ := aC (Kd.vS z (Kb.trans KB.out (Kb.off (gb := q) (g := gr) (w := wD))).1) (aC (vp (show _ = some (.cells #[.int .i64 a1, .int .i64 a2, .slice none 0 0] 24 (0, 0)) from by refine vt (cs := #[.int .i64 a1, .int .i64 a2, .slice none 0 0]) ?_ 2 _ rfl; refine vt (cs := #[.int .i64 a1, .int .i64 0, .slice none 0 0]) ?_ 1 _ rfl; refine vt (cs := #[.int .i64 0, .int .i64 0, .slice none 0 0]) ?_ 0 _ rfl; exact d.out) hb) (aC (St.below (St.off ST.out d.out rfl (Nat.ne_of_lt LT8.out)) hb) (aC (Kb.trans (Kb.trans KB.out (Kb.off (gb := q) (g := gr) (w := wD))) (Kb.of_below hb)) (aE (bs hb))))); clear d ST KB HB; obtain ⟨b8, d, ST, KB, HB⟩ := n_; clear hb z))
     go_loopg [14, 32] k (fun kq f0 g9 w' => ∃ (ab : List Int) (y : Int) (p : Int) (o : Bool) (zW : List Int) (u : Value), g9 = .int .i64 y ∧ Aside0 (xb.l0 kq l0 a1 a2 p o ab y zW = some (r1, r2, r3, r4, r5)) ∧ Aside0 (kq ≤ k) ∧ Aside0 (Kd.R (Kd.int .u8) 5 w' wD.heap.size (fun k_ => some k_ ≠ (u : Value).ownBlock) f0 ab) ∧ Aside0 (Kd.R (Kd.int .u8) 5 w' wD.heap.size (fun k_ => some k_ ≠ (f0 : Value).ownBlock) u zW) ∧ Aside0 (w'.heap[q]? = some (.cells #[.int .i64 a1, .int .i64 a2, u] 24 (0, 0))) ∧ Aside0 (St w' gr l0 p o) ∧ Aside0 (Kb (q + 1) gr wD w') ∧ Aside0 (Below w.heap.size w w'))
     case atStart => exact ⟨d9, (0), (0), true, ([] : List Int), (.slice none 0 0), rq, H', ⟨Nat.le_refl _⟩, ⟨rU (Kd.vU b8.out (fun _ hk => (by simp [Value.ownBlock])))⟩, ⟨Kd.yu _ _ _ _ _⟩, ⟨bU d.out⟩, ⟨by exact ST.out⟩, ⟨by exact KB.out⟩, ⟨bl⟩⟩
     case round =>
      clear H' b8 ST KB HB d
      obtain ⟨ab, y, p, o, zW, u, rfl, HA, f1, j, HO_p, d, ST, KB, HB⟩ := hrel
      cases gk with
      | zero => exact absurd HA.out (by simp [xb.l0])
      | succ k1 =>
       have H := HA.out
       clear HA
       simp only [xb.l0] at H
       obtain ⟨Aou, cou, eou⟩ := Kd.vY HO_p.out
       subst eou
       rcases iL H with H1 | H1 <;> clear H <;> obtain ⟨H, h3⟩ := H1
       ·obtain ⟨⟨q1, q2, q3, q4⟩, B, H⟩ := Option.bind_eq_some_iff.mp H
        try dsimp only at H
        have b6 := aE B
        clear B
        obtain ⟨b9, c1, f2⟩ := Kd.vY j.out
        subst f2
        rcases iE H with H1 | H1 <;> clear H <;> obtain ⟨H, h4, h5, i4⟩ := H1
        ·by_cases b7 : zW.length + q1.length < 140737488355328
         ·rw [if_pos b7] at H
          have d4 := aE b7
          clear b7
          obtain ⟨D, hy_⟩ : ∃ y_ : List Int, y_ = (zW ++ q1) := ⟨_, rfl⟩
          rw [← hy_] at H
          have d5 := aE hy_
          clear hy_
          have H' := aE H
          clear H
          go_wp2_with (first | ((with_reducible refine zN rfl ?_); refine jX (some 39) rfl rfl Tryz.func26 (by kernel_rfl) rfl #[.pointer (some ⟨gx, 0, none⟩), .int .i64 a1, .slice b9 ab.length c1] rfl rfl (by (try simp only [List.map_toArray, List.map_cons, List.map_nil]); first | done | rfl) ?_; (with_reducible refine (wI.calls k1 gr l0 p o a1 _ _ ab q1 q2 q3 q4 (cutAt _ gr) _ (St.to ST.out).1 (St.to ST.out).2.1 (Kd.R_reads' j.out).2.2 (Kd.R_reads' j.out).2.1 (fun ad e_ _ => Nat.ne_of_gt (Nat.lt_of_lt_of_le LTG.out (Kd.xc j.out _ (by rw [e_]; simp [Value.ownBlock])))) gx (XB.out.kb KB.out).old b6.out).mono ?_); rintro e wF ⟨d6, rfl, ho, hi, hb, hk⟩; refine ⟨_, rfl, ?_⟩; have n_ := aC (Kd.vS (Kd.R_new' (Kd.R_new' ho (Kd.xW j.out)) (Kd.xW HO_p.out)) KB.out.1) (aC (Kd.vU (Kd.zo (Kd.xF HO_p.out) (fun k_ h_ hl_ => hk.2 k_ hl_ (Nat.ne_of_gt (Nat.lt_of_lt_of_le LTG.out h_.2.1)) (by simp))) (fun k_ h_ => show some k_ ≠ d6.ownBlock from fun e_ => absurd (Kd.xc ho k_ e_.symm) (Nat.not_le.mpr h_.2.2.1))) (aC (vr.blk hk d.out (Nat.ne_of_lt LT8.out) (by simp)) (aC (St.of hi hb (St.to ST.out).2.2) (aC (Kb.trans KB.out (Kb.js hk)) (aE (z7 HB.out (Nat.le_refl _) hb hk (Nat.le_trans E.out (Nat.le_of_lt LT8.out)))))))); clear j HO_p d ST KB HB ho hi hb hk; obtain ⟨s, HO_p, d, ST, KB, HB⟩ := n_; obtain ⟨Z, a0, a3, a4, a5, a6⟩ := yk d.out; obtain ⟨d0, d1, a7⟩ := Kd.vY s.out; subst a7) | ((with_reducible refine wU (b := .append) (xs := #[.tmp 47, .tmp 48]) rfl ?_); at_builtin; refine Kd.xO (Kd.int .u8) (w0 := wF) wD.heap.size rfl (.tmp 47) (.tmp 48) 22 5 (.int .u8 0) 1 rfl Tryz.underlying22 info5 rfl (by decide) (by omega) (.slice Aou zW.length cou) zW q1 _ _ _ (fun k_ => some k_ ≠ (.slice d0 q1.length d1 : Value).ownBlock) (fun _ => False) rfl rfl ?aO ?aR (fun _ _ h => h) (fun _ h => h.elim) ?aF ?aB ?aS ?aL ?_; (case aR => exact (Kd.R_reads' s.out).2.2); (case aB => exact Below.refl _ _); (case aF => exact (fun k_ hk => Kd.fresh' (Kd.xW s.out) k_ hk)); (case aO => exact HO_p.out); (case aS => exact KB.out.1); (case aL => have := d4.out; omega); intro i5 wG ho hb hg hat; rw [← d5.out] at ho; have n_ := aC (Kd.yG s.out hg hat) (aC ho (aC (xz (g := q) d.out hg (fun e_ => absurd (Kd.xc HO_p.out q e_.symm) (Nat.not_le.mpr (Nat.lt_trans LT8.out LTG.out)))) (aC (St.grown ST.out hg (fun k_ e_ => Nat.lt_of_lt_of_le LTG.out (Kd.xc HO_p.out k_ e_))) (aC (Kb.grown KB.out hg (fun k_ e_ => Kd.xc HO_p.out k_ e_)) (aE (zV HB.out hb (Nat.le_trans E.out (Nat.le_of_lt (Nat.lt_trans LT8.out LTG.out))))))))); clear s HO_p d ST KB HB ho hb hg hat; obtain ⟨s, HO_p, d, ST, KB, HB⟩ := n_; obtain ⟨f3, f4, f5, f6, f7, f8⟩ := yk d.out; obtain ⟨a8, a9, f9⟩ := Kd.vY HO_p.out; subst f9))
          go_roundg k1
          case measure => have := f1.out; omega
          case rel => exact ⟨q1, (wrap64 (y + 1)), q3, q4, D, (.slice a8 D.length a9), rq, H', ⟨by have := f1.out; omega⟩, ⟨(Kd.vU (Kd.wK (p := ⟨q, 2, none⟩) (Kd.xF s.out) (fun k_ h_ => Nat.ne_of_gt (Nat.lt_of_lt_of_le (Nat.lt_trans LT8.out LTG.out) h_.2.1)) (.slice a8 D.length a9)) (fun _ h_ => h_.1.2))⟩, ⟨(Kd.vU (Kd.wK (p := ⟨q, 2, none⟩) (Kd.xF HO_p.out) (fun k_ h_ => Nat.ne_of_gt (Nat.lt_of_lt_of_le (Nat.lt_trans LT8.out LTG.out) h_.2.1)) (.slice a8 D.length a9)) (fun _ h_ => h_.1))⟩, ⟨by refine vt (cs := #[.int .i64 a1, .int .i64 a2, .slice Aou zW.length cou]) ?_ 2 _ rfl; exact d.out⟩, ⟨St.off ST.out d.out rfl (Nat.ne_of_lt LT8.out)⟩, ⟨Kb.trans KB.out Kb.off⟩, ⟨bl⟩⟩
         ·rw [if_neg b7] at H
          exact nB H
        ·simp only [Option.some.injEq, Prod.mk.injEq] at H
         obtain ⟨rfl, rfl, rfl, rfl, rfl⟩ := H
         go_wp2_with (first | ((with_reducible refine zN rfl ?_); refine jX (some 39) rfl rfl Tryz.func26 (by kernel_rfl) rfl #[.pointer (some ⟨gx, 0, none⟩), .int .i64 a1, .slice b9 ab.length c1] rfl rfl (by (try simp only [List.map_toArray, List.map_cons, List.map_nil]); first | done | rfl) ?_; (with_reducible refine (wI.calls k1 gr l0 p o a1 _ _ ab q1 q2 q3 q4 (cutAt _ gr) _ (St.to ST.out).1 (St.to ST.out).2.1 (Kd.R_reads' j.out).2.2 (Kd.R_reads' j.out).2.1 (fun ad e_ _ => Nat.ne_of_gt (Nat.lt_of_lt_of_le LTG.out (Kd.xc j.out _ (by rw [e_]; simp [Value.ownBlock])))) gx (XB.out.kb KB.out).old b6.out).mono ?_); rintro e wF ⟨d6, rfl, ho, hi, hb, hk⟩; refine ⟨_, rfl, ?_⟩; have n_ := aC (Kd.vS (Kd.R_new' (Kd.R_new' ho (Kd.xW j.out)) (Kd.xW HO_p.out)) KB.out.1) (aC (Kd.vU (Kd.zo (Kd.xF HO_p.out) (fun k_ h_ hl_ => hk.2 k_ hl_ (Nat.ne_of_gt (Nat.lt_of_lt_of_le LTG.out h_.2.1)) (by simp))) (fun k_ h_ => show some k_ ≠ d6.ownBlock from fun e_ => absurd (Kd.xc ho k_ e_.symm) (Nat.not_le.mpr h_.2.2.1))) (aC (vr.blk hk d.out (Nat.ne_of_lt LT8.out) (by simp)) (aC (St.of hi hb (St.to ST.out).2.2) (aC (Kb.trans KB.out (Kb.js hk)) (aE (z7 HB.out (Nat.le_refl _) hb hk (Nat.le_trans E.out (Nat.le_of_lt LT8.out)))))))); clear j HO_p d ST KB HB ho hi hb hk; obtain ⟨s, HO_p, d, ST, KB, HB⟩ := n_; obtain ⟨Z, a0, a3, a4, a5, a6⟩ := yk d.out; obtain ⟨d0, d1, a7⟩ := Kd.vY s.out; subst a7))
         refine bodyPost_ret (zy rfl _ _ q 24 #[.int .i64 0, .int .i64 0, .slice none 0 0] (0, 0) _ rfl (by (with_reducible repeat first | apply vm | apply vn | apply vl); refine vt (cs := #[.int .i64 0, .int .i64 0, .slice Aou zW.length cou]) ?_ 2 _ rfl; (with_reducible repeat first | apply vm | apply vn | apply vl); refine vt (cs := #[.int .i64 0, .int .i64 a2, .slice Aou zW.length cou]) ?_ 1 _ rfl; (with_reducible repeat first | apply vm | apply vn | apply vl); refine vt (cs := #[.int .i64 a1, .int .i64 a2, .slice Aou zW.length cou]) ?_ 0 _ rfl; exact d.out) Tryz.underlying24 rfl (by kernel_rfl)) rfl ?_
         exact ⟨_, re, Kd.yu _ _ _ _ _, bl⟩
       ·obtain ⟨⟨q1, q2, q3⟩, B, H⟩ := Option.bind_eq_some_iff.mp H
        try dsimp only at H
        have b6 := aE B
        clear B
        simp only [Option.some.injEq, Prod.mk.injEq] at H
        obtain ⟨rfl, rfl, rfl, rfl, rfl⟩ := H
        obtain ⟨b0, b1, b2, b3, b4, b5⟩ := yk d.out
        go_wp2
        have n_ := aC (vn d.out) (aC (show St wr.drew gr l0 p o from St.same ST.out (fun _ _ => rfl)) (aC (show Kb (q + 1) gr wD wr.drew from KB.out) (aC (vy HB.out) (aC (Kd.jT HO_p.out) (aE (show wr.drew.cell? ⟨gx, 0, none⟩ = _ from XB.out.cell0 wr KB.out))))))
        clear d ST KB HB HO_p j
        obtain ⟨d, ST, KB, HB, HO_p, HX0⟩ := n_
        refine st 9 (fun w' => w'.cell? ⟨q, 0, none⟩ = some (.int .i64 a1) ∧ w'.cell? ⟨q, 1, none⟩ = some (.int .i64 a2) ∧ w'.cell? ⟨q, 2, none⟩ = some (.slice Aou zW.length cou) ∧ w'.cell? ⟨gx, 0, none⟩ = some (.pointer (some ⟨gr, 0, none⟩))) [6] (bv 9 0) xb.tab14 xb.bits14 ⟨jB d.out, jz d.out, jK d.out, HX0.out⟩ (fun hHeld HT_ HW_ => ?_)
        generalize wr.drew = h6 at d ST KB HB HO_p HX0 hHeld ⊢
        refine tk 0 52 (bv 9 1) HT_ HW_ hHeld rfl rfl (by rintro w' ⟨s0, s1, s2, s3⟩; exact yl) ?_
        refine pu 1 53 (bv 9 3) HT_ rfl rfl ?_
        refine pu 2 54 (bv 9 7) HT_ rfl rfl ?_
        refine pu 3 55 (bv 9 15) HT_ rfl rfl ?_
        refine tk 4 56 (bv 9 31) HT_ HW_ hHeld rfl rfl (by rintro w' ⟨s0, s1, s2, s3⟩; exact yl) ?_
        refine yA (i := 5) (N := some 57) (bv 9 63) rfl rfl (xl HT_.out (by kernel_rfl)) (by decide) (fun K hK => ?_)
        refine gK Tryz.func44 rfl #[.pointer (some ⟨gr, 0, none⟩)] rfl rfl ?_
        with_reducible refine (yJ.calls gr l0 p o q1 q2 q3 (cutAt h6 gr) _ (St.to ST.out).1 (St.to ST.out).2.1 b6.out).mono ?_
        rintro e i6 ⟨rfl, hi, hb, hk⟩
        refine ⟨_, rfl, ?_⟩
        have n_ := aC (vr.blk hk d.out (Nat.ne_of_lt LT8.out) (by simp)) (aC (Kd.zo (Kd.xF HO_p.out) (fun k_ h_ hl_ => hk.2 k_ hl_ (Nat.ne_of_gt (Nat.lt_of_lt_of_le LTG.out h_.2.1)) (by simp))) (aC (XB.out.cell0 _ (Kb.trans KB.out (Kb.js hk))) (aE (z7 HB.out (Nat.le_refl _) hb hk (Nat.le_trans E.out (Nat.le_of_lt LT8.out))))))
        clear d HO_p HB HX0 hi hb hk ST KB
        obtain ⟨d, HO_p, HX0, HB⟩ := n_
        refine hK.out _ _ ⟨jB d.out, jz d.out, jK d.out, HX0.out⟩ (fun hHeld => ?_)
        clear hK K
        refine nm (some 57) ?_
        refine last_ (i := 6) (N := none) (bv 9 127) rfl rfl (xl HT_.out (by kernel_rfl)) (by decide) (fun K hK => ?_)
        refine want_ (by rfl) ?_
        obtain ⟨b0, b1, b2, b3, b4, b5⟩ := yk d.out
        unfold Oper.wp
        go_simp
        refine hK.out _ _ ?_
        clear hK K
        refine pu 7 9 (bv 9 255) HT_ rfl rfl ?_
        refine pu 8 10 (bv 9 511) HT_ rfl rfl ?_
        refine zd (xZ HT_.out (by kernel_rfl)) ?_
        go_wp2
        refine bodyPost_ret (zy rfl _ _ q 24 #[.int .i64 a1, .int .i64 a2, .slice Aou zW.length cou] (0, 0) _ rfl (by refine vt (cs := #[.int .i64 a1, .int .i64 a2, .slice Aou zW.length cou]) ?_ 2 _ rfl; refine vt (cs := #[.int .i64 a1, .int .i64 a2, .slice Aou zW.length cou]) ?_ 1 _ rfl; refine vt (cs := #[.int .i64 a1, .int .i64 a2, .slice Aou zW.length cou]) ?_ 0 _ rfl; exact d.out) Tryz.underlying24 rfl (by kernel_rfl)) rfl ?_
        exact ⟨_, re, Kd.vS (Kd.vU (Kd.wK (p := ⟨q, 2, none⟩) (Kd.wK (p := ⟨q, 1, none⟩) (Kd.wK (p := ⟨q, 0, none⟩) (Kd.xF HO_p.out) (fun k_ h_ => Nat.ne_of_gt (Nat.lt_of_lt_of_le (Nat.lt_trans LT8.out LTG.out) h_.2.1)) _) (fun k_ h_ => Nat.ne_of_gt (Nat.lt_of_lt_of_le (Nat.lt_trans LT8.out LTG.out) h_.2.1)) _) (fun k_ h_ => Nat.ne_of_gt (Nat.lt_of_lt_of_le (Nat.lt_trans LT8.out LTG.out) h_.2.1)) _) (fun _ _ => trivial)) (Nat.le_trans E.out (Nat.le_of_lt (Nat.lt_trans LT8.out LTG.out))), bl⟩
    ·rw [if_neg c5] at H
     exact nB H
   ·rw [if_neg c4] at H
    exact nB H
  ·rw [if_neg c3] at H
   exact nB H
 ·rw [if_neg c2] at H
  have i2 := beq_eq_false_iff_ne.mpr c2
  have i3 := bne_iff_ne.mpr c2
  simp only [Option.some.injEq, Prod.mk.injEq] at H
  obtain ⟨rfl, rfl, rfl, rfl, rfl⟩ := H
  go_enter Tryz.func25, Tryz.ntmps25
  go_wp2_with (first | ((with_reducible refine gd 8 rfl ?_); refine bx 8 #[.int .i64 0, .int .i64 0, .slice none 0 0] 24 rfl rfl ?_; intro q hg wA hbox hb; have n_ := aC (bs hb) (aC hbox (aE (gz hg))); clear HB; obtain ⟨HB, d, E⟩ := n_; clear hb hbox hg) | ((with_reducible refine gf 42 rfl ?_); refine gL (some 18) rfl rfl Tryz.func42 rfl #[.int .i64 a1, .int .i64 a2, .int .i64 0] rfl ?_; (with_reducible refine (wN.calls k a1 a2 0 t1 t2 t3 t4 _ A1.out).mono ?_); rintro e wB ⟨g8, rfl, ho, hb⟩; refine ⟨_, rfl, ?_⟩; have n_ := aC (vp (bU d.out) hb) (aC ho (aE (bs hb))); clear d HB ho hb; obtain ⟨d, x, HB⟩ := n_; obtain ⟨e0, e1, I⟩ := Kd.vY x.out; subst I; clear x) | ((with_reducible refine gd 11 rfl ?_); refine bx 11 #[.int .i64 0, .int .i64 0, .slice none 0 0] 24 rfl rfl ?_; intro e2 hg wC hbox hb; have n_ := aC (vp (bU d.out) hb) (aC (bs hb) (aC hbox (aC (gz hg) (aC (gn hg (bU d.out)) (aE (gm hg (bU d.out))))))); clear d HB; obtain ⟨d, HB, J, e3, r, t⟩ := n_; clear hb hbox hg; have d2 := t.out; have d3 := r.out; obtain ⟨L, M, O, T, X, Y⟩ := yk J.out; have BKo := d; obtain ⟨g0, g1, g2, g3, g4, g5⟩ := yk d.out))
  refine bodyPost_ret (zy rfl _ _ q 24 #[.int .i64 0, .int .i64 0, .slice none 0 0] (0, 0) _ rfl (by (with_reducible repeat first | apply vm | apply vn | apply vl); refine vt (cs := #[.int .i64 0, .int .i64 0, .slice none 0 0]) ?_ 2 _ rfl; (with_reducible repeat first | apply vm | apply vn | apply vl); refine vt (cs := #[.int .i64 0, .int .i64 0, .slice none 0 0]) ?_ 1 _ rfl; (with_reducible repeat first | apply vm | apply vn | apply vl); refine vt (cs := #[.int .i64 0, .int .i64 0, .slice none 0 0]) ?_ 0 _ rfl; (repeat refine wk ?_ r.out _); exact d.out) Tryz.underlying24 rfl (by kernel_rfl)) rfl ?_
  exact ⟨_, re, Kd.yu _ _ _ _ _, bl⟩
def zf.f (k : Nat) (l0 : List Int) (a1 a2 : Int) : Option (Int × Int × List Int × Int × Int) := xb.f k l0 a1 a2
theorem zf.mono : ∀ a0 a1 a2 k, vK (zf.f k a0 a1 a2) (zf.f (k + 1) a0 a1 a2) := xb.mono
theorem zf.calls (k : Nat) (A0 : Option Addr) (c0 : Nat) (l0 : List Int) (a1 : Int) (a2 : Int) (r1 : Int) (r2 : Int) (r3 : List Int) (r4 : Int) (r5 : Int) (w : World) (hr0 : Kd.C (Kd.int .u8) w A0 l0.length l0) (r : l0.length ≤ c0) (h : zf.f k l0 a1 a2 = some (r1, r2, r3, r4, r5)) :
  Calls Tryz.prog 8 #[.slice A0 l0.length c0, .int .i64 a1, .int .i64 a2] w fun e w' => ∃ s : Value, e = .returned (.tuple #[.agg #[.int .i64 r1, .int .i64 r2, s], .int .i64 r4, .int .i64 r5]) ∧ Kd.R (Kd.int .u8) 5 w' w.heap.size (fun _ => True) s r3 ∧ Below w.heap.size w w' := by
 have hu24 := Tryz.underlying24
 have I := aE hr0
 have J := aE r
 have A1 := aE (show xb.f k l0 a1 a2 = some (r1, r2, r3, r4, r5) from h)
 clear hr0 r h
 have HB := bR w
 go_enter Tryz.func8, Tryz.ntmps8
 go_wp2_with (first
  | ((with_reducible refine gd 6 rfl ?_); refine bx 6 #[.int .i64 0, .int .i64 0, .slice none 0 0] 24 rfl rfl ?_; intro j hg wA hbox hb; have n_ := aC (bs hb) (aC hbox (aE (gz hg))); clear HB; obtain ⟨HB, d, L⟩ := n_; clear hb hbox hg)
  | ((with_reducible refine gf 25 rfl ?_); refine gL (some 12) rfl rfl Tryz.func25 rfl #[.slice A0 l0.length c0, .int .i64 a1, .int .i64 a2, .func (.func 26) #[] #[]] rfl ?_; (with_reducible refine (xb.calls k A0 c0 l0 a1 a2 r1 r2 r3 r4 r5 _ (Kd.wz I.out bl) J.out A1.out).mono ?_); rintro e wB ⟨M, rfl, ho, hb⟩; refine ⟨_, rfl, ?_⟩; have n_ := aC (vp (bU d.out) hb) (aC ho (aC (zk d.out) (aE (bs hb)))); clear d HB ho hb; obtain ⟨d, q, LT8, HB⟩ := n_; obtain ⟨t, u, x⟩ := Kd.vY q.out; subst x; obtain ⟨y, z, B, D, E, G⟩ := yk d.out))
 refine bodyPost_ret (zy rfl _ _ j 24 #[.int .i64 r1, .int .i64 r2, .slice t r3.length u] (0, 0) _ rfl (by refine vt (cs := #[.int .i64 r1, .int .i64 r2, .slice none 0 0]) ?_ 2 _ rfl; refine vt (cs := #[.int .i64 r1, .int .i64 0, .slice none 0 0]) ?_ 1 _ rfl; refine vt (cs := #[.int .i64 0, .int .i64 0, .slice none 0 0]) ?_ 0 _ rfl; exact d.out) Tryz.underlying24 rfl (by kernel_rfl)) rfl ?_
 exact ⟨_, re, Kd.vS (Kd.vU (Kd.wK (p := ⟨j, 2, none⟩) (Kd.wK (p := ⟨j, 1, none⟩) (Kd.wK (p := ⟨j, 0, none⟩) (Kd.xF q.out) (fun k_ h_ => Nat.ne_of_gt (Nat.lt_of_lt_of_le LT8.out h_.2.1)) _) (fun k_ h_ => Nat.ne_of_gt (Nat.lt_of_lt_of_le LT8.out h_.2.1)) _) (fun k_ h_ => Nat.ne_of_gt (Nat.lt_of_lt_of_le LT8.out h_.2.1)) _) (fun _ _ => trivial)) (Nat.le_trans L.out (Nat.le_of_lt LT8.out)), bl⟩
end Go.Proofs.YtknclbodinfbeaaGreatDoor.PRunsBack
