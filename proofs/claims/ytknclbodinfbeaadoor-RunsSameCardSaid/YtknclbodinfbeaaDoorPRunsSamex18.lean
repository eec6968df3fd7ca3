-- printed (wip/tools/myprint.py)
import Derived.Test.YtknclbodinfbeaaDoorPRunsSamex0
import Derived.Test.YtknclbodinfbeaaDoorPRunsSamex1
import Derived.Test.YtknclbodinfbeaaDoorPRunsSamex3
import Derived.Test.YtknclbodinfbeaaDoorPRunsSamex5
import Derived.Test.YtknclbodinfbeaaDoorPRunsSamex8
import Derived.Test.YtknclbodinfbeaaDoorPRunsSamex15
import Derived.Test.YtknclbodinfbeaaDoorPRunsSamex16
import Derived.Test.YtknclbodinfbeaaDoorPRunsSamex17
namespace Go.Proofs.YtknclbodinfbeaaDoor.PRunsSame
open Go.RowKit Go.Proofs.YtknclbodinfbeaaDoorW.PrintWords Go.Proofs.YtknclbodinfbeaaDoorW.PrintLast Go.Proofs.YtknclbodinfbeaaDoorW.PrintMore
attribute [local go_sem] yf yc yD yE xV xU ye yh
set_option linter.unusedVariables false
set_option linter.unusedSimpArgs false
set_option maxHeartbeats 8000000 in
set_option maxRecDepth 100000 in
theorem qd.calls (A0 : Option Addr) (c0 : Nat) (l0 : List Int) (w : World) (hr0 : Kd.C (Kd.int .u8) w A0 l0.length l0) (hc0 : l0.length ≤ c0) (hl : l0.length < 140737488355328) :
 Calls Tryd.prog 95 #[.slice A0 l0.length c0] w fun e w' => ∃ (gr : Nat) (A : Option Addr) (c : Nat), e = .returned (.pointer (some ⟨gr, 0, none⟩)) ∧ w'.heap[gr]? = some (.cells #[.slice A l0.length c, .int .i64 0, .bool true] 140 (0, 0)) ∧ Kd.R (Kd.int .u8) 5 w' w.heap.size (fun k_ => k_ < gr) (.slice A l0.length c) l0 ∧ w.heap.size ≤ gr ∧ Below w.heap.size w w' := by
 have hu140 := Tryd.underlying140
 have HR0 := Aside0.mk hr0
 have HC0 := Aside0.mk hc0
 clear hr0 hc0
 have HB := Aside0.mk (Below.refl w.heap.size w)
 obtain ⟨y408, hy_⟩ : ∃ y_ : List Int, y_ = (([] : List Int)) := ⟨_, rfl⟩
 have Ny408 := aE hy_
 have hl' : y408.length + l0.length < 140737488355328 := by rw [hy_]; simpa using hl
 have e0 : y408 ++ l0 = l0 := by rw [hy_]; rfl
 clear hy_
 go_enter Tryd.func95, Tryd.ntmps95
 go_wp2_with (first | ((with_reducible refine gd 3 rfl ?_); refine Kd.zV (Kd.int .u8) _ 5 ?hg (N := 3) ?hd (xs := ([] : List Int)) (inner := []) (ok := fun _ => True) (okp := fun _ => True) ?hr ?hp (fun _ hk => hk) trivial (Below.refl _ _) (Nat.le_refl _) (by simp) ?_; (case hd => rfl); (case hg => rfl); (case hr => first | (go_simp; done) | (go_simp; rfl)); (case hp => exact (wX.none _ _)); intro v409 w5 ho6 hb hg_ hnew_; clear hg_ hnew_; (first | rw [← Ny408.out] at ho6 | (simp only [Int.reduceToNat] at ho6; rw [← Ny408.out] at ho6)); have n_ := aC (Kd.vX ho6 bz) (aE (bs hb)); clear HB; obtain ⟨HO410, HB⟩ := n_; clear hb ho6) | ((with_reducible refine xb (b := .append) (xs := #[.tmp 3, .tmp 4]) rfl ?_); at_builtin; refine Kd.xW (Kd.int .u8) (w0 := w) w.heap.size rfl (.tmp 3) (.tmp 4) 22 5 (.int .u8 0) 1 rfl Tryd.underlying22 info5 rfl (by decide) (by omega) v409 y408 l0 _ _ _ (fun _ => True) (fun _ => False) rfl rfl ?aO ?aR (fun _ _ h => h) (fun _ h => h.elim) ?aF ?aB ?aS ?aL ?_; (case aR => repeat (first | exact (Kd.wO HR0.out HB.out) | (with_reducible refine Kd.yk ?_ _) | (with_reducible refine Kd.yj ?_ _) | (with_reducible refine Kd.yI ?_))); (case aB => exact bl); (case aF => exact (fun _ _ => trivial)); (case aO => exact (rU HO410.out)); (case aS => exact bz); (case aL => omega); intro v412 w7 ho hb hg hat; rw [e0] at ho; have n_ := aC hb (aE ho); clear HB HO410; obtain ⟨HB, HO413⟩ := n_; clear ho hb hg hat; obtain ⟨Ao8, co8, eo8⟩ := Kd.wq HO413.out; subst eo8) | ((with_reducible refine gd 7 rfl ?_); refine bx 7 #[.slice Ao8 l0.length co8, .int .i64 0, .bool true] 140 rfl rfl ?_; intro gr hg w9 hbox hb; have n_ := aC hbox (aC (Kd.vY (Kd.vT (Kd.xF HO413.out) hb) (fun k_ hk => show k_ < gr by rw [hg]; exact hk.2.2.1)) (aC (show w.heap.size ≤ gr by rw [hg]; exact bz) (aE (bs hb)))); obtain ⟨IS, HR, HG, HB2⟩ := n_; clear hbox))
 go_ret
 exact ⟨gr, Ao8, co8, by rw [hg]; rfl, IS.out, HR.out, HG.out, HB2.out⟩
def Kb (B g : Nat) (w W_ : World) : Prop := w.heap.size ≤ W_.heap.size ∧ ∀ i, B ≤ i → i < w.heap.size → i ≠ g → W_.heap[i]? = w.heap[i]?
theorem Kb.refl (B g : Nat) (w : World) : Kb B g w w := ⟨Nat.le_refl _, fun _ _ _ _ => rfl⟩
theorem Kb.trans {B g : Nat} {w w1 w2 : World} (h : Kb B g w w1) (k : Kb B g w1 w2) : Kb B g w w2 := ⟨Nat.le_trans h.1 k.1, fun i h1 h2 h3 => (k.2 i h1 (Nat.lt_of_lt_of_le h2 h.1) h3).trans (h.2 i h1 h2 h3)⟩
theorem Kb.jL {B g : Nat} {w w1 : World} (k : vx w w1 g none) : Kb B g w w1 := ⟨k.1, fun i _ h2 h3 => k.2 i h2 h3 (by simp)⟩
theorem Kb.of_below {B g : Nat} {w w1 : World} (k : Below w.heap.size w w1) : Kb B g w w1 := Kb.jL (vx.of_below k g none)
def kS (B g gx : Nat) (U C0 C1 : List xc × List ByteArray) (ws : List ByteArray) (w : World) : Prop :=
 ∃ (a1 a2 a3 a4 a5 a6 a7 : Option Addr) (c1 c2 c3 c4 c5 c6 c7 : Nat),
  (U.1.length ≤ c1 ∧ U.2.length ≤ c2 ∧ C0.1.length ≤ c3 ∧ C0.2.length ≤ c4 ∧ C1.1.length ≤ c5 ∧ C1.2.length ≤ c6 ∧ ws.length ≤ c7) ∧
  ((∀ ad, a2 = some ad → 0 < U.2.length → ad.block ≠ g) ∧ (∀ ad, a4 = some ad → 0 < C0.2.length → ad.block ≠ g) ∧ (∀ ad, a6 = some ad → 0 < C1.2.length → ad.block ≠ g) ∧ (∀ ad, a7 = some ad → 0 < ws.length → ad.block ≠ g)) ∧
  ∀ W_ : World, Kb B g w W_ →
   W_.heap[gx]? = some (.cells #[.pointer (some ⟨g, 0, none⟩), .slice a1 U.1.length c1, .slice a2 U.2.length c2, .slice a3 C0.1.length c3, .slice a4 C0.2.length c4, .slice a5 C1.1.length c5, .slice a6 C1.2.length c6, .slice a7 ws.length c7] 110 (0, 0)) ∧
   Kd.C zh W_ a1 U.1.length U.1 ∧ Kd.C Kd.string W_ a2 U.2.length U.2 ∧ Kd.C zh W_ a3 C0.1.length C0.1 ∧ Kd.C Kd.string W_ a4 C0.2.length C0.2 ∧ Kd.C zh W_ a5 C1.1.length C1.1 ∧ Kd.C Kd.string W_ a6 C1.2.length C1.2 ∧ Kd.C Kd.string W_ a7 ws.length ws
theorem kS.old {B g gx : Nat} {U C0 C1 : List xc × List ByteArray} {ws : List ByteArray} {w : World} (h : kS B g gx U C0 C1 ws w) : Xok g gx U C0 C1 ws w := by
 obtain ⟨a1, a2, a3, a4, a5, a6, a7, c1, c2, c3, c4, c5, c6, c7, hl, hf, hW⟩ := h
 exact ⟨a1, a2, a3, a4, a5, a6, a7, c1, c2, c3, c4, c5, c6, c7, hl, hf, fun W_ q => hW W_ (Kb.jL q)⟩
theorem kS.kb {B g gx : Nat} {U C0 C1 : List xc × List ByteArray} {ws : List ByteArray} {w w' : World} (h : kS B g gx U C0 C1 ws w) (k : Kb B g w w') : kS B g gx U C0 C1 ws w' := by
 obtain ⟨a1, a2, a3, a4, a5, a6, a7, c1, c2, c3, c4, c5, c6, c7, hl, hf, hW⟩ := h
 exact ⟨a1, a2, a3, a4, a5, a6, a7, c1, c2, c3, c4, c5, c6, c7, hl, hf, fun W_ q => hW W_ (k.trans q)⟩
theorem kS.cell0 {B g gx : Nat} {U C0 C1 : List xc × List ByteArray} {ws : List ByteArray} {w : World} (h : kS B g gx U C0 C1 ws w) : ∀ W_, Kb B g w W_ → W_.cell? ⟨gx, 0, none⟩ = some (.pointer (some ⟨g, 0, none⟩)) := by
 obtain ⟨a1, a2, a3, a4, a5, a6, a7, c1, c2, c3, c4, c5, c6, c7, hl, hf, hW⟩ := h
 exact fun W_ q => (cz8 (hW W_ q).1).1
def St (w : World) (g : Nat) (l0 : List Int) (p : Int) (o : Bool) : Prop := ∃ A c, w.heap[g]? = some (.cells #[.slice A l0.length c, .int .i64 p, .bool o] 140 (0, 0)) ∧ Kd.C (Kd.int .u8) w A l0.length l0 ∧ ∀ ad, A = some ad → 0 < l0.length → ad.block < g
def zq.f (k : Nat) : Option ((List xc × List ByteArray) × (List xc × List ByteArray) × (List xc × List ByteArray) × List ByteArray) :=
 (xI.f k 0).bind fun t => (wH.f k t.1).bind fun U => (yJ.f 0).bind fun a => (wH.f k a).bind fun C0 => (yJ.f 1).bind fun b => (wH.f k b).bind fun C1 => (yQ.f).bind fun u => some (U, C0, C1, ([(⟨#[48, 48, 48, 49]⟩ : ByteArray), (⟨#[48, 48, 49]⟩ : ByteArray)] ++ u))
def cutAt (w : World) (g : Nat) : World := { w with heap := w.heap.extract 0 g }
theorem zR {w : World} {g : Nat} (h : g ≤ w.heap.size) : (cutAt w g).heap.size = g := by
 show (w.heap.extract 0 g).size = g
 simp; omega
theorem kB {w : World} {g i : Nat} (h : g ≤ w.heap.size) (hi : i < g) : (cutAt w g).heap[i]? = w.heap[i]? := by
 show (w.heap.extract 0 g)[i]? = w.heap[i]?
 rw [Array.getElem?_extract]; simp [hi]; omega
theorem kP {w : World} {g : Nat} (h : g ≤ w.heap.size) : Below (cutAt w g).heap.size (cutAt w g) w := by
 refine ⟨rfl, rfl, rfl, by rw [zR h]; exact h, fun k hk => ?_⟩
 rw [zR h] at hk
 exact (kB h hk).symm
theorem C_by {α : Type} {d : Kd α} {W W' : World} {A : Option Addr} {n : Nat} {xs : List α} (hd : ∀ {W W' : World} {x : α} {cs : List Value}, d.K W x cs → d.K W' x cs) (h : d.C W A n xs) (hs : ∀ ad, A = some ad → 0 < n → W'.heap[ad.block]? = W.heap[ad.block]?) : d.C W' A n xs := by
 refine ⟨h.1, h.2.1, fun hn => ?_⟩
 obtain ⟨ad, he, hc⟩ := h.2.2 hn
 refine ⟨ad, he, fun j p hj => ?_⟩
 obtain ⟨cs, h1, h2, h3⟩ := hc j p hj
 refine ⟨cs, h1, hd h2, fun i u hu => ?_⟩
 rw [← h3 i u hu]
 have hb : ∀ m, (ad.add m).block = ad.block := fun m => by rw [add_block]
 simp only [World.cell?, hb, add_block, hs ad he hn]
theorem u8K {W W' : World} {x : Int} {cs : List Value} (h : (Kd.int .u8).K W x cs) : (Kd.int .u8).K W' x cs := h
theorem St.lt {w : World} {g : Nat} {l0 : List Int} {p : Int} {o : Bool} (h : St w g l0 p o) : g < w.heap.size := by
 obtain ⟨A, c, hb, _, _⟩ := h
 exact ze hb
theorem St.to {w : World} {g : Nat} {l0 : List Int} {p : Int} {o : Bool} (h : St w g l0 p o) : vo (cutAt w g) w g l0 p o ∧ Below (cutAt w g).heap.size (cutAt w g) w ∧ (cutAt w g).heap.size = g := by
 have hlt := Nat.le_of_lt h.lt
 obtain ⟨A, c, hb, hc, hg⟩ := h
 exact ⟨⟨A, c, hb, Nat.le_of_eq (zR hlt), C_by u8K hc (fun ad e hn => kB hlt (hg ad e hn))⟩, kP hlt, zR hlt⟩
theorem St.of {w0 w : World} {g : Nat} {l0 : List Int} {p : Int} {o : Bool} (h : vo w0 w g l0 p o) (hB : Below w0.heap.size w0 w) (hs : w0.heap.size = g) : St w g l0 p o := by
 obtain ⟨A, c, hb, _, hc⟩ := h
 exact ⟨A, c, hb, Kd.wO hc hB, fun ad e hn => hs ▸ Kd.C_lt (e ▸ hc) hn (by decide)⟩
theorem St.same {w w' : World} {g : Nat} {l0 : List Int} {p : Int} {o : Bool} (h : St w g l0 p o) (hs : ∀ i, i ≤ g → w'.heap[i]? = w.heap[i]?) : St w' g l0 p o := by
 obtain ⟨A, c, hb, hc, hg⟩ := h
 exact ⟨A, c, (hs g (Nat.le_refl _)).trans hb, C_by u8K hc (fun ad e hn => hs _ (Nat.le_of_lt (hg ad e hn))), hg⟩
theorem St.below {w w' : World} {g : Nat} {l0 : List Int} {p : Int} {o : Bool} (h : St w g l0 p o) (hB : Below w.heap.size w w') : St w' g l0 p o := h.same (fun i hi => hB.block i (Nat.lt_of_le_of_lt hi h.lt))
theorem St.put {w : World} {g gb : Nat} {l0 : List Int} {p : Int} {o : Bool} {cs : Array Value} {t : TypeId} (h : St w g l0 p o) (hb : w.heap[gb]? = some (.cells cs t (0, 0))) (hn : noInt .u8 cs = true) (hne : g ≠ gb) (j : Nat) (v : Value) : St (w.setCell ⟨gb, j, none⟩ v) g l0 p o := by
 obtain ⟨A, c, h1, hc, hg⟩ := h
 exact ⟨A, c, (Below.heap_setCell w ⟨gb, j, none⟩ v g hne).trans h1, cO hb hn hc, hg⟩
set_option maxHeartbeats 8000000 in
set_option maxRecDepth 100000 in
theorem zq.calls (k : Nat) (A0 : Option Addr) (c0 : Nat) (l0 : List Int) (U C0 C1 : List xc × List ByteArray) (ws : List ByteArray) (w : World) (hr0 : Kd.C (Kd.int .u8) w A0 l0.length l0) (hc0 : l0.length ≤ c0) (hl : l0.length < 140737488355328) (h : zq.f k = some (U, C0, C1, ws)) :
 Calls Tryd.prog 79 #[.slice A0 l0.length c0] w fun e w' => ∃ (g gx : Nat) (w0 : World), e = .returned (.pointer (some ⟨gx, 0, none⟩)) ∧ vo w0 w' g l0 0 true ∧ kS w.heap.size g gx U C0 C1 ws w' ∧ Below w0.heap.size w0 w' ∧ w0.heap.size = g ∧ Below w.heap.size w w' ∧ w.heap.size ≤ g ∧ g < gx ∧ gx < w'.heap.size := by
 have hu110 := Tryd.underlying110
 have hu107 := Tryd.underlying107
 have hu108 := Tryd.underlying108
 unfold zq.f at h
 obtain ⟨⟨t, te⟩, A1, h⟩ := Option.bind_eq_some_iff.mp h
 obtain ⟨⟨U1, U2⟩, A2, h⟩ := Option.bind_eq_some_iff.mp h
 obtain ⟨t2, A3, h⟩ := Option.bind_eq_some_iff.mp h
 obtain ⟨⟨D1, D2⟩, A4, h⟩ := Option.bind_eq_some_iff.mp h
 obtain ⟨t3, A5, h⟩ := Option.bind_eq_some_iff.mp h
 obtain ⟨⟨E1, E2⟩, A6, h⟩ := Option.bind_eq_some_iff.mp h
 obtain ⟨u, A7, h⟩ := Option.bind_eq_some_iff.mp h
 obtain ⟨yy, hyy⟩ : ∃ yy : List ByteArray, yy = [(⟨#[48, 48, 48, 49]⟩ : ByteArray), (⟨#[48, 48, 49]⟩ : ByteArray)] := ⟨_, rfl⟩
 rw [← hyy] at h
 simp only [Option.some.injEq, Prod.mk.injEq] at h
 obtain ⟨rfl, rfl, rfl, rfl⟩ := h
 have hul : u.length = 7 := by
  have := Option.some.inj A7
  rw [← this]; rfl
 have hll : yy.length = 2 := by rw [hyy]; rfl
 have Nyy := Aside0.mk hyy
 clear hyy
 have n_ := aC hr0 (aC hc0 (aC hl (aC A1 (aC A2 (aC A3 (aC A4 (aC A5 (aC A6 (aC A7 (aC hul (aC hll (aE (Below.refl w.heap.size w)))))))))))))
 clear hr0 hc0 hl A1 A2 A3 A4 A5 A6 A7 hul hll
 obtain ⟨HR0, HC0, HL0, A1, A2, A3, A4, A5, A6, A7, HUL, HLL, HB⟩ := n_
 go_enter Tryd.func79, Tryd.ntmps79
 go_wp2_with (first
  | (refine gF 57 6 Tryd.func57 #[.int .i64 0] rfl rfl ?_; (with_reducible refine (xI.calls k 0 t te _ A1.out).mono ?_); rintro e w1 ⟨v1, rfl, ho, hb⟩; refine ⟨_, rfl, ?_⟩; have n_ := aC (Kd.vX (Kd.vY (Kd.xF ho) (fun k_ hk => show k_ < w1.heap.size from hk.2.2.1)) bz) (aC (show w.heap.size ≤ w1.heap.size from (bs hb).size) (aE (bs hb))); clear HB; obtain ⟨HT, HGE0, HB⟩ := n_; clear ho hb; obtain ⟨At, ct, et⟩ := Kd.wq HT.out; subst et)
  | (refine gF 95 10 Tryd.func95 #[.slice A0 l0.length c0] rfl rfl ?_; (with_reducible refine (qd.calls A0 c0 l0 _ (Kd.wO HR0.out HB.out) HC0.out HL0.out).mono ?_); rintro e w3 ⟨gr, A3r, c3r, rfl, hcell, hrow, hge, hb⟩; refine ⟨_, rfl, ?_⟩; have n_ := aC hcell (aC (Kd.vY (Kd.xF hrow) (fun k_ hk => show k_ < gr ∧ w1.heap.size ≤ k_ from ⟨hk.1, hk.2.1⟩)) (aC hge (aC (ze hcell) (aC (Kd.vT HT.out hb) (aE (bs hb)))))); clear HB HT; obtain ⟨HCELL, HROW, HGE, HLT, HT, HB⟩ := n_; clear hcell hrow hge hb)
  | (refine gF 96 12 Tryd.func96 #[.slice At t.length ct] rfl rfl ?_; (with_reducible refine (wH.calls k (fun k_ => k_ < w1.heap.size) _ t U1 U2 w _ HB.out HT.out A2.out).mono ?_); rintro e w4 ⟨v2, v3, rfl, ho2, ho3, hb, hk⟩; refine ⟨_, rfl, ?_⟩; have n_ := aC ((hk.2 gr HLT.out (Nat.not_lt.mpr HGE.out)).trans HCELL.out) (aC (Kd.R_kept HROW.out hk (fun k_ h_ => Nat.not_lt.mpr h_.2)) (aC (Nat.lt_of_lt_of_le HLT.out hk.1) (aC (Kd.vY ho2 (fun k_ h_ => show k_ ≠ gr from h_.elim (fun q => Nat.ne_of_lt (Nat.lt_of_lt_of_le q HGE.out)) (fun q => Nat.ne_of_gt (Nat.lt_of_lt_of_le HLT.out q)))) (aC (Kd.vY ho3 (fun k_ h_ => show k_ ≠ gr from h_.elim (fun q => Nat.ne_of_lt (Nat.lt_of_lt_of_le q HGE.out)) (fun q => Nat.ne_of_gt (Nat.lt_of_lt_of_le HLT.out q)))) (aE hb))))); clear HB HT HCELL HROW HLT ho2 ho3 hb hk; obtain ⟨HCELL, HROW, HLT, HU1, HU2, HB⟩ := n_; obtain ⟨Au, cu, eu⟩ := Kd.wq HU1.out; subst eu; obtain ⟨Av, cv, ev⟩ := Kd.wq HU2.out; subst ev)
  | (refine gF 59 13 Tryd.func59 #[.int .i64 0] rfl rfl ?_; (with_reducible refine (yJ.calls 0 t2 _ A3.out).mono ?_); rintro e w5 ⟨v4, rfl, ho, hb5⟩; refine ⟨_, rfl, ?_⟩; have HB5 := Aside0.mk hb5; have HO5 := Aside0.mk ho; clear ho hb5)
  | (refine gF 96 14 Tryd.func96 #[v4] rfl rfl ?_; (with_reducible refine (wH.calls k (fun _ => True) v4 t2 D1 D2 w4 _ HB5.out HO5.out A4.out).mono ?_); rintro e w6 ⟨v5, v6, rfl, ho2, ho3, hb, hk⟩; refine ⟨_, rfl, ?_⟩; have n_ := aC (vu HCELL.out hb) (aC (Kd.vT HROW.out hb) (aC (Nat.lt_of_lt_of_le HLT.out hb.size) (aC (Kd.vT HU1.out hb) (aC (Kd.vT HU2.out hb) (aC (Kd.vX (Kd.vY (Kd.xF ho2) (fun k_ h_ => show k_ ≠ gr from Nat.ne_of_gt (Nat.lt_of_lt_of_le HLT.out h_.2.1))) HB.out.size) (aC (Kd.vX (Kd.vY (Kd.xF ho3) (fun k_ h_ => show k_ ≠ gr from Nat.ne_of_gt (Nat.lt_of_lt_of_le HLT.out h_.2.1))) HB.out.size) (aE (bs hb)))))))); clear HB HCELL HROW HLT HU1 HU2 ho2 ho3 hb hk HB5 HO5; obtain ⟨HCELL, HROW, HLT, HU1, HU2, HD1, HD2, HB⟩ := n_; obtain ⟨Ad, cd, ed⟩ := Kd.wq HD1.out; subst ed; obtain ⟨Af, cf, ef⟩ := Kd.wq HD2.out; subst ef)
  | (refine gF 59 15 Tryd.func59 #[.int .i64 1] rfl rfl ?_; (with_reducible refine (yJ.calls 1 t3 _ A5.out).mono ?_); rintro e w7 ⟨v7, rfl, ho, hb7⟩; refine ⟨_, rfl, ?_⟩; have HB7 := Aside0.mk hb7; have HO7 := Aside0.mk ho; clear ho hb7)
  | (refine gF 96 16 Tryd.func96 #[v7] rfl rfl ?_; (with_reducible refine (wH.calls k (fun _ => True) v7 t3 E1 E2 w6 _ HB7.out HO7.out A6.out).mono ?_); rintro e w8 ⟨v8, v9, rfl, ho2, ho3, hb, hk⟩; refine ⟨_, rfl, ?_⟩; have n_ := aC (vu HCELL.out hb) (aC (Kd.vT HROW.out hb) (aC (Nat.lt_of_lt_of_le HLT.out hb.size) (aC (Kd.vT HU1.out hb) (aC (Kd.vT HU2.out hb) (aC (Kd.vT HD1.out hb) (aC (Kd.vT HD2.out hb) (aC (Kd.vX (Kd.vY (Kd.xF ho2) (fun k_ h_ => show k_ ≠ gr from Nat.ne_of_gt (Nat.lt_of_lt_of_le HLT.out h_.2.1))) HB.out.size) (aC (Kd.vX (Kd.vY (Kd.xF ho3) (fun k_ h_ => show k_ ≠ gr from Nat.ne_of_gt (Nat.lt_of_lt_of_le HLT.out h_.2.1))) HB.out.size) (aE (bs hb)))))))))); clear HB HCELL HROW HLT HU1 HU2 HD1 HD2 ho2 ho3 hb hk HB7 HO7; obtain ⟨HCELL, HROW, HLT, HU1, HU2, HD1, HD2, HE1, HE2, HB⟩ := n_; obtain ⟨Ae, ce, ee⟩ := Kd.wq HE1.out; subst ee; obtain ⟨Ah, ch, eh⟩ := Kd.wq HE2.out; subst eh)
  | ((with_reducible refine gd 18 rfl ?_); refine Kd.zV Kd.string _ 9 ?hg (N := 18) ?hd (xs := ([(⟨#[48, 48, 48, 49]⟩ : ByteArray), (⟨#[48, 48, 49]⟩ : ByteArray)] : List ByteArray)) (inner := [.string (⟨#[48, 48, 48, 49]⟩ : ByteArray), .string (⟨#[48, 48, 49]⟩ : ByteArray)]) (ok := fun _ => True) (okp := fun _ => True) ?hr ?hp (fun _ hk => hk) trivial (Below.refl _ _) (Nat.le_refl _) (by simp) ?_; (case hd => rfl); (case hg => rfl); (case hr => first | (go_simp; done) | (go_simp; rfl)); (case hp => exact (wX.one (show Kd.M Kd.string _ _ _ (⟨#[48, 48, 48, 49]⟩ : ByteArray) [.string (⟨#[48, 48, 48, 49]⟩ : ByteArray)] from rfl) (wX.one (show Kd.M Kd.string _ _ _ (⟨#[48, 48, 49]⟩ : ByteArray) [.string (⟨#[48, 48, 49]⟩ : ByteArray)] from rfl) (wX.none _ _)))); intro v18 w9 ho2 hb hg_ hnew_; clear hg_ hnew_; (first | rw [← Nyy.out] at ho2 | (simp only [Int.reduceToNat] at ho2; rw [← Nyy.out] at ho2)); have HO18 := Aside0.mk ho2; have HB9 := Aside0.mk hb; clear ho2 hb)
  | (refine gF 77 19 Tryd.func77 #[] rfl rfl ?_; (with_reducible refine (yQ.calls u _ A7.out).mono ?_); rintro e w10 ⟨v19, rfl, ho, hb⟩; refine ⟨_, rfl, ?_⟩; have n_ := aC ho (aC (Kd.vT HO18.out hb) (aE (zr HB9.out hb))); clear HO18 HB9 ho hb; obtain ⟨HO19, HO18, HB9⟩ := n_; obtain ⟨Ai, ci, ei⟩ := Kd.wq HO19.out; subst ei)
  | ((with_reducible refine xb (b := .append) (xs := #[.tmp 18, .tmp 19]) rfl ?_); at_builtin; refine Kd.xW Kd.string (w0 := w8) w8.heap.size rfl (.tmp 18) (.tmp 19) 30 9 (.string ⟨#[]⟩) 16 rfl Tryd.underlying30 info9 rfl (by decide) (by omega) v18 yy u _ _ _ (fun _ => True) (fun _ => False) rfl rfl ?aO ?aR (fun _ _ h => h) (fun _ h => h.elim) ?aF ?aB ?aS ?aL ?_; (case aR => exact (Kd.R_reads' HO19.out).2.2); (case aB => exact HB9.out); (case aF => exact (fun _ _ => trivial)); (case aO => exact HO18.out); (case aS => exact HB9.out.size); (case aL => have e1_ := HUL.out; have e2_ := HLL.out; omega); intro v20 w11 ho hb hg hat; have n_ := aC (vu HCELL.out hb) (aC (Kd.vT HROW.out hb) (aC (Nat.lt_of_lt_of_le HLT.out hb.size) (aC (Kd.vT HU1.out hb) (aC (Kd.vT HU2.out hb) (aC (Kd.vT HD1.out hb) (aC (Kd.vT HD2.out hb) (aC (Kd.vT HE1.out hb) (aC (Kd.vT HE2.out hb) (aC (Kd.vX (Kd.vY (Kd.xF ho) (fun k_ h_ => show k_ ≠ gr from Nat.ne_of_gt (Nat.lt_of_lt_of_le HLT.out h_.2.1))) HB.out.size) (aE (bs hb))))))))))); clear HB HCELL HROW HLT HU1 HU2 HD1 HD2 HE1 HE2 ho hb hg hat HO18 HO19 HB9; obtain ⟨HCELL, HROW, HLT, HU1, HU2, HD1, HD2, HE1, HE2, HW, HB⟩ := n_; obtain ⟨Aj, cj, ej⟩ := Kd.wq HW.out; subst ej)
  | ((with_reducible refine gd 22 rfl ?_); refine bx 22 #[.pointer (some ⟨gr, 0, none⟩), .slice Au U1.length cu, .slice Av U2.length cv, .slice Ad D1.length cd, .slice Af D2.length cf, .slice Ae E1.length ce, .slice Ah E2.length ch, .slice Aj (yy ++ u).length cj] 110 rfl rfl ?_; intro gx hg w12 hbox hb; have n_ := aC hbox (aC (show gx = _ from hg) (aE hb)); clear hbox hb; obtain ⟨HBOX, HGX, HB12⟩ := n_))
 go_ret
 have hB := HB12.out
 have hlt : gr < gx := by rw [HGX.out]; exact HLT.out
 have hsz : gx < w12.heap.size := ze HBOX.out
 have hne : gx ≠ gr := Nat.ne_of_gt hlt
 have hle : gr ≤ w12.heap.size := by omega
 have hge0 : w.heap.size ≤ gr := Nat.le_trans HGE0.out HGE.out
 refine ⟨gr, gx, by rw [HGX.out]; rfl, cutAt w12 gr, ⟨A3r, c3r, vu HCELL.out hB, Nat.le_of_eq (zR hle), ?_⟩, ⟨Au, Av, Ad, Af, Ae, Ah, Aj, cu, cv, cd, cf, ce, ch, cj, ⟨?_, ?_, ?_, ?_, ?_, ?_, ?_⟩, ⟨?_, ?_, ?_, ?_⟩, fun W_ hk => ⟨(hk.2 gx (Nat.le_trans hge0 (Nat.le_of_lt hlt)) hsz hne).trans HBOX.out, ?_, ?_, ?_, ?_, ?_, ?_, ?_⟩⟩, kP hle, zR hle, bs hB, ?_, hlt, hsz⟩
 ·exact (Kd.R_reads' (Kd.jW (Kd.vT HROW.out hB) (fun k_ h_ => kB hle h_.1))).2.2
 ·exact (Kd.R_reads' HU1.out).2.1
 ·exact (Kd.R_reads' HU2.out).2.1
 ·exact (Kd.R_reads' HD1.out).2.1
 ·exact (Kd.R_reads' HD2.out).2.1
 ·exact (Kd.R_reads' HE1.out).2.1
 ·exact (Kd.R_reads' HE2.out).2.1
 ·exact (Kd.R_reads' HW.out).2.1
 ·intro ad ha _; exact HU2.out.1 _ (by rw [ha]; rfl)
 ·intro ad ha _; exact HD2.out.1 _ (by rw [ha]; rfl)
 ·intro ad ha _; exact HE2.out.1 _ (by rw [ha]; rfl)
 ·intro ad ha _; exact HW.out.1 _ (by rw [ha]; rfl)
 ·exact (Kd.R_reads' (Kd.zt (Kd.xF (Kd.vT HU1.out hB)) (fun k_ ho hl_ => hk.2 k_ ho.2.1 hl_ ho.1))).2.2
 ·exact (Kd.R_reads' (Kd.zt (Kd.xF (Kd.vT HU2.out hB)) (fun k_ ho hl_ => hk.2 k_ ho.2.1 hl_ ho.1))).2.2
 ·exact (Kd.R_reads' (Kd.zt (Kd.xF (Kd.vT HD1.out hB)) (fun k_ ho hl_ => hk.2 k_ ho.2.1 hl_ ho.1))).2.2
 ·exact (Kd.R_reads' (Kd.zt (Kd.xF (Kd.vT HD2.out hB)) (fun k_ ho hl_ => hk.2 k_ ho.2.1 hl_ ho.1))).2.2
 ·exact (Kd.R_reads' (Kd.zt (Kd.xF (Kd.vT HE1.out hB)) (fun k_ ho hl_ => hk.2 k_ ho.2.1 hl_ ho.1))).2.2
 ·exact (Kd.R_reads' (Kd.zt (Kd.xF (Kd.vT HE2.out hB)) (fun k_ ho hl_ => hk.2 k_ ho.2.1 hl_ ho.1))).2.2
 ·exact (Kd.R_reads' (Kd.zt (Kd.xF (Kd.vT HW.out hB)) (fun k_ ho hl_ => hk.2 k_ ho.2.1 hl_ ho.1))).2.2
 ·exact hge0
theorem qa : zq.f 200 = some (tU, kT, kR, tW) := by kernel_rfl
theorem kS.mono {B B' g gx : Nat} {U C0 C1 : List xc × List ByteArray} {ws : List ByteArray} {w : World} (h : kS B g gx U C0 C1 ws w) (hB : B' ≤ B) : kS B' g gx U C0 C1 ws w := by
 obtain ⟨a1, a2, a3, a4, a5, a6, a7, c1, c2, c3, c4, c5, c6, c7, hl, hf, hW⟩ := h
 exact ⟨a1, a2, a3, a4, a5, a6, a7, c1, c2, c3, c4, c5, c6, c7, hl, hf, fun W_ q => hW W_ ⟨q.1, fun i h1 h2 h3 => q.2 i (Nat.le_trans hB h1) h2 h3⟩⟩
theorem St.off {w w' : World} {g gb : Nat} {l0 : List Int} {p : Int} {o : Bool} {cs : Array Value} {t : TypeId} (h : St w g l0 p o) (hb : w.heap[gb]? = some (.cells cs t (0, 0))) (hn : noInt .u8 cs = true) (hne : gb ≠ g) [u : WOff gb w w'] : St w' g l0 p o := by
 have hlt := h.lt
 obtain ⟨A, c, h1, hc, hg⟩ := h
 exact ⟨A, c, (u.off.2 g hlt hne.symm).trans h1, cO hb hn hc, hg⟩
theorem Kb.off {w w' : World} {g gb : Nat} [u : WOff gb w w'] : Kb (gb + 1) g w w' := ⟨u.off.1, fun i h1 h2 _ => u.off.2 i h2 (by omega)⟩
theorem Kb.grown {B g : Nat} {w W W2 : World} {row : Option Nat} (h : Kb B g w W) (hg : W.grownBy W2 row) (hr : ∀ k, row = some k → w.heap.size ≤ k) : Kb B g w W2 :=
 ⟨Nat.le_trans h.1 hg.size, fun i h1 h2 h3 => (hg.block i (Nat.lt_of_lt_of_le h2 h.1) (fun e => absurd (hr i e.symm) (Nat.not_le.mpr h2))).trans (h.2 i h1 h2 h3)⟩
theorem St.grown {w W2 : World} {g : Nat} {l0 : List Int} {p : Int} {o : Bool} {row : Option Nat} (h : St w g l0 p o) (hg : w.grownBy W2 row) (hr : ∀ k, row = some k → g < k) : St W2 g l0 p o :=
 h.same (fun i hi => hg.block i (Nat.lt_of_le_of_lt hi h.lt) (fun e => absurd (hr i e.symm) (Nat.not_lt.mpr hi)))
theorem jX {B g : Nat} {w W W2 : World} {n : Nat} (h : Below B w W) (hB : B ≤ w.heap.size) (hb : Below n (cutAt W g) W2) (hk : vx W W2 g none) (hg : B ≤ g) : Below B w W2 :=
 ⟨hb.os.trans h.os, hb.tape.trans h.tape, hb.output.trans h.output, Nat.le_trans h.size hk.1, fun i hi => (hk.2 i (Nat.lt_of_lt_of_le hi (Nat.le_trans hB h.size)) (Nat.ne_of_lt (Nat.lt_of_lt_of_le hi hg)) (by simp)).trans (h.block i hi)⟩
theorem zL {B n : Nat} {w W W2 : World} (h : Below B w W) (hb : Below n W W2) (hn : B ≤ n) : Below B w W2 :=
 ⟨hb.os.trans h.os, hb.tape.trans h.tape, hb.output.trans h.output, Nat.le_trans h.size hb.size, fun i hi => (hb.block i (Nat.lt_of_lt_of_le hi hn)).trans (h.block i hi)⟩
theorem want_ {c : Bool} {A B : Prop} (hc : c = true) (h : A) : if c = true then A else B := by rw [if_pos hc]; exact h
theorem kt {B : Nat} {w W : World} {p : Addr} {v : Value} (h : Below B w W) (hp : B ≤ p.block) : Below B w (W.setCell p v) :=
 ⟨h.os, h.tape, h.output, by simpa [World.setCell] using h.size, fun k hk => (Below.heap_setCell W p v k (Nat.ne_of_lt (Nat.lt_of_lt_of_le hk hp))).trans (h.block k hk)⟩
def Tw (w0 wT w : World) (g gs : Nat) (l0 : List Int) (p : Int) (o : Bool) (W a col : Int) (Ab : Option Addr) (nb cb : Nat) (u : Value) (out : List Int) : Prop :=
 vo w0 w g l0 p o ∧ Below w0.heap.size w0 w ∧ vx wT w g none ∧ w.heap[gs]? = some (.cells #[.int .i64 W, .int .i64 a, .int .i64 col, .slice Ab nb cb, u] 119 (0, 0)) ∧ Kd.R (Kd.int .u8) 5 w wT.heap.size (fun _ => True) u out ∧ wT.heap.size ≤ gs ∧ g < wT.heap.size
theorem Tw.hi {w0 wT w : World} {g gs : Nat} {l0 : List Int} {p : Int} {o : Bool} {W a col : Int} {Ab : Option Addr} {nb cb : Nat} {u : Value} {out : List Int} (h : Tw w0 wT w g gs l0 p o W a col Ab nb cb u out) : vo w0 w g l0 p o := h.1
theorem Tw.hb {w0 wT w : World} {g gs : Nat} {l0 : List Int} {p : Int} {o : Bool} {W a col : Int} {Ab : Option Addr} {nb cb : Nat} {u : Value} {out : List Int} (h : Tw w0 wT w g gs l0 p o W a col Ab nb cb u out) : Below w0.heap.size w0 w := h.2.1
theorem Tw.hk {w0 wT w : World} {g gs : Nat} {l0 : List Int} {p : Int} {o : Bool} {W a col : Int} {Ab : Option Addr} {nb cb : Nat} {u : Value} {out : List Int} (h : Tw w0 wT w g gs l0 p o W a col Ab nb cb u out) : vx wT w g none := h.2.2.1
theorem Tw.hc {w0 wT w : World} {g gs : Nat} {l0 : List Int} {p : Int} {o : Bool} {W a col : Int} {Ab : Option Addr} {nb cb : Nat} {u : Value} {out : List Int} (h : Tw w0 wT w g gs l0 p o W a col Ab nb cb u out) : w.heap[gs]? = some (.cells #[.int .i64 W, .int .i64 a, .int .i64 col, .slice Ab nb cb, u] 119 (0, 0)) := h.2.2.2.1
theorem Tw.hr {w0 wT w : World} {g gs : Nat} {l0 : List Int} {p : Int} {o : Bool} {W a col : Int} {Ab : Option Addr} {nb cb : Nat} {u : Value} {out : List Int} (h : Tw w0 wT w g gs l0 p o W a col Ab nb cb u out) : Kd.R (Kd.int .u8) 5 w wT.heap.size (fun _ => True) u out := h.2.2.2.2.1
theorem Tw.hs {w0 wT w : World} {g gs : Nat} {l0 : List Int} {p : Int} {o : Bool} {W a col : Int} {Ab : Option Addr} {nb cb : Nat} {u : Value} {out : List Int} (h : Tw w0 wT w g gs l0 p o W a col Ab nb cb u out) : wT.heap.size ≤ gs := h.2.2.2.2.2.1
theorem Tw.keep {w0 wT w w' : World} {g gs : Nat} {l0 : List Int} {p p' : Int} {o o' : Bool} {W a col : Int} {Ab : Option Addr} {nb cb : Nat} {u : Value} {out : List Int} (h : Tw w0 wT w g gs l0 p o W a col Ab nb cb u out) (hi : vo w0 w' g l0 p' o') (hb : Below w0.heap.size w0 w') (hk : vx w w' g none) : Tw w0 wT w' g gs l0 p' o' W a col Ab nb cb u out := by
 obtain ⟨h1, h2, h3, h4, h5, h6, h7⟩ := h
 exact ⟨hi, hb, h3.trans hk (.inl rfl), hk.blk h4 (by omega) (by simp), Kd.vY (Kd.zt (Kd.xF h5) (fun k_ h_ hl_ => hk.2 k_ hl_ (Nat.ne_of_gt (Nat.lt_of_lt_of_le h7 h_.2.1)) (by simp))) (fun _ _ => trivial), h6, h7⟩
theorem Tw.step {w0 wT w w' : World} {g gs : Nat} {l0 : List Int} {p : Int} {o : Bool} {W a a' col col' : Int} {Ab : Option Addr} {nb cb : Nat} {u u' : Value} {out out' : List Int} (h : Tw w0 wT w g gs l0 p o W a col Ab nb cb u out) (hb : Below wT.heap.size w w') (h4' : w'.heap[gs]? = some (.cells #[.int .i64 W, .int .i64 a', .int .i64 col', .slice Ab nb cb, u'] 119 (0, 0))) (h5' : Kd.R (Kd.int .u8) 5 w' wT.heap.size (fun _ => True) u' out') : Tw w0 wT w' g gs l0 p o W a' col' Ab nb cb u' out' := by
 obtain ⟨h1, h2, h3, h4, h5, h6, h7⟩ := h
 have hg := h1.ge
 refine ⟨?_, zL h2 hb (by omega), ⟨Nat.le_trans h3.1 hb.size, fun i hi hne hr => (hb.block i hi).trans (h3.2 i hi hne hr)⟩, h4', h5', h6, h7⟩
 obtain ⟨A, c, x1, x2, x3⟩ := h1
 exact ⟨A, c, (hb.block g h7).trans x1, x2, x3⟩
def xt.T0 : Bool × List (List Nat × List Nat) := (true, [([], []), ([], []), ([1], [1]), ([2], [2]), ([3], [3]), ([], []), ([5], [5]), ([6], [6]), ([], []), ([], []), ([9], [9]), ([10], [10]), ([11], [11]), ([12], [12]), ([8, 13], [8, 13]), ([7, 14], [7, 14]), ([4, 15, 15], [4, 15]), ([0, 0, 1, 2, 3, 4, 5, 6, 7, 8, 9, 10, 11, 12, 13, 14, 15, 16], [0]), ([17, 0, 1, 2, 3, 4, 5, 6, 7, 8, 9, 10, 11, 12, 13, 14, 15, 16], [17]), ([18, 16, 16, 0, 1, 2, 3, 4, 5, 6, 7, 8, 9, 10, 11, 12, 13, 14, 15, 16], [16, 18])])
def xt.B0 : List Nat := [0, 0, 2, 6, 14, 0, 32, 96, 0, 0, 512, 1536, 3584, 7680, 16128, 32736, 65534, 131071, 262143, 524287]
theorem xt.tab0 : yN .any (opsOf Tryd.f104 0) = xt.T0 := by kernel_rfl
theorem xt.bits0 : yi xt.T0.2 xt.B0 = true := by kernel_rfl
def xt.f (k : Nat) (out : List Int) (x c : Int) : Option (List Int) := (vq.f k [c % 256] (wrap64 (x - (out.length : Int)))).bind fun t => if out.length + t.length < 140737488355328 then some (out ++ t) else none
set_option maxHeartbeats 8000000 in
set_option maxRecDepth 100000 in
theorem xt.calls (k : Nat) (w0 wT w : World) (g gs : Nat) (l0 : List Int) (p : Int) (o : Bool) (W a col : Int) (Ab : Option Addr) (nb cb : Nat) (u : Value) (out : List Int) (x c : Int) (r : List Int) (hT : Tw w0 wT w g gs l0 p o W a col Ab nb cb u out) (h : xt.f k out x c = some r) :
  Calls Tryd.prog 104 #[.pointer (some ⟨gs, 0, none⟩), .int .i64 x, .int .i64 c] w fun e w' => e = .returned (.tuple #[]) ∧ ∃ u', Tw w0 wT w' g gs l0 p o W x col Ab nb cb u' r := by
 have hu119 := Tryd.underlying119
 have HTW := Aside0.mk hT
 obtain ⟨h1, h2, h3, h4, h5, h6, h7⟩ := hT
 unfold xt.f at h
 obtain ⟨t, A1, h⟩ := Option.bind_eq_some_iff.mp h
 by_cases lm : out.length + t.length < 140737488355328
 ·rw [if_pos lm] at h
  obtain rfl := Option.some.inj h
  obtain ⟨Au, cu, eu⟩ := Kd.wq h5
  subst eu
  obtain ⟨yy, hyy⟩ : ∃ yy : List Int, yy = out ++ t := ⟨_, rfl⟩
  have n_ := aC A1 (aC lm (aC hyy (aC h4 (aC h5 (aC h6 (aC h3.1 (aE (Below.refl wT.heap.size w))))))))
  rw [← hyy]
  clear A1 lm hyy h1 h2 h3 h4 h5 h6
  obtain ⟨A1, LM, Nyy, BK, HO, GS, SZ, HB⟩ := n_
  go_enter Tryd.func104, Tryd.ntmps104
  go_wp2
  have n_ := aC (vn BK.out) (aC (Kd.jG HO.out) (aE (vG HB.out)))
  clear BK HO HB
  obtain ⟨BK, HO, HB⟩ := n_
  refine st 20 (fun w' => w'.cell? ⟨gs, 4, none⟩ = some (.slice Au out.length cu)) [19] (bv 20 0) xt.tab0 xt.bits0 (kc4 BK.out) (fun hHeld HT_ HW_ => ?_)
  generalize w.drew = w12 at BK HO HB hHeld ⊢
  refine pu 0 6 (bv 20 1) HT_ rfl rfl ?_
  refine pu 1 7 (bv 20 3) HT_ rfl rfl ?_
  refine pu 2 8 (bv 20 7) HT_ rfl rfl ?_
  refine pu 3 9 (bv 20 15) HT_ rfl rfl ?_
  refine tk 4 10 (bv 20 31) HT_ HW_ hHeld rfl rfl (by rintro w' s0; exact yl) ?_
  refine pu 5 11 (bv 20 63) HT_ rfl rfl ?_
  refine pu 6 12 (bv 20 127) HT_ rfl rfl ?_
  refine pu 8 14 (bv 20 383) HT_ rfl rfl ?_
  refine pu 9 15 (bv 20 895) HT_ rfl rfl ?_
  refine pu 10 16 (bv 20 1919) HT_ rfl rfl ?_
  refine pu 11 17 (bv 20 3967) HT_ rfl rfl ?_
  refine tk 12 18 (bv 20 8063) HT_ HW_ hHeld rfl rfl (by rintro w' s0; exact yl) ?_
  refine pu 13 19 (bv 20 16255) HT_ rfl rfl ?_
  refine pu 14 20 (bv 20 32639) HT_ rfl rfl ?_
  refine yz (i := 7) (N := some 13) (bv 20 32767) rfl rfl (xq HT_.out (by kernel_rfl)) (by decide) (fun K hK => ?_)
  refine Kd.qg (Kd.int .u8) (w0 := w12) w12.heap.size 5 (by rfl) (N := 13) rfl (xs := [c % 256]) (inner := [.int .u8 (c % 256)]) (ok := fun _ => True) (okp := fun _ => True) ?hr ?hp (fun _ hk => hk) trivial (Below.refl _ _) (Nat.le_refl _) (by simp) ?_
  (case hr => first | (go_simp; done) | (go_simp; rfl))
  (case hp => exact (wX.one (show Kd.M (Kd.int .u8) _ _ _ (c % 256) [.int .u8 (c % 256)] from rfl) (wX.none _ _)))
  intro v13 w13 ho13 hb hg13 hn13
  have n_ := aC (vu BK.out hb) (aC ho13 (aC (Kd.vT HO.out hb) (aE (zL HB.out hb (Nat.le_trans SZ.out HB.out.size)))))
  clear BK HO HB ho13 hb hg13 hn13
  obtain ⟨BK, HO13, HO, HB⟩ := n_
  obtain ⟨A13, c13, e13⟩ := Kd.wq HO13.out
  subst e13
  refine hK.out _ _ (kc4 BK.out) (fun hHeld => ?_)
  clear hK K
  refine nm (some 13) ?_
  refine yz (i := 15) (N := some 21) (bv 20 65535) rfl rfl (xq HT_.out (by kernel_rfl)) (by decide) (fun K hK => ?_)
  refine gK Tryd.func45 rfl #[.slice A13 [c % 256].length c13, .int .i64 (wrap64 (x - (out.length : Int)))] rfl rfl ?_
  with_reducible refine (vq.calls k A13 c13 [c % 256] (wrap64 (x - (out.length : Int))) t _ (Kd.R_reads' HO13.out).2.2 (Kd.R_reads' HO13.out).2.1 A1.out).mono ?_
  rintro e w14 ⟨v21, rfl, ho, hb⟩
  refine ⟨_, rfl, ?_⟩
  have n_ := aC (vu BK.out hb) (aC ho (aC (Kd.vT HO.out hb) (aE (zL HB.out hb (Nat.le_trans SZ.out HB.out.size)))))
  clear BK HO HB HO13 ho hb
  obtain ⟨BK, HO21, HO, HB⟩ := n_
  obtain ⟨A21, c21, e21⟩ := Kd.wq HO21.out
  subst e21
  refine hK.out _ _ (kc4 BK.out) (fun hHeld => ?_)
  clear hK K
  refine nm (some 21) ?_
  refine yz (i := 16) (N := some 22) (bv 20 131071) rfl rfl (xq HT_.out (by kernel_rfl)) (by decide) (fun K hK => ?_)
  refine Kd.zE (Kd.int .u8) (w0 := w14) wT.heap.size (by rfl) (.tmp 10) (.tmp 21) 22 5 (.int .u8 0) 1 rfl Tryd.underlying22 info5 rfl (by decide) (by omega) (.slice Au out.length cu) out t _ _ _ (fun _ => True) (fun _ => False) rfl rfl ?aO ?aR (fun _ _ h => h) (fun _ h => h.elim) ?aF ?aB ?aS ?aL ?_
  (case aR => exact (Kd.R_reads' HO21.out).2.2)
  (case aB => exact Below.refl _ _)
  (case aF => exact (fun _ _ => trivial))
  (case aO => exact HO.out)
  (case aS => exact Nat.le_trans SZ.out HB.out.size)
  (case aL => have := LM.out; omega)
  intro v22 w15 ho hb hg hat
  rw [← Nyy.out] at ho
  have n_ := aC (xx (g := gs) BK.out hg (Kd.jh HO.out BK.out (by decide))) (aC ho (aE (zL HB.out hb (Nat.le_refl _))))
  clear BK HO HO21 HB ho hb hg hat
  obtain ⟨BK, HO, HB⟩ := n_
  obtain ⟨A22, c22, e22⟩ := Kd.wq HO.out
  subst e22
  refine hK.out _ _ (kc4 BK.out) (fun hHeld => ?_)
  clear hK K
  refine nm (some 22) ?_
  refine pu 17 23 (bv 20 262143) HT_ rfl rfl ?_
  refine pu 18 24 (bv 20 524287) HT_ rfl rfl ?_
  refine last_ (i := 19) (N := none) (bv 20 1048575) rfl rfl (xq HT_.out (by kernel_rfl)) (by decide) (fun K hK => ?_)
  refine want_ (by rfl) ?_
  obtain ⟨hcz0, hcz1, hcz2, hcz3, hcz4, hfz0, hfz1, hfz2, hfz3, hfz4⟩ := ya BK.out
  unfold Oper.wp
  go_simp
  refine hK.out _ _ ?_
  clear hK K
  refine yO (xS HT_.out (by kernel_rfl)) ?_
  clear hcz0 hcz1 hcz2 hcz3 hcz4 hfz0 hfz1 hfz2 hfz3 hfz4 hHeld
  have BK2 := vv (cs := #[.int .i64 W, .int .i64 a, .int .i64 col, .slice Ab nb cb, .slice Au out.length cu]) BK.out 4 (.slice A22 yy.length c22) rfl
  obtain ⟨hcz0, hcz1, hcz2, hcz3, hcz4, hfz0, hfz1, hfz2, hfz3, hfz4⟩ := ya BK2
  go_wp2
  go_end0
  refine ⟨rfl, .slice A22 yy.length c22, Tw.step HTW.out (kt (kt HB.out GS.out) GS.out) (vv (cs := #[.int .i64 W, .int .i64 a, .int .i64 col, .slice Ab nb cb, .slice A22 yy.length c22]) BK2 1 _ rfl) ?_⟩
  exact Kd.vY (Kd.wI (p := ⟨gs, 1, none⟩) (Kd.wI (p := ⟨gs, 4, none⟩) (Kd.xu HO.out BK.out (by decide)) (fun _ hk => hk.2) _) (fun _ hk => hk.2) _) (fun _ _ => trivial)
 ·rw [if_neg lm] at h
  exact absurd h (by simp)
theorem Tw.run {w0 wT w : World} {g gs gx : Nat} {l0 : List Int} {p : Int} {o : Bool} {W a col : Int} {Ab : Option Addr} {nb cb : Nat} {u : Value} {out : List Int} {k : Nat} {c r1 r2 r3 : Int} {r4 : Bool} (hT : Tw w0 wT w g gs l0 p o W a col Ab nb cb u out) (hX : Xok g gx tU kT kR tW wT) (h : xm.f k l0 p o c = some (r1, r2, r3, r4)) : Calls Tryd.prog 81 #[.pointer (some ⟨gx, 0, none⟩), .int .i64 c] w fun e w' => e = .returned (.tuple #[.int .i64 r1, .int .i64 r2]) ∧ Tw w0 wT w' g gs l0 r3 r4 W a col Ab nb cb u out := by
 refine (xm.calls k g l0 p o c r1 r2 r3 r4 w0 w hT.hi hT.hb gx (hX.keep hT.hk) h).mono ?_
 rintro e w1 ⟨rfl, hi, hb, hk⟩
 exact ⟨rfl, hT.keep hi hb hk⟩
theorem Tw.fill {w0 wT w : World} {g gs : Nat} {l0 : List Int} {p : Int} {o : Bool} {W a col : Int} {Ab : Option Addr} {nb cb : Nat} {u : Value} {out : List Int} {k : Nat} {x c : Int} {r : List Int} (hT : Tw w0 wT w g gs l0 p o W a col Ab nb cb u out) (h : xt.f k out x c = some r) : Calls Tryd.prog 104 #[.pointer (some ⟨gs, 0, none⟩), .int .i64 x, .int .i64 c] w fun e w' => e = .returned (.tuple #[]) ∧ ∃ (A : Option Addr) (c' : Nat), Tw w0 wT w' g gs l0 p o W x col Ab nb cb (.slice A r.length c') r := by
 refine (xt.calls k w0 wT w g gs l0 p o W a col Ab nb cb u out x c r hT h).mono ?_
 rintro e w1 ⟨rfl, u', h1⟩
 obtain ⟨A, c', e'⟩ := Kd.wq h1.hr
 subst e'
 exact ⟨rfl, A, c', h1⟩
def yW.f (k : Nat) (l0 : List Int) (p : Int) (o : Bool) (W a col : Int) (out : List Int) : Option (Int × Int × Bool × Int × List Int) :=
 (xm.f k l0 p o col).bind fun n => (if n.2.1 = 0 then (if n.1 = 0 ∧ a ≥ 0 then some (3, n.2.2.1, n.2.2.2, a, out) else (if wrap64 ((out.length : Int) + n.1) > W then some (3, n.2.2.1, n.2.2.2, a, out) else
  ((xm.f k l0 n.2.2.1 n.2.2.2 (wrap64 (1 - col))).bind fun m => (if m.2.1 = 0 then (if m.1 > wrap64 (W - wrap64 ((out.length : Int) + n.1)) then some (3, m.2.2.1, m.2.2.2, a, out) else (if (m.1 = 0 ∧ wrap64 ((out.length : Int) + n.1) = W) ∨ (m.1 ≠ 0 ∧ wrap64 ((out.length : Int) + n.1) ≠ W) then
   ((xt.f k out (wrap64 ((out.length : Int) + n.1)) col).bind fun out1 => (xt.f k out1 (wrap64 (wrap64 ((out.length : Int) + n.1) + m.1)) (wrap64 (1 - col))).bind fun out2 => some (0, m.2.2.1, m.2.2.2, wrap64 (wrap64 ((out.length : Int) + n.1) + m.1), out2))
   else some (3, m.2.2.1, m.2.2.2, a, out))) else some (m.2.1, m.2.2.1, m.2.2.2, a, out))))) else some (n.2.1, n.2.2.1, n.2.2.2, a, out))
theorem xt.mono : ∀ a0 a1 a2 k, vP (xt.f k a0 a1 a2) (xt.f (k + 1) a0 a1 a2) := by
 intro a0 a1 a2 k
 unfold xt.f
 exact vP.bind (vq.mono _ _ k) (fun t => vP.refl _)
theorem yW.mono : ∀ a0 a1 a2 a3 a4 a5 a6 k, vP (yW.f k a0 a1 a2 a3 a4 a5 a6) (yW.f (k + 1) a0 a1 a2 a3 a4 a5 a6) := by
 intro a0 a1 a2 a3 a4 a5 a6 k
 unfold yW.f
 exact vP.bind (xm.mono _ _ _ _ k) (fun n => vP.ite (vP.ite (vP.refl _) (vP.ite (vP.refl _) (vP.bind (xm.mono _ _ _ _ k) (fun m => vP.ite (vP.ite (vP.refl _) (vP.ite (vP.bind (xt.mono _ _ _ k) (fun x => vP.bind (xt.mono _ _ _ k) (fun y => vP.refl _))) (vP.refl _))) (vP.refl _))))) (vP.refl _))
set_option maxHeartbeats 16000000 in
set_option maxRecDepth 100000 in
theorem yW.calls (k : Nat) (w0 wT w : World) (g gs gx : Nat) (l0 : List Int) (p : Int) (o : Bool) (W a col : Int) (Ab : Option Addr) (nb cb : Nat) (u : Value) (out : List Int) (r1 r2 : Int) (r3 : Bool) (r4 : Int) (r5 : List Int) (hT : Tw w0 wT w g gs l0 p o W a col Ab nb cb u out) (hX : Xok g gx tU kT kR tW wT) (h : yW.f k l0 p o W a col out = some (r1, r2, r3, r4, r5)) :
  Calls Tryd.prog 103 #[.pointer (some ⟨gx, 0, none⟩), .pointer (some ⟨gs, 0, none⟩)] w fun e w' => e = .returned (.int .i64 r1) ∧ ∃ u', Tw w0 wT w' g gs l0 r2 r3 W r4 col Ab nb cb u' r5 := by
 have hu119 := Tryd.underlying119
 have HT := Aside0.mk hT
 have HX := Aside0.mk hX
 clear hT hX
 obtain ⟨Au, cu, eu⟩ := Kd.wq HT.out.hr
 subst eu
 obtain ⟨⟨n1, n2, n3, n4⟩, A1, H⟩ := Option.bind_eq_some_iff.mp h
 clear h
 have A1 := Aside0.mk A1
 have HH := Aside0.mk H
 clear H
 have H := HH.out
 clear HH
 try dsimp only at H
 rcases iE H with H1 | H1 <;> clear H <;> obtain ⟨H, c2b0, c2b1, c2⟩ := H1
 ·by_cases c3 : n1 = 0
  ·have c3_ := c3
   have c3b0 := beq_iff_eq.mpr c3
   have c3b1 := bne_eq_false_iff_eq.mpr c3
   by_cases c4 : a ≥ 0
   ·rw [if_pos ⟨c3, c4⟩] at H
    have c4b0 := decide_eq_true c4
    clear c3 c3_ c4
    simp only [Option.some.injEq, Prod.mk.injEq] at H
    obtain ⟨rfl, rfl, rfl, rfl, rfl⟩ := H
    obtain ⟨z0, z1, z2, z3, z4, y0, y1, y2, y3, y4⟩ := ya HT.out.hc
    go_enter Tryd.func103, Tryd.ntmps103
    go_wp2_with (first | (refine gF 81 15 Tryd.func81 #[.pointer (some ⟨gx, 0, none⟩), .int .i64 col] rfl rfl ?_; refine (HT.out.run HX.out A1.out).mono ?_; rintro e w1 ⟨rfl, h1⟩; refine ⟨_, rfl, ?_⟩; clear HT; have HT := aE h1; obtain ⟨z0, z1, z2, z3, z4, y0, y1, y2, y3, y4⟩ := ya HT.out.hc))
    go_ret
    exact ⟨re, _, HT.out⟩
   ·rw [if_neg (fun z => c4 z.2)] at H
    have c4b0 := decide_eq_false c4
    clear c3 c3_ c4
    rcases iL H with H1 | H1 <;> clear H <;> obtain ⟨H, c5b0⟩ := H1
    ·simp only [Option.some.injEq, Prod.mk.injEq] at H
     obtain ⟨rfl, rfl, rfl, rfl, rfl⟩ := H
     obtain ⟨z0, z1, z2, z3, z4, y0, y1, y2, y3, y4⟩ := ya HT.out.hc
     go_enter Tryd.func103, Tryd.ntmps103
     go_wp2_with (first | (refine gF 81 15 Tryd.func81 #[.pointer (some ⟨gx, 0, none⟩), .int .i64 col] rfl rfl ?_; refine (HT.out.run HX.out A1.out).mono ?_; rintro e w1 ⟨rfl, h1⟩; refine ⟨_, rfl, ?_⟩; clear HT; have HT := aE h1; obtain ⟨z0, z1, z2, z3, z4, y0, y1, y2, y3, y4⟩ := ya HT.out.hc))
     go_ret
     exact ⟨re, _, HT.out⟩
    ·obtain ⟨⟨m1, m2, m3, m4⟩, A20, H⟩ := Option.bind_eq_some_iff.mp H
     have A2 := Aside0.mk (show xm.f k l0 n3 n4 (wrap64 (1 - col)) = some (m1, m2, m3, m4) from A20)
     clear A20
     try dsimp only at H
     by_cases d2 : m2 = 0
     ·rw [if_pos d2] at H
      have d2b0 := beq_iff_eq.mpr d2
      have d2b1 := bne_eq_false_iff_eq.mpr d2
      clear d2
      by_cases d3 : m1 > wrap64 (W - (wrap64 ((out.length : Int) + n1)))
      ·rw [if_pos d3] at H
       have d3b0 := decide_eq_true d3
       clear d3
       simp only [Option.some.injEq, Prod.mk.injEq] at H
       obtain ⟨rfl, rfl, rfl, rfl, rfl⟩ := H
       obtain ⟨z0, z1, z2, z3, z4, y0, y1, y2, y3, y4⟩ := ya HT.out.hc
       go_enter Tryd.func103, Tryd.ntmps103
       go_wp2_with (first | (refine gF 81 15 Tryd.func81 #[.pointer (some ⟨gx, 0, none⟩), .int .i64 col] rfl rfl ?_; refine (HT.out.run HX.out A1.out).mono ?_; rintro e w1 ⟨rfl, h1⟩; refine ⟨_, rfl, ?_⟩; clear HT; have HT := aE h1; obtain ⟨z0, z1, z2, z3, z4, y0, y1, y2, y3, y4⟩ := ya HT.out.hc) | (refine gF 81 52 Tryd.func81 #[.pointer (some ⟨gx, 0, none⟩), .int .i64 (wrap64 (1 - col))] rfl rfl ?_; refine (HT.out.run HX.out A2.out).mono ?_; rintro e w1 ⟨rfl, h1⟩; refine ⟨_, rfl, ?_⟩; clear HT; have HT := aE h1; obtain ⟨z0, z1, z2, z3, z4, y0, y1, y2, y3, y4⟩ := ya HT.out.hc))
       go_ret
       exact ⟨re, _, HT.out⟩
      ·rw [if_neg d3] at H
       have d3b0 := decide_eq_false d3
       clear d3
       by_cases d4 : m1 = 0
       ·have d4_ := d4
        have d4b0 := beq_iff_eq.mpr d4
        have d4b1 := bne_eq_false_iff_eq.mpr d4
        by_cases d5 : (wrap64 ((out.length : Int) + n1)) = W
        ·have d5_ := d5
         have d5b0 := beq_iff_eq.mpr d5
         have d5b1 := bne_eq_false_iff_eq.mpr d5
         rw [if_pos (.inl ⟨d4, d5⟩)] at H
         clear d4 d4_ d5 d5_
         obtain ⟨out1, A30, H⟩ := Option.bind_eq_some_iff.mp H
         obtain ⟨out2, A40, H⟩ := Option.bind_eq_some_iff.mp H
         have A3 := Aside0.mk A30
         have A4 := Aside0.mk A40
         clear A30 A40
         simp only [Option.some.injEq, Prod.mk.injEq] at H
         obtain ⟨rfl, rfl, rfl, rfl, rfl⟩ := H
         obtain ⟨z0, z1, z2, z3, z4, y0, y1, y2, y3, y4⟩ := ya HT.out.hc
         go_enter Tryd.func103, Tryd.ntmps103
         go_wp2_with (first | (refine gF 81 15 Tryd.func81 #[.pointer (some ⟨gx, 0, none⟩), .int .i64 col] rfl rfl ?_; refine (HT.out.run HX.out A1.out).mono ?_; rintro e w1 ⟨rfl, h1⟩; refine ⟨_, rfl, ?_⟩; clear HT; have HT := aE h1; obtain ⟨z0, z1, z2, z3, z4, y0, y1, y2, y3, y4⟩ := ya HT.out.hc) | (refine gF 81 52 Tryd.func81 #[.pointer (some ⟨gx, 0, none⟩), .int .i64 (wrap64 (1 - col))] rfl rfl ?_; refine (HT.out.run HX.out A2.out).mono ?_; rintro e w1 ⟨rfl, h1⟩; refine ⟨_, rfl, ?_⟩; clear HT; have HT := aE h1; obtain ⟨z0, z1, z2, z3, z4, y0, y1, y2, y3, y4⟩ := ya HT.out.hc) | (refine gF 104 83 Tryd.func104 #[.pointer (some ⟨gs, 0, none⟩), .int .i64 (wrap64 ((out.length : Int) + n1)), .int .i64 col] rfl rfl ?_; refine (HT.out.fill A3.out).mono ?_; rintro e w1 ⟨rfl, A1_, c1_, h1⟩; refine ⟨_, rfl, ?_⟩; clear HT; have HT := aE h1; obtain ⟨z0, z1, z2, z3, z4, y0, y1, y2, y3, y4⟩ := ya HT.out.hc) | (refine gF 104 93 Tryd.func104 #[.pointer (some ⟨gs, 0, none⟩), .int .i64 (wrap64 ((wrap64 ((out.length : Int) + n1)) + m1)), .int .i64 (wrap64 (1 - col))] rfl rfl ?_; refine (HT.out.fill A4.out).mono ?_; rintro e w1 ⟨rfl, A2_, c2_, h1⟩; refine ⟨_, rfl, ?_⟩; clear HT; have HT := aE h1; obtain ⟨z0, z1, z2, z3, z4, y0, y1, y2, y3, y4⟩ := ya HT.out.hc))
         go_ret
         exact ⟨re, _, HT.out⟩
        ·have d5_ := d5
         have d5b0 := beq_eq_false_iff_ne.mpr d5
         have d5b1 := bne_iff_ne.mpr d5
         rw [if_neg (fun z => z.elim (fun y => absurd y.2 d5) (fun y => absurd d4 y.1))] at H
         clear d4 d4_ d5 d5_
         simp only [Option.some.injEq, Prod.mk.injEq] at H
         obtain ⟨rfl, rfl, rfl, rfl, rfl⟩ := H
         obtain ⟨z0, z1, z2, z3, z4, y0, y1, y2, y3, y4⟩ := ya HT.out.hc
         go_enter Tryd.func103, Tryd.ntmps103
         go_wp2_with (first | (refine gF 81 15 Tryd.func81 #[.pointer (some ⟨gx, 0, none⟩), .int .i64 col] rfl rfl ?_; refine (HT.out.run HX.out A1.out).mono ?_; rintro e w1 ⟨rfl, h1⟩; refine ⟨_, rfl, ?_⟩; clear HT; have HT := aE h1; obtain ⟨z0, z1, z2, z3, z4, y0, y1, y2, y3, y4⟩ := ya HT.out.hc) | (refine gF 81 52 Tryd.func81 #[.pointer (some ⟨gx, 0, none⟩), .int .i64 (wrap64 (1 - col))] rfl rfl ?_; refine (HT.out.run HX.out A2.out).mono ?_; rintro e w1 ⟨rfl, h1⟩; refine ⟨_, rfl, ?_⟩; clear HT; have HT := aE h1; obtain ⟨z0, z1, z2, z3, z4, y0, y1, y2, y3, y4⟩ := ya HT.out.hc))
         go_ret
         exact ⟨re, _, HT.out⟩
       ·have d4_ := d4
        have d4b0 := beq_eq_false_iff_ne.mpr d4
        have d4b1 := bne_iff_ne.mpr d4
        by_cases d5 : (wrap64 ((out.length : Int) + n1)) = W
        ·have d5_ := d5
         have d5b0 := beq_iff_eq.mpr d5
         have d5b1 := bne_eq_false_iff_eq.mpr d5
         rw [if_neg (fun z => z.elim (fun y => absurd y.1 d4) (fun y => absurd d5 y.2))] at H
         clear d4 d4_ d5 d5_
         simp only [Option.some.injEq, Prod.mk.injEq] at H
         obtain ⟨rfl, rfl, rfl, rfl, rfl⟩ := H
         obtain ⟨z0, z1, z2, z3, z4, y0, y1, y2, y3, y4⟩ := ya HT.out.hc
         go_enter Tryd.func103, Tryd.ntmps103
         go_wp2_with (first | (refine gF 81 15 Tryd.func81 #[.pointer (some ⟨gx, 0, none⟩), .int .i64 col] rfl rfl ?_; refine (HT.out.run HX.out A1.out).mono ?_; rintro e w1 ⟨rfl, h1⟩; refine ⟨_, rfl, ?_⟩; clear HT; have HT := aE h1; obtain ⟨z0, z1, z2, z3, z4, y0, y1, y2, y3, y4⟩ := ya HT.out.hc) | (refine gF 81 52 Tryd.func81 #[.pointer (some ⟨gx, 0, none⟩), .int .i64 (wrap64 (1 - col))] rfl rfl ?_; refine (HT.out.run HX.out A2.out).mono ?_; rintro e w1 ⟨rfl, h1⟩; refine ⟨_, rfl, ?_⟩; clear HT; have HT := aE h1; obtain ⟨z0, z1, z2, z3, z4, y0, y1, y2, y3, y4⟩ := ya HT.out.hc))
         go_ret
         exact ⟨re, _, HT.out⟩
        ·have d5_ := d5
         have d5b0 := beq_eq_false_iff_ne.mpr d5
         have d5b1 := bne_iff_ne.mpr d5
         rw [if_pos (.inr ⟨d4, d5⟩)] at H
         clear d4 d4_ d5 d5_
         obtain ⟨out1, A30, H⟩ := Option.bind_eq_some_iff.mp H
         obtain ⟨out2, A40, H⟩ := Option.bind_eq_some_iff.mp H
         have A3 := Aside0.mk A30
         have A4 := Aside0.mk A40
         clear A30 A40
         simp only [Option.some.injEq, Prod.mk.injEq] at H
         obtain ⟨rfl, rfl, rfl, rfl, rfl⟩ := H
         obtain ⟨z0, z1, z2, z3, z4, y0, y1, y2, y3, y4⟩ := ya HT.out.hc
         go_enter Tryd.func103, Tryd.ntmps103
         go_wp2_with (first | (refine gF 81 15 Tryd.func81 #[.pointer (some ⟨gx, 0, none⟩), .int .i64 col] rfl rfl ?_; refine (HT.out.run HX.out A1.out).mono ?_; rintro e w1 ⟨rfl, h1⟩; refine ⟨_, rfl, ?_⟩; clear HT; have HT := aE h1; obtain ⟨z0, z1, z2, z3, z4, y0, y1, y2, y3, y4⟩ := ya HT.out.hc) | (refine gF 81 52 Tryd.func81 #[.pointer (some ⟨gx, 0, none⟩), .int .i64 (wrap64 (1 - col))] rfl rfl ?_; refine (HT.out.run HX.out A2.out).mono ?_; rintro e w1 ⟨rfl, h1⟩; refine ⟨_, rfl, ?_⟩; clear HT; have HT := aE h1; obtain ⟨z0, z1, z2, z3, z4, y0, y1, y2, y3, y4⟩ := ya HT.out.hc) | (refine gF 104 83 Tryd.func104 #[.pointer (some ⟨gs, 0, none⟩), .int .i64 (wrap64 ((out.length : Int) + n1)), .int .i64 col] rfl rfl ?_; refine (HT.out.fill A3.out).mono ?_; rintro e w1 ⟨rfl, A1_, c1_, h1⟩; refine ⟨_, rfl, ?_⟩; clear HT; have HT := aE h1; obtain ⟨z0, z1, z2, z3, z4, y0, y1, y2, y3, y4⟩ := ya HT.out.hc) | (refine gF 104 93 Tryd.func104 #[.pointer (some ⟨gs, 0, none⟩), .int .i64 (wrap64 ((wrap64 ((out.length : Int) + n1)) + m1)), .int .i64 (wrap64 (1 - col))] rfl rfl ?_; refine (HT.out.fill A4.out).mono ?_; rintro e w1 ⟨rfl, A2_, c2_, h1⟩; refine ⟨_, rfl, ?_⟩; clear HT; have HT := aE h1; obtain ⟨z0, z1, z2, z3, z4, y0, y1, y2, y3, y4⟩ := ya HT.out.hc))
         go_ret
         exact ⟨re, _, HT.out⟩
     ·rw [if_neg d2] at H
      have d2b0 := beq_eq_false_iff_ne.mpr d2
      have d2b1 := bne_iff_ne.mpr d2
      clear d2
      simp only [Option.some.injEq, Prod.mk.injEq] at H
      obtain ⟨rfl, rfl, rfl, rfl, rfl⟩ := H
      obtain ⟨z0, z1, z2, z3, z4, y0, y1, y2, y3, y4⟩ := ya HT.out.hc
      go_enter Tryd.func103, Tryd.ntmps103
      go_wp2_with (first | (refine gF 81 15 Tryd.func81 #[.pointer (some ⟨gx, 0, none⟩), .int .i64 col] rfl rfl ?_; refine (HT.out.run HX.out A1.out).mono ?_; rintro e w1 ⟨rfl, h1⟩; refine ⟨_, rfl, ?_⟩; clear HT; have HT := aE h1; obtain ⟨z0, z1, z2, z3, z4, y0, y1, y2, y3, y4⟩ := ya HT.out.hc) | (refine gF 81 52 Tryd.func81 #[.pointer (some ⟨gx, 0, none⟩), .int .i64 (wrap64 (1 - col))] rfl rfl ?_; refine (HT.out.run HX.out A2.out).mono ?_; rintro e w1 ⟨rfl, h1⟩; refine ⟨_, rfl, ?_⟩; clear HT; have HT := aE h1; obtain ⟨z0, z1, z2, z3, z4, y0, y1, y2, y3, y4⟩ := ya HT.out.hc))
      go_ret
      exact ⟨re, _, HT.out⟩
  ·rw [if_neg (fun z => c3 z.1)] at H
   have c3b0 := beq_eq_false_iff_ne.mpr c3
   have c3b1 := bne_iff_ne.mpr c3
   clear c3
   rcases iL H with H1 | H1 <;> clear H <;> obtain ⟨H, c5b0⟩ := H1
   ·simp only [Option.some.injEq, Prod.mk.injEq] at H
    obtain ⟨rfl, rfl, rfl, rfl, rfl⟩ := H
    obtain ⟨z0, z1, z2, z3, z4, y0, y1, y2, y3, y4⟩ := ya HT.out.hc
    go_enter Tryd.func103, Tryd.ntmps103
    go_wp2_with (first | (refine gF 81 15 Tryd.func81 #[.pointer (some ⟨gx, 0, none⟩), .int .i64 col] rfl rfl ?_; refine (HT.out.run HX.out A1.out).mono ?_; rintro e w1 ⟨rfl, h1⟩; refine ⟨_, rfl, ?_⟩; clear HT; have HT := aE h1; obtain ⟨z0, z1, z2, z3, z4, y0, y1, y2, y3, y4⟩ := ya HT.out.hc))
    go_ret
    exact ⟨re, _, HT.out⟩
   ·obtain ⟨⟨m1, m2, m3, m4⟩, A20, H⟩ := Option.bind_eq_some_iff.mp H
    have A2 := Aside0.mk (show xm.f k l0 n3 n4 (wrap64 (1 - col)) = some (m1, m2, m3, m4) from A20)
    clear A20
    try dsimp only at H
    by_cases d2 : m2 = 0
    ·rw [if_pos d2] at H
     have d2b0 := beq_iff_eq.mpr d2
     have d2b1 := bne_eq_false_iff_eq.mpr d2
     clear d2
     by_cases d3 : m1 > wrap64 (W - (wrap64 ((out.length : Int) + n1)))
     ·rw [if_pos d3] at H
      have d3b0 := decide_eq_true d3
      clear d3
      simp only [Option.some.injEq, Prod.mk.injEq] at H
      obtain ⟨rfl, rfl, rfl, rfl, rfl⟩ := H
      obtain ⟨z0, z1, z2, z3, z4, y0, y1, y2, y3, y4⟩ := ya HT.out.hc
      go_enter Tryd.func103, Tryd.ntmps103
      go_wp2_with (first | (refine gF 81 15 Tryd.func81 #[.pointer (some ⟨gx, 0, none⟩), .int .i64 col] rfl rfl ?_; refine (HT.out.run HX.out A1.out).mono ?_; rintro e w1 ⟨rfl, h1⟩; refine ⟨_, rfl, ?_⟩; clear HT; have HT := aE h1; obtain ⟨z0, z1, z2, z3, z4, y0, y1, y2, y3, y4⟩ := ya HT.out.hc) | (refine gF 81 52 Tryd.func81 #[.pointer (some ⟨gx, 0, none⟩), .int .i64 (wrap64 (1 - col))] rfl rfl ?_; refine (HT.out.run HX.out A2.out).mono ?_; rintro e w1 ⟨rfl, h1⟩; refine ⟨_, rfl, ?_⟩; clear HT; have HT := aE h1; obtain ⟨z0, z1, z2, z3, z4, y0, y1, y2, y3, y4⟩ := ya HT.out.hc))
      go_ret
      exact ⟨re, _, HT.out⟩
     ·rw [if_neg d3] at H
      have d3b0 := decide_eq_false d3
      clear d3
      by_cases d4 : m1 = 0
      ·have d4_ := d4
       have d4b0 := beq_iff_eq.mpr d4
       have d4b1 := bne_eq_false_iff_eq.mpr d4
       by_cases d5 : (wrap64 ((out.length : Int) + n1)) = W
       ·have d5_ := d5
        have d5b0 := beq_iff_eq.mpr d5
        have d5b1 := bne_eq_false_iff_eq.mpr d5
        rw [if_pos (.inl ⟨d4, d5⟩)] at H
        clear d4 d4_ d5 d5_
        obtain ⟨out1, A30, H⟩ := Option.bind_eq_some_iff.mp H
        obtain ⟨out2, A40, H⟩ := Option.bind_eq_some_iff.mp H
        have A3 := Aside0.mk A30
        have A4 := Aside0.mk A40
        clear A30 A40
        simp only [Option.some.injEq, Prod.mk.injEq] at H
        obtain ⟨rfl, rfl, rfl, rfl, rfl⟩ := H
        obtain ⟨z0, z1, z2, z3, z4, y0, y1, y2, y3, y4⟩ := ya HT.out.hc
        go_enter Tryd.func103, Tryd.ntmps103
        go_wp2_with (first | (refine gF 81 15 Tryd.func81 #[.pointer (some ⟨gx, 0, none⟩), .int .i64 col] rfl rfl ?_; refine (HT.out.run HX.out A1.out).mono ?_; rintro e w1 ⟨rfl, h1⟩; refine ⟨_, rfl, ?_⟩; clear HT; have HT := aE h1; obtain ⟨z0, z1, z2, z3, z4, y0, y1, y2, y3, y4⟩ := ya HT.out.hc) | (refine gF 81 52 Tryd.func81 #[.pointer (some ⟨gx, 0, none⟩), .int .i64 (wrap64 (1 - col))] rfl rfl ?_; refine (HT.out.run HX.out A2.out).mono ?_; rintro e w1 ⟨rfl, h1⟩; refine ⟨_, rfl, ?_⟩; clear HT; have HT := aE h1; obtain ⟨z0, z1, z2, z3, z4, y0, y1, y2, y3, y4⟩ := ya HT.out.hc) | (refine gF 104 83 Tryd.func104 #[.pointer (some ⟨gs, 0, none⟩), .int .i64 (wrap64 ((out.length : Int) + n1)), .int .i64 col] rfl rfl ?_; refine (HT.out.fill A3.out).mono ?_; rintro e w1 ⟨rfl, A1_, c1_, h1⟩; refine ⟨_, rfl, ?_⟩; clear HT; have HT := aE h1; obtain ⟨z0, z1, z2, z3, z4, y0, y1, y2, y3, y4⟩ := ya HT.out.hc) | (refine gF 104 93 Tryd.func104 #[.pointer (some ⟨gs, 0, none⟩), .int .i64 (wrap64 ((wrap64 ((out.length : Int) + n1)) + m1)), .int .i64 (wrap64 (1 - col))] rfl rfl ?_; refine (HT.out.fill A4.out).mono ?_; rintro e w1 ⟨rfl, A2_, c2_, h1⟩; refine ⟨_, rfl, ?_⟩; clear HT; have HT := aE h1; obtain ⟨z0, z1, z2, z3, z4, y0, y1, y2, y3, y4⟩ := ya HT.out.hc))
        go_ret
        exact ⟨re, _, HT.out⟩
       ·have d5_ := d5
        have d5b0 := beq_eq_false_iff_ne.mpr d5
        have d5b1 := bne_iff_ne.mpr d5
        rw [if_neg (fun z => z.elim (fun y => absurd y.2 d5) (fun y => absurd d4 y.1))] at H
        clear d4 d4_ d5 d5_
        simp only [Option.some.injEq, Prod.mk.injEq] at H
        obtain ⟨rfl, rfl, rfl, rfl, rfl⟩ := H
        obtain ⟨z0, z1, z2, z3, z4, y0, y1, y2, y3, y4⟩ := ya HT.out.hc
        go_enter Tryd.func103, Tryd.ntmps103
        go_wp2_with (first | (refine gF 81 15 Tryd.func81 #[.pointer (some ⟨gx, 0, none⟩), .int .i64 col] rfl rfl ?_; refine (HT.out.run HX.out A1.out).mono ?_; rintro e w1 ⟨rfl, h1⟩; refine ⟨_, rfl, ?_⟩; clear HT; have HT := aE h1; obtain ⟨z0, z1, z2, z3, z4, y0, y1, y2, y3, y4⟩ := ya HT.out.hc) | (refine gF 81 52 Tryd.func81 #[.pointer (some ⟨gx, 0, none⟩), .int .i64 (wrap64 (1 - col))] rfl rfl ?_; refine (HT.out.run HX.out A2.out).mono ?_; rintro e w1 ⟨rfl, h1⟩; refine ⟨_, rfl, ?_⟩; clear HT; have HT := aE h1; obtain ⟨z0, z1, z2, z3, z4, y0, y1, y2, y3, y4⟩ := ya HT.out.hc))
        go_ret
        exact ⟨re, _, HT.out⟩
      ·have d4_ := d4
       have d4b0 := beq_eq_false_iff_ne.mpr d4
       have d4b1 := bne_iff_ne.mpr d4
       by_cases d5 : (wrap64 ((out.length : Int) + n1)) = W
       ·have d5_ := d5
        have d5b0 := beq_iff_eq.mpr d5
        have d5b1 := bne_eq_false_iff_eq.mpr d5
        rw [if_neg (fun z => z.elim (fun y => absurd y.1 d4) (fun y => absurd d5 y.2))] at H
        clear d4 d4_ d5 d5_
        simp only [Option.some.injEq, Prod.mk.injEq] at H
        obtain ⟨rfl, rfl, rfl, rfl, rfl⟩ := H
        obtain ⟨z0, z1, z2, z3, z4, y0, y1, y2, y3, y4⟩ := ya HT.out.hc
        go_enter Tryd.func103, Tryd.ntmps103
        go_wp2_with (first | (refine gF 81 15 Tryd.func81 #[.pointer (some ⟨gx, 0, none⟩), .int .i64 col] rfl rfl ?_; refine (HT.out.run HX.out A1.out).mono ?_; rintro e w1 ⟨rfl, h1⟩; refine ⟨_, rfl, ?_⟩; clear HT; have HT := aE h1; obtain ⟨z0, z1, z2, z3, z4, y0, y1, y2, y3, y4⟩ := ya HT.out.hc) | (refine gF 81 52 Tryd.func81 #[.pointer (some ⟨gx, 0, none⟩), .int .i64 (wrap64 (1 - col))] rfl rfl ?_; refine (HT.out.run HX.out A2.out).mono ?_; rintro e w1 ⟨rfl, h1⟩; refine ⟨_, rfl, ?_⟩; clear HT; have HT := aE h1; obtain ⟨z0, z1, z2, z3, z4, y0, y1, y2, y3, y4⟩ := ya HT.out.hc))
        go_ret
        exact ⟨re, _, HT.out⟩
       ·have d5_ := d5
        have d5b0 := beq_eq_false_iff_ne.mpr d5
        have d5b1 := bne_iff_ne.mpr d5
        rw [if_pos (.inr ⟨d4, d5⟩)] at H
        clear d4 d4_ d5 d5_
        obtain ⟨out1, A30, H⟩ := Option.bind_eq_some_iff.mp H
        obtain ⟨out2, A40, H⟩ := Option.bind_eq_some_iff.mp H
        have A3 := Aside0.mk A30
        have A4 := Aside0.mk A40
        clear A30 A40
        simp only [Option.some.injEq, Prod.mk.injEq] at H
        obtain ⟨rfl, rfl, rfl, rfl, rfl⟩ := H
        obtain ⟨z0, z1, z2, z3, z4, y0, y1, y2, y3, y4⟩ := ya HT.out.hc
        go_enter Tryd.func103, Tryd.ntmps103
        go_wp2_with (first | (refine gF 81 15 Tryd.func81 #[.pointer (some ⟨gx, 0, none⟩), .int .i64 col] rfl rfl ?_; refine (HT.out.run HX.out A1.out).mono ?_; rintro e w1 ⟨rfl, h1⟩; refine ⟨_, rfl, ?_⟩; clear HT; have HT := aE h1; obtain ⟨z0, z1, z2, z3, z4, y0, y1, y2, y3, y4⟩ := ya HT.out.hc) | (refine gF 81 52 Tryd.func81 #[.pointer (some ⟨gx, 0, none⟩), .int .i64 (wrap64 (1 - col))] rfl rfl ?_; refine (HT.out.run HX.out A2.out).mono ?_; rintro e w1 ⟨rfl, h1⟩; refine ⟨_, rfl, ?_⟩; clear HT; have HT := aE h1; obtain ⟨z0, z1, z2, z3, z4, y0, y1, y2, y3, y4⟩ := ya HT.out.hc) | (refine gF 104 83 Tryd.func104 #[.pointer (some ⟨gs, 0, none⟩), .int .i64 (wrap64 ((out.length : Int) + n1)), .int .i64 col] rfl rfl ?_; refine (HT.out.fill A3.out).mono ?_; rintro e w1 ⟨rfl, A1_, c1_, h1⟩; refine ⟨_, rfl, ?_⟩; clear HT; have HT := aE h1; obtain ⟨z0, z1, z2, z3, z4, y0, y1, y2, y3, y4⟩ := ya HT.out.hc) | (refine gF 104 93 Tryd.func104 #[.pointer (some ⟨gs, 0, none⟩), .int .i64 (wrap64 ((wrap64 ((out.length : Int) + n1)) + m1)), .int .i64 (wrap64 (1 - col))] rfl rfl ?_; refine (HT.out.fill A4.out).mono ?_; rintro e w1 ⟨rfl, A2_, c2_, h1⟩; refine ⟨_, rfl, ?_⟩; clear HT; have HT := aE h1; obtain ⟨z0, z1, z2, z3, z4, y0, y1, y2, y3, y4⟩ := ya HT.out.hc))
        go_ret
        exact ⟨re, _, HT.out⟩
    ·rw [if_neg d2] at H
     have d2b0 := beq_eq_false_iff_ne.mpr d2
     have d2b1 := bne_iff_ne.mpr d2
     clear d2
     simp only [Option.some.injEq, Prod.mk.injEq] at H
     obtain ⟨rfl, rfl, rfl, rfl, rfl⟩ := H
     obtain ⟨z0, z1, z2, z3, z4, y0, y1, y2, y3, y4⟩ := ya HT.out.hc
     go_enter Tryd.func103, Tryd.ntmps103
     go_wp2_with (first | (refine gF 81 15 Tryd.func81 #[.pointer (some ⟨gx, 0, none⟩), .int .i64 col] rfl rfl ?_; refine (HT.out.run HX.out A1.out).mono ?_; rintro e w1 ⟨rfl, h1⟩; refine ⟨_, rfl, ?_⟩; clear HT; have HT := aE h1; obtain ⟨z0, z1, z2, z3, z4, y0, y1, y2, y3, y4⟩ := ya HT.out.hc) | (refine gF 81 52 Tryd.func81 #[.pointer (some ⟨gx, 0, none⟩), .int .i64 (wrap64 (1 - col))] rfl rfl ?_; refine (HT.out.run HX.out A2.out).mono ?_; rintro e w1 ⟨rfl, h1⟩; refine ⟨_, rfl, ?_⟩; clear HT; have HT := aE h1; obtain ⟨z0, z1, z2, z3, z4, y0, y1, y2, y3, y4⟩ := ya HT.out.hc))
     go_ret
     exact ⟨re, _, HT.out⟩
 ·clear c2
  simp only [Option.some.injEq, Prod.mk.injEq] at H
  obtain ⟨rfl, rfl, rfl, rfl, rfl⟩ := H
  obtain ⟨z0, z1, z2, z3, z4, y0, y1, y2, y3, y4⟩ := ya HT.out.hc
  go_enter Tryd.func103, Tryd.ntmps103
  go_wp2_with (first | (refine gF 81 15 Tryd.func81 #[.pointer (some ⟨gx, 0, none⟩), .int .i64 col] rfl rfl ?_; refine (HT.out.run HX.out A1.out).mono ?_; rintro e w1 ⟨rfl, h1⟩; refine ⟨_, rfl, ?_⟩; clear HT; have HT := aE h1; obtain ⟨z0, z1, z2, z3, z4, y0, y1, y2, y3, y4⟩ := ya HT.out.hc))
  go_ret
  exact ⟨re, _, HT.out⟩
def xA.f (k : Nat) (l0 : List Int) (p : Int) (o : Bool) (W a col : Int) (ab out : List Int) : Option (Int × Int × Bool × Int × Int × List Int) :=
 (vL.f k l0 p o tW).bind fun i => (if i.2.1 = 0 then ((ww.f k ab a (col % 256)).bind fun b => (if i.1 = 1 then ((yW.f k l0 i.2.2.1 i.2.2.2 W a col out).bind fun q => some (q.1, q.2.1, q.2.2.1, q.2.2.2.1, col, q.2.2.2.2)) else (if i.1 = 0 then (if b.2 = W then some (3, i.2.2.1, i.2.2.2, a, col, out) else ((xt.f k out b.2 col).bind fun out1 => some (0, i.2.2.1, i.2.2.2, b.2, col, out1)))
  else (if wrap64 (wrap64 (b.1 + i.1) - 5) ≤ a then some (3, i.2.2.1, i.2.2.2, a, col, out) else (if wrap64 (wrap64 (b.1 + i.1) - 5) > W then some (3, i.2.2.1, i.2.2.2, a, col, out) else ((xt.f k out (wrap64 (wrap64 (b.1 + i.1) - 5)) col).bind fun out1 => some (0, i.2.2.1, i.2.2.2, wrap64 (wrap64 (b.1 + i.1) - 5), wrap64 (1 - col), out1))))))) else some (i.2.1, i.2.2.1, i.2.2.2, a, col, out))
theorem xA.mono : ∀ a0 a1 a2 a3 a4 a5 a6 a7 k, vP (xA.f k a0 a1 a2 a3 a4 a5 a6 a7) (xA.f (k + 1) a0 a1 a2 a3 a4 a5 a6 a7) := by
 intro a0 a1 a2 a3 a4 a5 a6 a7 k
 unfold xA.f
 exact vP.bind (vL.mono _ _ _ _ k) (fun i => vP.ite (vP.bind (ww.mono _ _ _ k) (fun b => vP.ite (vP.bind (yW.mono _ _ _ _ _ _ _ k) (fun q => vP.refl _)) (vP.ite (vP.ite (vP.refl _) (vP.bind (xt.mono _ _ _ k) (fun x => vP.refl _))) (vP.ite (vP.refl _) (vP.ite (vP.refl _) (vP.bind (xt.mono _ _ _ k) (fun x => vP.refl _))))))) (vP.refl _))
def xA.T4 : Bool × List (List Nat × List Nat) := (true, [([], []), ([0], [0]), ([1], [1]), ([2], [2]), ([], []), ([4], [4]), ([5], [5]), ([6], [6]), ([], []), ([8], [8]), ([9], [9]), ([10], [10]), ([11], [11]), ([3, 7, 12], [3, 7, 12]), ([13], [13]), ([14], [14]), ([14], [14]), ([15, 13, 0, 1, 2, 3, 4, 5, 6, 7, 8, 9, 10, 11, 12, 13, 14, 15], [15]), ([16, 17, 0, 1, 2, 3, 4, 5, 6, 7, 8, 9, 10, 11, 12, 13, 14, 15, 16, 17], [16])])
def xA.B4 : List Nat := [0, 1, 3, 7, 0, 16, 48, 112, 0, 256, 768, 1792, 3840, 8191, 16383, 32767, 32767, 65535, 262143]
theorem xA.tab4 : yN .any (opsOf Tryd.f84 4) = xA.T4 := by kernel_rfl
theorem xA.bits4 : yi xA.T4.2 xA.B4 = true := by kernel_rfl
set_option maxHeartbeats 16000000 in
set_option maxRecDepth 100000 in
theorem xA.calls (k : Nat) (w0 wT w : World) (g gs gx : Nat) (l0 : List Int) (p : Int) (o : Bool) (W a col : Int) (Ab : Option Addr) (cb : Nat) (ab : List Int) (u : Value) (out : List Int) (r1 r2 : Int) (r3 : Bool) (r4 r5 : Int) (r6 : List Int) (hT : Tw w0 wT w g gs l0 p o W a col Ab ab.length cb u out) (hX : Xok g gx tU kT kR tW wT) (hA : ∀ W', vx wT W' g none → Kd.C (Kd.int .u8) W' Ab ab.length ab) (hcb : ab.length ≤ cb) (h : xA.f k l0 p o W a col ab out = some (r1, r2, r3, r4, r5, r6)) :
  Calls Tryd.prog 84 #[.pointer (some ⟨gx, 0, none⟩), .pointer (some ⟨gs, 0, none⟩)] w fun e w' => e = .returned (.int .i64 r1) ∧ ∃ u', Tw w0 wT w' g gs l0 r2 r3 W r4 r5 Ab ab.length cb u' r6 := by
 have hu119 := Tryd.underlying119
 have hu110 := Tryd.underlying110
 have HT := Aside0.mk hT
 have HX := Aside0.mk hX
 have HA := Aside0.mk hA
 have HCB := Aside0.mk hcb
 clear hT hA hcb
 obtain ⟨a1, a2, a3, a4, a5, a6, a7, c1, c2, c3, c4, c5, c6, c7, ⟨_, _, _, _, _, _, l7⟩, ⟨_, _, _, f7⟩, hW⟩ := hX
 have HW := Aside0.mk hW
 clear hW
 obtain ⟨Au, cu, eu⟩ := Kd.wq HT.out.hr
 subst eu
 obtain ⟨⟨i1, i2, i3, i4⟩, A1, H⟩ := Option.bind_eq_some_iff.mp h
 clear h
 have A1 := Aside0.mk A1
 replace H : (if i2 = 0 then ((ww.f k ab a (col % 256)).bind fun b => (if i1 = 1 then ((yW.f k l0 i3 i4 W a col out).bind fun q => some (q.1, q.2.1, q.2.2.1, q.2.2.2.1, col, q.2.2.2.2)) else (if i1 = 0 then (if b.2 = W then some (3, i3, i4, a, col, out) else ((xt.f k out b.2 col).bind fun out1 => some (0, i3, i4, b.2, col, out1)))
  else (if wrap64 (wrap64 (b.1 + i1) - 5) ≤ a then some (3, i3, i4, a, col, out) else (if wrap64 (wrap64 (b.1 + i1) - 5) > W then some (3, i3, i4, a, col, out) else ((xt.f k out (wrap64 (wrap64 (b.1 + i1) - 5)) col).bind fun out1 => some (0, i3, i4, wrap64 (wrap64 (b.1 + i1) - 5), wrap64 (1 - col), out1))))))) else some (i2, i3, i4, a, col, out)) = some (r1, r2, r3, r4, r5, r6) := H
 obtain ⟨hx0, hx1, hx2, hx3, hx4, hx5, hx6, hx7, _⟩ := cz8f (HW.out w HT.out.hk).1
 rcases iE H with H1 | H1 <;> clear H <;> obtain ⟨H, c2b0, c2b1, c2⟩ := H1
 ·obtain ⟨⟨b1, b2⟩, A20, H⟩ := Option.bind_eq_some_iff.mp H
  have A2 := Aside0.mk (show ww.f k ab a (col % 256) = some (b1, b2) from A20)
  clear A20
  try dsimp only at H
  go_enter Tryd.func84, Tryd.ntmps84
  go_wp2_with (first | (refine gF 102 16 Tryd.func102 #[.pointer (some ⟨gx, 0, none⟩), .slice a7 tW.length c7] rfl rfl ?_; (with_reducible refine (vL.calls k g l0 p o _ _ tW i1 i2 i3 i4 w0 _ HT.out.hi HT.out.hb (HW.out _ HT.out.hk).2.2.2.2.2.2.2 l7 f7 gx (fun W_ h_ => (cz8 (HW.out W_ (HT.out.hk.trans h_ (.inl rfl))).1).1) A1.out).mono ?_); rintro e w1 ⟨rfl, hi, hb, hk⟩; refine ⟨_, rfl, ?_⟩; have n_ := aE (Tw.keep HT.out hi hb hk); clear HT hi hb hk hx0 hx1 hx2 hx3 hx4 hx5 hx6 hx7; have HT := n_; clear n_; obtain ⟨z0, z1, z2, z3, z4, y0, y1, y2, y3, y4⟩ := ya HT.out.hc))
  clear z0 z1 z2 z3 z4 y0 y1 y2 y3 y4
  have n_ := aE (Tw.keep HT.out (vo.drew HT.out.hi) (vG HT.out.hb) (wz (vx.refl _ _ _)))
  clear HT
  have HT := n_
  clear n_
  refine st 19 (fun w' => w'.cell? ⟨gs, 1, none⟩ = some (.int .i64 a) ∧ w'.cell? ⟨gs, 2, none⟩ = some (.int .i64 col) ∧ w'.cell? ⟨gs, 3, none⟩ = some (.slice Ab ab.length cb)) [] (bv 19 0) xA.tab4 xA.bits4 ⟨jk HT.out.hc, jC HT.out.hc, jZ HT.out.hc⟩ (fun hHeld HT_ HW_ => ?_)
  generalize w1.drew = w12 at HT hHeld ⊢
  refine pu 0 23 (bv 19 1) HT_ rfl rfl ?_
  refine pu 1 24 (bv 19 3) HT_ rfl rfl ?_
  refine pu 2 25 (bv 19 7) HT_ rfl rfl ?_
  refine tk 3 26 (bv 19 15) HT_ HW_ hHeld rfl rfl (by rintro w' ⟨s0, s1, s2⟩; exact yl) ?_
  refine pu 4 27 (bv 19 31) HT_ rfl rfl ?_
  refine pu 5 28 (bv 19 63) HT_ rfl rfl ?_
  refine pu 6 29 (bv 19 127) HT_ rfl rfl ?_
  refine tk 7 30 (bv 19 255) HT_ HW_ hHeld rfl rfl (by rintro w' ⟨s0, s1, s2⟩; exact yl) ?_
  refine pu 8 31 (bv 19 511) HT_ rfl rfl ?_
  refine pu 9 32 (bv 19 1023) HT_ rfl rfl ?_
  refine pu 10 33 (bv 19 2047) HT_ rfl rfl ?_
  refine tk 11 34 (bv 19 4095) HT_ HW_ hHeld rfl rfl (by rintro w' ⟨s0, s1, s2⟩; exact yl) ?_
  refine pu 12 35 (bv 19 8191) HT_ rfl rfl ?_
  refine yz (i := 13) (N := some 36) (bv 19 16383) rfl rfl (xq HT_.out (by kernel_rfl)) (by decide) (fun K hK => ?_)
  refine gK Tryd.func66 rfl #[.slice Ab ab.length cb, .int .i64 a, .int .u8 (col % 256)] rfl rfl ?_
  with_reducible refine (ww.calls k Ab cb ab a (col % 256) b1 b2 _ (HA.out _ HT.out.hk) HCB.out A2.out).mono ?_
  rintro e w13 ⟨rfl, hb⟩
  refine ⟨_, rfl, ?_⟩
  have n_ := aE (Tw.keep HT.out (HT.out.hi.below hb) (zL HT.out.hb hb HT.out.hb.size) (vx.of_below hb g none))
  clear HT hb
  have HT := n_
  clear n_
  refine hK.out _ _ ⟨jk HT.out.hc, jC HT.out.hc, jZ HT.out.hc⟩ (fun hHeld => ?_)
  clear hK K
  refine nm (some 36) ?_
  refine pu 14 22 (bv 19 32767) HT_ rfl rfl ?_
  refine pu 15 37 (bv 19 65535) HT_ rfl rfl ?_
  refine pu 16 38 (bv 19 131071) HT_ rfl rfl ?_
  refine pu 17 7 (bv 19 262143) HT_ rfl rfl ?_
  refine pu 18 8 (bv 19 524287) HT_ rfl rfl ?_
  refine yO (xS HT_.out (by kernel_rfl)) ?_
  clear hHeld
  obtain ⟨z0, z1, z2, z3, z4, y0, y1, y2, y3, y4⟩ := ya HT.out.hc
  rcases iE H with H1 | H1 <;> clear H <;> obtain ⟨H, c3b0, c3b1, c3⟩ := H1
  ·obtain ⟨⟨q1, q2, q3, q4, q5⟩, A30, H⟩ := Option.bind_eq_some_iff.mp H
   have A3 := Aside0.mk A30
   clear A30
   simp only [Option.some.injEq, Prod.mk.injEq] at H
   obtain ⟨rfl, rfl, rfl, rfl, rfl, rfl⟩ := H
   go_wp2_with (first | (refine gF 103 44 Tryd.func103 #[.pointer (some ⟨gx, 0, none⟩), .pointer (some ⟨gs, 0, none⟩)] rfl rfl ?_; (with_reducible refine (yW.calls k w0 wT _ g gs gx l0 i3 i4 W a col Ab _ cb _ out q1 q2 q3 q4 q5 HT.out HX.out A3.out).mono ?_); rintro e w2 ⟨rfl, u1, hT1⟩; refine ⟨_, rfl, ?_⟩))
   go_ret
   exact ⟨re, u1, hT1⟩
  ·clear c3
   rcases iE H with H1 | H1 <;> clear H <;> obtain ⟨H, c4b0, c4b1, c4⟩ := H1
   ·rcases iE H with H1 | H1 <;> clear H <;> obtain ⟨H, c5b0, c5b1, c5⟩ := H1
    ·simp only [Option.some.injEq, Prod.mk.injEq] at H
     obtain ⟨rfl, rfl, rfl, rfl, rfl, rfl⟩ := H
     go_wp2
     go_ret
     exact ⟨re, _, HT.out⟩
    ·clear c5
     obtain ⟨out1, A30, H⟩ := Option.bind_eq_some_iff.mp H
     have A3 := Aside0.mk A30
     clear A30
     simp only [Option.some.injEq, Prod.mk.injEq] at H
     obtain ⟨rfl, rfl, rfl, rfl, rfl, rfl⟩ := H
     go_wp2_with (first | (refine gF 104 65 Tryd.func104 #[.pointer (some ⟨gs, 0, none⟩), .int .i64 b2, .int .i64 col] rfl rfl ?_; refine (HT.out.fill A3.out).mono ?_; rintro e w1 ⟨rfl, A1_, c1_, h1⟩; refine ⟨_, rfl, ?_⟩; clear HT; have HT := aE h1; obtain ⟨z0, z1, z2, z3, z4, y0, y1, y2, y3, y4⟩ := ya HT.out.hc))
     go_ret
     exact ⟨re, _, HT.out⟩
   ·clear c4
    rcases iL H with H1 | H1 <;> clear H <;> obtain ⟨H, c5b0⟩ := H1
    ·simp only [Option.some.injEq, Prod.mk.injEq] at H
     obtain ⟨rfl, rfl, rfl, rfl, rfl, rfl⟩ := H
     go_wp2
     go_ret
     exact ⟨re, _, HT.out⟩
    ·rcases iL H with H1 | H1 <;> clear H <;> obtain ⟨H, c6b0⟩ := H1
     ·simp only [Option.some.injEq, Prod.mk.injEq] at H
      obtain ⟨rfl, rfl, rfl, rfl, rfl, rfl⟩ := H
      go_wp2
      go_ret
      exact ⟨re, _, HT.out⟩
     ·obtain ⟨out1, A30, H⟩ := Option.bind_eq_some_iff.mp H
      have A3 := Aside0.mk A30
      clear A30
      simp only [Option.some.injEq, Prod.mk.injEq] at H
      obtain ⟨rfl, rfl, rfl, rfl, rfl, rfl⟩ := H
      go_wp2_with (first | (refine gF 104 90 Tryd.func104 #[.pointer (some ⟨gs, 0, none⟩), .int .i64 (wrap64 (wrap64 (b1 + i1) - 5)), .int .i64 col] rfl rfl ?_; refine (HT.out.fill A3.out).mono ?_; rintro e w1 ⟨rfl, A1_, c1_, h1⟩; refine ⟨_, rfl, ?_⟩; clear HT; have HT := aE h1; obtain ⟨z0, z1, z2, z3, z4, y0, y1, y2, y3, y4⟩ := ya HT.out.hc))
      go_ret
      refine ⟨re, .slice A1_ out1.length c1_, Tw.step HT.out (kt (Below.refl _ _) HT.out.hs) (vv (cs := #[.int .i64 W, .int .i64 (wrap64 (wrap64 (b1 + i1) - 5)), .int .i64 col, .slice Ab ab.length cb, .slice A1_ out1.length c1_]) HT.out.hc 2 _ rfl) ?_⟩
      exact Kd.vY (Kd.wI (p := ⟨gs, 2, none⟩) (Kd.xu HT.out.hr HT.out.hc (by decide)) (fun _ hk => hk.2) _) (fun _ _ => trivial)
 ·clear c2
  simp only [Option.some.injEq, Prod.mk.injEq] at H
  obtain ⟨rfl, rfl, rfl, rfl, rfl, rfl⟩ := H
  go_enter Tryd.func84, Tryd.ntmps84
  go_wp2_with (first | (refine gF 102 16 Tryd.func102 #[.pointer (some ⟨gx, 0, none⟩), .slice a7 tW.length c7] rfl rfl ?_; (with_reducible refine (vL.calls k g l0 p o _ _ tW i1 i2 i3 i4 w0 _ HT.out.hi HT.out.hb (HW.out _ HT.out.hk).2.2.2.2.2.2.2 l7 f7 gx (fun W_ h_ => (cz8 (HW.out W_ (HT.out.hk.trans h_ (.inl rfl))).1).1) A1.out).mono ?_); rintro e w1 ⟨rfl, hi, hb, hk⟩; refine ⟨_, rfl, ?_⟩; have n_ := aE (Tw.keep HT.out hi hb hk); clear HT hi hb hk hx0 hx1 hx2 hx3 hx4 hx5 hx6 hx7; have HT := n_; clear n_; obtain ⟨z0, z1, z2, z3, z4, y0, y1, y2, y3, y4⟩ := ya HT.out.hc))
  go_ret
  exact ⟨re, _, HT.out⟩
def wJ.l0 : Nat → List Int → Int → List Int → Int → Bool → Int → Int → List Int → Option (List Int × Int × Int × Bool)
 | 0, _, _, _, _, _, _, _, _ => none
 | k + 1, l0, W, ab, p, o, a, col, out => if a < W then (if W > 0 then ((xA.f k l0 p o W a col ab out).bind fun m => (if m.1 = 0 then wJ.l0 k l0 W ab m.2.1 m.2.2.1 m.2.2.2.1 m.2.2.2.2.1 m.2.2.2.2.2 else some ([], m.1, m.2.1, m.2.2.1))) else some (out, 0, p, o)) else some (out, 0, p, o)
def wJ.f (k : Nat) (s0_0 : List Int) (s0_1 : Int) (s0_2 : Bool) (a1 : Int) (l2 : List Int) : Option (List Int × Int × Int × Bool) := wJ.l0 k s0_0 a1 l2 s0_1 s0_2 (-1) 0 []
theorem wJ.wj : ∀ k, (∀ y0 y1 y2 y3 y4 y5 y6 y7, vP (wJ.l0 k y0 y1 y2 y3 y4 y5 y6 y7) (wJ.l0 (k + 1) y0 y1 y2 y3 y4 y5 y6 y7))
 | 0 => fun _ _ _ _ _ _ _ _ r h => by simp [wJ.l0] at h
 | k + 1 => by
  have ih0 := wJ.wj k
  intro y0 y1 y2 y3 y4 y5 y6 y7
  unfold wJ.l0
  exact vP.ite (vP.ite (vP.bind (xA.mono _ _ _ _ _ _ _ _ k) (fun t => vP.ite (ih0 _ _ _ _ _ _ _ _) (vP.refl _))) (vP.refl _)) (vP.refl _)
theorem wJ.mono : ∀ a0 a1 a2 a3 a4 k, vP (wJ.f k a0 a1 a2 a3 a4) (wJ.f (k + 1) a0 a1 a2 a3 a4) := fun _ _ _ _ _ k => wJ.wj k _ _ _ _ _ _ _ _
set_option maxHeartbeats 16000000 in
set_option maxRecDepth 100000 in
theorem wJ.calls (k : Nat) (g : Nat) (s0_0 : List Int) (s0_1 : Int) (s0_2 : Bool) (a1 : Int) (A2 : Option Addr) (c2 : Nat) (l2 : List Int) (r1 : List Int) (r2 : Int) (r3 : Int) (r4 : Bool) (w0 w : World) (hI : vo w0 w g s0_0 s0_1 s0_2) (hB : Below w0.heap.size w0 w) (hr2 : Kd.C (Kd.int .u8) w A2 l2.length l2) (hc2 : l2.length ≤ c2) (hf2 : ∀ ad, A2 = some ad → 0 < l2.length → ad.block ≠ g) (gx : Nat) (hX : Xok g gx tU kT kR tW w) (h : wJ.f k s0_0 s0_1 s0_2 a1 l2 = some (r1, r2, r3, r4)) :
  Calls Tryd.prog 56 #[.pointer (some ⟨gx, 0, none⟩), .int .i64 a1, .slice A2 l2.length c2] w fun e w' => ∃ v0_ : Value, e = .returned (.tuple #[v0_, .int .i64 r2]) ∧ Kd.R (Kd.int .u8) 5 w' w.heap.size (fun _ => True) v0_ r1 ∧ vo w0 w' g s0_0 r3 r4 ∧ Below w0.heap.size w0 w' ∧ vx w w' g none := by
 have hu119 := Tryd.underlying119
 have HI := Aside0.mk hI
 have HB := Aside0.mk hB
 have HX := Aside0.mk hX
 have HC2 := Aside0.mk hc2
 have HA := Aside0.mk (Kd.C_foot_ne u8K hr2 hf2)
 have H' := Aside0.mk (show wJ.l0 k s0_0 a1 l2 s0_1 s0_2 (-1) 0 [] = some (r1, r2, r3, r4) from h)
 clear hI hB hX hr2 hc2 hf2 h
 go_enter Tryd.func56, Tryd.ntmps56
 go_wp2_with (first | ((with_reducible refine gd 13 rfl ?_); refine bx 13 #[.int .i64 a1, .int .i64 (-1), .int .i64 0, .slice A2 l2.length c2, .slice none 0 0] 119 rfl rfl ?_; intro gs hg w1 hbox hb; have n_ := aC (show Tw w0 w w1 g gs s0_0 s0_1 s0_2 a1 (-1) 0 A2 l2.length c2 (.slice none 0 0) [] from ⟨HI.out.below hb, zL HB.out hb HB.out.size, vx.of_below hb g none, hbox, Kd.yC _ _ _ _ _, Nat.le_of_eq hg.symm, HI.out.lt⟩) (aE (show True from trivial)); clear hbox hb hg; obtain ⟨HT, _⟩ := n_))
 go_loopg [] k (fun kq w' => ∃ (p : Int) (o : Bool) (a col : Int) (u : Value) (out : List Int), Aside0 (wJ.l0 kq s0_0 a1 l2 p o a col out = some (r1, r2, r3, r4)) ∧ Aside0 (kq ≤ k) ∧ Aside0 (Tw w0 w w' g gs s0_0 p o a1 a col A2 l2.length c2 u out))
 case atStart => exact ⟨s0_1, s0_2, -1, 0, .slice none 0 0, [], H', ⟨Nat.le_refl _⟩, ⟨by exact HT.out⟩⟩
 case round =>
  clear H' HT
  obtain ⟨p, o, a, col, u, out, HA1, HK1, HT⟩ := hrel
  cases gk with
  | zero => exact absurd HA1.out (by simp [wJ.l0])
  | succ k1 =>
   have H := HA1.out
   clear HA1
   simp only [wJ.l0] at H
   obtain ⟨Au, cu, eu⟩ := Kd.wq HT.out.hr
   subst eu
   obtain ⟨z0, z1, z2, z3, z4, y0, y1, y2, y3, y4⟩ := ya HT.out.hc
   rcases iL H with H1 | H1 <;> clear H <;> obtain ⟨H, c3b0⟩ := H1
   ·rcases iL H with H1 | H1 <;> clear H <;> obtain ⟨H, c4b0⟩ := H1
    ·obtain ⟨⟨m1, m2, m3, m4, m5, m6⟩, A10, H⟩ := Option.bind_eq_some_iff.mp H
     have A1 := Aside0.mk A10
     clear A10
     try dsimp only at H
     rcases iE H with H1 | H1 <;> clear H <;> obtain ⟨H, c5b0, c5b1, c5⟩ := H1
     ·have H' := Aside0.mk H
      clear H
      go_wp2_with (first | (refine gF 84 26 Tryd.func84 #[.pointer (some ⟨gx, 0, none⟩), .pointer (some ⟨gs, 0, none⟩)] rfl rfl ?_; (with_reducible refine (xA.calls k1 w0 w _ g gs gx s0_0 p o a1 a col A2 c2 l2 _ out m1 m2 m3 m4 m5 m6 HT.out HX.out HA.out HC2.out A1.out).mono ?_); rintro e w2 ⟨rfl, u1, hT1⟩; refine ⟨_, rfl, ?_⟩))
      go_roundg k1
      case measure => have := HK1.out; omega
      case rel => exact ⟨m2, m3, m4, m5, u1, m6, H', ⟨by have := HK1.out; omega⟩, ⟨hT1⟩⟩
     ·clear c5
      simp only [Option.some.injEq, Prod.mk.injEq] at H
      obtain ⟨rfl, rfl, rfl, rfl⟩ := H
      go_wp2_with (first | (refine gF 84 26 Tryd.func84 #[.pointer (some ⟨gx, 0, none⟩), .pointer (some ⟨gs, 0, none⟩)] rfl rfl ?_; (with_reducible refine (xA.calls k1 w0 w _ g gs gx s0_0 p o a1 a col A2 c2 l2 _ out m1 m2 m3 m4 m5 m6 HT.out HX.out HA.out HC2.out A1.out).mono ?_); rintro e w2 ⟨rfl, u1, hT1⟩; refine ⟨_, rfl, ?_⟩))
      go_ret2
      exact ⟨_, re, Kd.yC _ _ _ _ _, hT1.hi, hT1.hb, hT1.hk⟩
    ·simp only [Option.some.injEq, Prod.mk.injEq] at H
     obtain ⟨rfl, rfl, rfl, rfl⟩ := H
     go_wp2
     go_ret2
     exact ⟨_, re, HT.out.hr, HT.out.hi, HT.out.hb, HT.out.hk⟩
   ·simp only [Option.some.injEq, Prod.mk.injEq] at H
    obtain ⟨rfl, rfl, rfl, rfl⟩ := H
    go_wp2
    go_ret2
    exact ⟨_, re, HT.out.hr, HT.out.hi, HT.out.hb, HT.out.hk⟩
def wU.l0 : Nat → List Int → Int → Int → Int → Bool → List Int → Int → List Int → Option (Int × Int × List Int × Int × Int)
 | 0, _, _, _, _, _, _, _, _ => none
 | k + 1, l0, a1, a2, p, o, ab, y, k8 => if y < a2 then ((wJ.f k l0 p o a1 ab).bind fun t => (if t.2.1 = 0 then (if k8.length + t.1.length < 140737488355328 then wU.l0 k l0 a1 a2 t.2.2.1 t.2.2.2 t.1 (wrap64 (y + 1)) (k8 ++ t.1) else none) else some (0, 0, [], 0, t.2.1))) else ((yX.f l0 p o).bind fun t => some (a1, a2, k8, t.1, 0))
def wU.f (k : Nat) (l0 : List Int) (a1 a2 : Int) : Option (Int × Int × List Int × Int × Int) :=
  (wN.f k a1 a2 0).bind fun t => (if t.2.2.2 = 0 then (if 0 ≤ a1 then (if a1.toNat ≤ 281474976710656 then (if l0.length < 140737488355328 then wU.l0 k l0 a1 a2 0 true (List.replicate a1.toNat 0) 0 [] else none) else none) else none) else some (0, 0, [], 0, 2))
theorem wU.wj : ∀ k, (∀ y0 y1 y2 y3 y4 y5 y6 y7, vP (wU.l0 k y0 y1 y2 y3 y4 y5 y6 y7) (wU.l0 (k + 1) y0 y1 y2 y3 y4 y5 y6 y7))
 | 0 => fun _ _ _ _ _ _ _ _ r h => by simp [wU.l0] at h
 | k + 1 => by
  have ih0 := wU.wj k
  intro y0 y1 y2 y3 y4 y5 y6 y7
  unfold wU.l0
  refine vP.ite (vP.bind (wJ.mono _ _ _ _ _ k) (fun t => vP.ite (vP.ite (ih0 _ _ _ _ _ _ _ _) (vP.refl _)) (vP.refl _))) (vP.refl _)
theorem wU.mono : ∀ a0 a1 a2 k, vP (wU.f k a0 a1 a2) (wU.f (k + 1) a0 a1 a2) := by
  intro a0 a1 a2 k
  unfold wU.f
  exact vP.bind (wN.mono _ _ _ k) (fun t => vP.ite (vP.ite (vP.ite (vP.ite (wU.wj k _ _ _ _ _ _ _ _) (vP.refl _)) (vP.refl _)) (vP.refl _)) (vP.refl _))
def wU.T14 : Bool × List (List Nat × List Nat) := (true, [([], []), ([], []), ([1], [1]), ([2], [2]), ([3], [3]), ([4], [4]), ([0, 5, 0], [0]), ([5, 6, 0, 1, 2, 3, 4, 5, 6], [5]), ([7, 0, 1, 2, 3, 4, 5, 6, 7], [])])
def wU.B14 : List Nat := [0, 0, 2, 6, 14, 30, 63, 127, 255]
theorem wU.tab14 : yN .any (opsOf Tryd.f53 14) = wU.T14 := by kernel_rfl
theorem wU.bits14 : yi wU.T14.2 wU.B14 = true := by kernel_rfl
set_option maxHeartbeats 16000000 in
set_option maxRecDepth 100000 in
theorem wU.calls (k : Nat) (A0 : Option Addr) (c0 : Nat) (l0 : List Int) (a1 a2 : Int) (r1 r2 : Int) (r3 : List Int) (r4 r5 : Int) (w : World) (hr0 : Kd.C (Kd.int .u8) w A0 l0.length l0) (hc0 : l0.length ≤ c0) (h : wU.f k l0 a1 a2 = some (r1, r2, r3, r4, r5)) :
  Calls Tryd.prog 53 #[.slice A0 l0.length c0, .int .i64 a1, .int .i64 a2, .func (.func 56) #[] #[]] w fun e w' => ∃ v2_ : Value, e = .returned (.tuple #[.agg #[.int .i64 r1, .int .i64 r2, v2_], .int .i64 r4, .int .i64 r5]) ∧ Kd.R (Kd.int .u8) 5 w' w.heap.size (fun _ => True) v2_ r3 ∧ Below w.heap.size w w' := by
 have hu48 := Tryd.underlying48
 have hu110 := Tryd.underlying110
 have HR0 := Aside0.mk hr0
 have HC0 := Aside0.mk hc0
 clear hr0 hc0
 have HB := Aside0.mk (Below.refl w.heap.size w)
 unfold wU.f at h
 obtain ⟨⟨t1, t2, t3, t4⟩, A1, H⟩ := Option.bind_eq_some_iff.mp h
 clear h
 have A1 := Aside0.mk A1
 try dsimp only at H
 by_cases c2 : t4 = 0
 ·rw [if_pos c2] at H
  subst c2
  by_cases c3 : 0 ≤ a1
  ·rw [if_pos c3] at H
   have c3b0 := eq_true c3
   have c3b1 := decide_eq_true c3
   clear c3
   by_cases c4 : a1.toNat ≤ 281474976710656
   ·rw [if_pos c4] at H
    have c4b0 := eq_true c4
    have c4b1 := decide_eq_true c4
    clear c4
    by_cases c5 : l0.length < 140737488355328
    ·rw [if_pos c5] at H
     have HL0 := Aside0.mk c5
     clear c5
     obtain ⟨y532, hy_⟩ : ∃ y_ : List Int, y_ = (List.replicate (a1 : Int).toNat 0) := ⟨_, rfl⟩
     rw [← hy_] at H
     have Ny532 := aE hy_
     clear hy_
     have H' := Aside0.mk H
     clear H
     go_enter Tryd.func53, Tryd.ntmps53
     go_wp2_with (first
      | ((with_reducible refine gd 8 rfl ?_); refine bx 8 #[.int .i64 0, .int .i64 0, .slice none 0 0] 48 rfl rfl ?_; intro gb8 hg wA hbox hb; have n_ := aC (bs hb) (aC hbox (aE (gz hg))); clear HB; obtain ⟨HB, BK8, GW8⟩ := n_; clear hb hbox hg)
      | (refine gF 78 18 Tryd.func78 #[.int .i64 a1, .int .i64 a2, .int .i64 0] rfl rfl ?_; (with_reducible refine (wN.calls k a1 a2 0 t1 t2 t3 0 _ A1.out).mono ?_); rintro e wB ⟨v18, rfl, ho, hb⟩; refine ⟨_, rfl, ?_⟩; have n_ := aC (vu (bU BK8.out) hb) (aC ho (aE (bs hb))); clear BK8 HB ho hb; obtain ⟨BK8, HO18, HB⟩ := n_; obtain ⟨Ao18, co18, eo18⟩ := Kd.wq HO18.out; subst eo18; clear HO18)
      | ((with_reducible refine gd 11 rfl ?_); refine bx 11 #[.int .i64 0, .int .i64 0, .slice none 0 0] 48 rfl rfl ?_; intro gb11 hg wC hbox hb; have n_ := aC (vu (bU BK8.out) hb) (aC (bs hb) (aC hbox (aC (gz hg) (aC (gn hg (bU BK8.out)) (aE (gm hg (bU BK8.out))))))); clear BK8 HB; obtain ⟨BK8, HB, BK11, GW11, NB8_11, NB11_8⟩ := n_; clear hb hbox hg; have hnb11 := NB11_8.out; have hnc11 := NB8_11.out; obtain ⟨hcz12_0, hcz12_1, hcz12_2, hfz12_0, hfz12_1, hfz12_2⟩ := zo BK11.out)
      | (refine gF 79 25 Tryd.func79 #[.slice A0 l0.length c0] rfl rfl ?_; (with_reducible refine (zq.calls 200 A0 c0 l0 tU kT kR tW _ (Kd.wO HR0.out bl) HC0.out HL0.out qa).mono ?_); rintro e wD ⟨gr, gx, w0, rfl, hI, hX, hB0, hs, hb, hge, hlt, hsz⟩; refine ⟨_, rfl, ?_⟩; have n_ := aC (vu (show _ = some (.cells #[.int .i64 0, .int .i64 0, .slice none 0 0] 48 (0, 0)) from by (repeat refine vV ?_ NB8_11.out _); exact BK8.out) hb) (aC (kS.mono hX (B' := gb8 + 1) (ze (o := .cells #[.int .i64 0, .int .i64 0, .slice none 0 0] 48 (0, 0)) (by (repeat refine vV ?_ NB8_11.out _); exact BK8.out))) (aC (St.of hI hB0 hs) (aC (Kb.refl (gb8 + 1) gr wD) (aC (Nat.lt_of_lt_of_le (ze (o := .cells #[.int .i64 0, .int .i64 0, .slice none 0 0] 48 (0, 0)) (by (repeat refine vV ?_ NB8_11.out _); exact BK8.out)) hge : gb8 < gr) (aC hsz (aC (Nat.lt_trans hlt hsz : gr < wD.heap.size) (aE (bs hb)))))))); clear BK8 HB hI hX hB0 hs hb hge; obtain ⟨BK8, XB, ST, KB, LT8, LTX, LTG, HB⟩ := n_; obtain ⟨hcz20_0, hcz20_1, hcz20_2, hfz20_0, hfz20_1, hfz20_2⟩ := zo BK8.out)
      | ((with_reducible refine gd 30 rfl ?_); refine Kd.jF (Kd.int .u8) _ 5 rfl (N := 30) rfl 22 _ _ rfl a1 rfl rfl Tryd.underlying22 (.int .u8 0) 1 info5 rfl (by decide) (by omega) 0 (ok := fun _ => True) (okp := fun _ => True) rfl (fun _ hk => hk) trivial (dt) (Nat.le_trans (Nat.mul_le_mul_right _ (dt : a1.toNat ≤ 281474976710656)) (by omega)) (Below.refl _ _) (Nat.le_refl _) ?_; intro v533 wE ho14 hb hg_ hnew_; clear hg_ hnew_; (first | rw [← Ny532.out] at ho14 | (simp only [Int.reduceToNat] at ho14; rw [← Ny532.out] at ho14)); have n_ := aC (Kd.vX ho14 (Kb.trans KB.out (Kb.off (gb := gb8) (g := gr) (w := wD))).1) (aC (vu (show _ = some (.cells #[.int .i64 a1, .int .i64 a2, .slice none 0 0] 48 (0, 0)) from by refine vv (cs := #[.int .i64 a1, .int .i64 a2, .slice none 0 0]) ?_ 2 _ rfl; refine vv (cs := #[.int .i64 a1, .int .i64 0, .slice none 0 0]) ?_ 1 _ rfl; refine vv (cs := #[.int .i64 0, .int .i64 0, .slice none 0 0]) ?_ 0 _ rfl; exact BK8.out) hb) (aC (St.below (St.off ST.out BK8.out rfl (Nat.ne_of_lt LT8.out)) hb) (aC (Kb.trans (Kb.trans KB.out (Kb.off (gb := gb8) (g := gr) (w := wD))) (Kb.of_below hb)) (aE (bs hb))))); clear BK8 ST KB HB; obtain ⟨HO14, BK8, ST, KB, HB⟩ := n_; clear hb ho14))
     go_loopg [14, 32] k (fun kq v14 v32 w' => ∃ (ab : List Int) (y : Int) (p : Int) (o : Bool) (k8 : List Int) (u : Value), v32 = .int .i64 y ∧ Aside0 (wU.l0 kq l0 a1 a2 p o ab y k8 = some (r1, r2, r3, r4, r5)) ∧ Aside0 (kq ≤ k) ∧ Aside0 (Kd.R (Kd.int .u8) 5 w' wD.heap.size (fun k_ => some k_ ≠ (u : Value).ownBlock) v14 ab) ∧ Aside0 (Kd.R (Kd.int .u8) 5 w' wD.heap.size (fun k_ => some k_ ≠ (v14 : Value).ownBlock) u k8) ∧ Aside0 (w'.heap[gb8]? = some (.cells #[.int .i64 a1, .int .i64 a2, u] 48 (0, 0))) ∧ Aside0 (St w' gr l0 p o) ∧ Aside0 (Kb (gb8 + 1) gr wD w') ∧ Aside0 (Below w.heap.size w w'))
     case atStart => exact ⟨y532, (0), (0), true, ([] : List Int), (.slice none 0 0), rq, H', ⟨Nat.le_refl _⟩, ⟨rU (Kd.vY HO14.out (fun _ hk => (by simp [Value.ownBlock])))⟩, ⟨Kd.yC _ _ _ _ _⟩, ⟨bU BK8.out⟩, ⟨by exact ST.out⟩, ⟨by exact KB.out⟩, ⟨bl⟩⟩
     case round =>
      clear H' HO14 ST KB HB BK8
      obtain ⟨ab, y, p, o, k8, u, rfl, HA, HK1, HO_14, HO_p, BK8, ST, KB, HB⟩ := hrel
      cases gk with
      | zero => exact absurd HA.out (by simp [wU.l0])
      | succ k1 =>
       have H := HA.out
       clear HA
       simp only [wU.l0] at H
       obtain ⟨Aou, cou, eou⟩ := Kd.wq HO_p.out
       subst eou
       rcases iL H with H1 | H1 <;> clear H <;> obtain ⟨H, c15b0⟩ := H1
       ·obtain ⟨⟨q1, q2, q3, q4⟩, A170, H⟩ := Option.bind_eq_some_iff.mp H
        try dsimp only at H
        have A17 := Aside0.mk A170
        clear A170
        obtain ⟨Ao20, co20, eo20⟩ := Kd.wq HO_14.out
        subst eo20
        rcases iE H with H1 | H1 <;> clear H <;> obtain ⟨H, c18b0, c18b1, c18⟩ := H1
        ·by_cases c19 : k8.length + q1.length < 140737488355328
         ·rw [if_pos c19] at H
          have LMc19 := Aside0.mk c19
          clear c19
          obtain ⟨y540, hy_⟩ : ∃ y_ : List Int, y_ = (k8 ++ q1) := ⟨_, rfl⟩
          rw [← hy_] at H
          have Ny540 := aE hy_
          clear hy_
          have H' := Aside0.mk H
          clear H
          go_wp2_with (first | ((with_reducible refine zO rfl ?_); refine ks (some 39) rfl rfl Tryd.func56 (by kernel_rfl) rfl #[.pointer (some ⟨gx, 0, none⟩), .int .i64 a1, .slice Ao20 ab.length co20] rfl rfl (by (try simp only [List.map_toArray, List.map_cons, List.map_nil]); first | done | rfl) ?_; (with_reducible refine (wJ.calls k1 gr l0 p o a1 _ _ ab q1 q2 q3 q4 (cutAt _ gr) _ (St.to ST.out).1 (St.to ST.out).2.1 (Kd.R_reads' HO_14.out).2.2 (Kd.R_reads' HO_14.out).2.1 (fun ad e_ _ => Nat.ne_of_gt (Nat.lt_of_lt_of_le LTG.out (Kd.xi HO_14.out _ (by rw [e_]; simp [Value.ownBlock])))) gx (XB.out.kb KB.out).old A17.out).mono ?_); rintro e wF ⟨v39, rfl, ho, hi, hb, hk⟩; refine ⟨_, rfl, ?_⟩; have n_ := aC (Kd.vX (Kd.R_new' (Kd.R_new' ho (Kd.xX HO_14.out)) (Kd.xX HO_p.out)) KB.out.1) (aC (Kd.vY (Kd.zt (Kd.xF HO_p.out) (fun k_ h_ hl_ => hk.2 k_ hl_ (Nat.ne_of_gt (Nat.lt_of_lt_of_le LTG.out h_.2.1)) (by simp))) (fun k_ h_ => show some k_ ≠ v39.ownBlock from fun e_ => absurd (Kd.xi ho k_ e_.symm) (Nat.not_le.mpr h_.2.2.1))) (aC (vx.blk hk BK8.out (Nat.ne_of_lt LT8.out) (by simp)) (aC (St.of hi hb (St.to ST.out).2.2) (aC (Kb.trans KB.out (Kb.jL hk)) (aE (jX HB.out (Nat.le_refl _) hb hk (Nat.le_trans GW8.out (Nat.le_of_lt LT8.out)))))))); clear HO_14 HO_p BK8 ST KB HB ho hi hb hk; obtain ⟨HO39, HO_p, BK8, ST, KB, HB⟩ := n_; obtain ⟨hcz23_0, hcz23_1, hcz23_2, hfz23_0, hfz23_1, hfz23_2⟩ := zo BK8.out; obtain ⟨Ao25, co25, eo25⟩ := Kd.wq HO39.out; subst eo25) | ((with_reducible refine xb (b := .append) (xs := #[.tmp 47, .tmp 48]) rfl ?_); at_builtin; refine Kd.xW (Kd.int .u8) (w0 := wF) wD.heap.size rfl (.tmp 47) (.tmp 48) 22 5 (.int .u8 0) 1 rfl Tryd.underlying22 info5 rfl (by decide) (by omega) (.slice Aou k8.length cou) k8 q1 _ _ _ (fun k_ => some k_ ≠ (.slice Ao25 q1.length co25 : Value).ownBlock) (fun _ => False) rfl rfl ?aO ?aR (fun _ _ h => h) (fun _ h => h.elim) ?aF ?aB ?aS ?aL ?_; (case aR => exact (Kd.R_reads' HO39.out).2.2); (case aB => exact Below.refl _ _); (case aF => exact (fun k_ hk => Kd.fresh' (Kd.xX HO39.out) k_ hk)); (case aO => exact HO_p.out); (case aS => exact KB.out.1); (case aL => have := LMc19.out; omega); intro v49 wG ho hb hg hat; rw [← Ny540.out] at ho; have n_ := aC (Kd.yU HO39.out hg hat) (aC ho (aC (xx (g := gb8) BK8.out hg (fun e_ => absurd (Kd.xi HO_p.out gb8 e_.symm) (Nat.not_le.mpr (Nat.lt_trans LT8.out LTG.out)))) (aC (St.grown ST.out hg (fun k_ e_ => Nat.lt_of_lt_of_le LTG.out (Kd.xi HO_p.out k_ e_))) (aC (Kb.grown KB.out hg (fun k_ e_ => Kd.xi HO_p.out k_ e_)) (aE (zL HB.out hb (Nat.le_trans GW8.out (Nat.le_of_lt (Nat.lt_trans LT8.out LTG.out))))))))); clear HO39 HO_p BK8 ST KB HB ho hb hg hat; obtain ⟨HO39, HO_p, BK8, ST, KB, HB⟩ := n_; obtain ⟨hcz24_0, hcz24_1, hcz24_2, hfz24_0, hfz24_1, hfz24_2⟩ := zo BK8.out; obtain ⟨Ao26, co26, eo26⟩ := Kd.wq HO_p.out; subst eo26))
          go_roundg k1
          case measure => have := HK1.out; omega
          case rel => exact ⟨q1, (wrap64 (y + 1)), q3, q4, y540, (.slice Ao26 y540.length co26), rq, H', ⟨by have := HK1.out; omega⟩, ⟨(Kd.vY (Kd.wI (p := ⟨gb8, 2, none⟩) (Kd.xF HO39.out) (fun k_ h_ => Nat.ne_of_gt (Nat.lt_of_lt_of_le (Nat.lt_trans LT8.out LTG.out) h_.2.1)) (.slice Ao26 y540.length co26)) (fun _ h_ => h_.1.2))⟩, ⟨(Kd.vY (Kd.wI (p := ⟨gb8, 2, none⟩) (Kd.xF HO_p.out) (fun k_ h_ => Nat.ne_of_gt (Nat.lt_of_lt_of_le (Nat.lt_trans LT8.out LTG.out) h_.2.1)) (.slice Ao26 y540.length co26)) (fun _ h_ => h_.1))⟩, ⟨by refine vv (cs := #[.int .i64 a1, .int .i64 a2, .slice Aou k8.length cou]) ?_ 2 _ rfl; exact BK8.out⟩, ⟨St.off ST.out BK8.out rfl (Nat.ne_of_lt LT8.out)⟩, ⟨Kb.trans KB.out Kb.off⟩, ⟨bl⟩⟩
         ·rw [if_neg c19] at H
          exact absurd H (by simp)
        ·simp only [Option.some.injEq, Prod.mk.injEq] at H
         obtain ⟨rfl, rfl, rfl, rfl, rfl⟩ := H
         go_wp2_with (first | ((with_reducible refine zO rfl ?_); refine ks (some 39) rfl rfl Tryd.func56 (by kernel_rfl) rfl #[.pointer (some ⟨gx, 0, none⟩), .int .i64 a1, .slice Ao20 ab.length co20] rfl rfl (by (try simp only [List.map_toArray, List.map_cons, List.map_nil]); first | done | rfl) ?_; (with_reducible refine (wJ.calls k1 gr l0 p o a1 _ _ ab q1 q2 q3 q4 (cutAt _ gr) _ (St.to ST.out).1 (St.to ST.out).2.1 (Kd.R_reads' HO_14.out).2.2 (Kd.R_reads' HO_14.out).2.1 (fun ad e_ _ => Nat.ne_of_gt (Nat.lt_of_lt_of_le LTG.out (Kd.xi HO_14.out _ (by rw [e_]; simp [Value.ownBlock])))) gx (XB.out.kb KB.out).old A17.out).mono ?_); rintro e wF ⟨v39, rfl, ho, hi, hb, hk⟩; refine ⟨_, rfl, ?_⟩; have n_ := aC (Kd.vX (Kd.R_new' (Kd.R_new' ho (Kd.xX HO_14.out)) (Kd.xX HO_p.out)) KB.out.1) (aC (Kd.vY (Kd.zt (Kd.xF HO_p.out) (fun k_ h_ hl_ => hk.2 k_ hl_ (Nat.ne_of_gt (Nat.lt_of_lt_of_le LTG.out h_.2.1)) (by simp))) (fun k_ h_ => show some k_ ≠ v39.ownBlock from fun e_ => absurd (Kd.xi ho k_ e_.symm) (Nat.not_le.mpr h_.2.2.1))) (aC (vx.blk hk BK8.out (Nat.ne_of_lt LT8.out) (by simp)) (aC (St.of hi hb (St.to ST.out).2.2) (aC (Kb.trans KB.out (Kb.jL hk)) (aE (jX HB.out (Nat.le_refl _) hb hk (Nat.le_trans GW8.out (Nat.le_of_lt LT8.out)))))))); clear HO_14 HO_p BK8 ST KB HB ho hi hb hk; obtain ⟨HO39, HO_p, BK8, ST, KB, HB⟩ := n_; obtain ⟨hcz23_0, hcz23_1, hcz23_2, hfz23_0, hfz23_1, hfz23_2⟩ := zo BK8.out; obtain ⟨Ao25, co25, eo25⟩ := Kd.wq HO39.out; subst eo25))
         refine bodyPost_ret (ji rfl _ _ gb8 48 #[.int .i64 0, .int .i64 0, .slice none 0 0] (0, 0) _ rfl (by (with_reducible repeat first | apply vl | apply vn | apply vm); refine vv (cs := #[.int .i64 0, .int .i64 0, .slice Aou k8.length cou]) ?_ 2 _ rfl; (with_reducible repeat first | apply vl | apply vn | apply vm); refine vv (cs := #[.int .i64 0, .int .i64 a2, .slice Aou k8.length cou]) ?_ 1 _ rfl; (with_reducible repeat first | apply vl | apply vn | apply vm); refine vv (cs := #[.int .i64 a1, .int .i64 a2, .slice Aou k8.length cou]) ?_ 0 _ rfl; exact BK8.out) Tryd.underlying48 rfl (by kernel_rfl)) rfl ?_
         exact ⟨_, re, Kd.yC _ _ _ _ _, bl⟩
       ·obtain ⟨⟨q1, q2, q3⟩, A170, H⟩ := Option.bind_eq_some_iff.mp H
        try dsimp only at H
        have A17 := Aside0.mk A170
        clear A170
        simp only [Option.some.injEq, Prod.mk.injEq] at H
        obtain ⟨rfl, rfl, rfl, rfl, rfl⟩ := H
        obtain ⟨hcz30_0, hcz30_1, hcz30_2, hfz30_0, hfz30_1, hfz30_2⟩ := zo BK8.out
        go_wp2
        have n_ := aC (vn BK8.out) (aC (show St wr.drew gr l0 p o from St.same ST.out (fun _ _ => rfl)) (aC (show Kb (gb8 + 1) gr wD wr.drew from KB.out) (aC (vG HB.out) (aC (Kd.jG HO_p.out) (aE (show wr.drew.cell? ⟨gx, 0, none⟩ = _ from XB.out.cell0 wr KB.out))))))
        clear BK8 ST KB HB HO_p HO_14
        obtain ⟨BK8, ST, KB, HB, HO_p, HX0⟩ := n_
        refine st 9 (fun w' => w'.cell? ⟨gb8, 0, none⟩ = some (.int .i64 a1) ∧ w'.cell? ⟨gb8, 1, none⟩ = some (.int .i64 a2) ∧ w'.cell? ⟨gb8, 2, none⟩ = some (.slice Aou k8.length cou) ∧ w'.cell? ⟨gx, 0, none⟩ = some (.pointer (some ⟨gr, 0, none⟩))) [6] (bv 9 0) wU.tab14 wU.bits14 ⟨jq BK8.out, jk BK8.out, jC BK8.out, HX0.out⟩ (fun hHeld HT_ HW_ => ?_)
        generalize wr.drew = w12 at BK8 ST KB HB HO_p HX0 hHeld ⊢
        refine tk 0 52 (bv 9 1) HT_ HW_ hHeld rfl rfl (by rintro w' ⟨s0, s1, s2, s3⟩; exact yl) ?_
        refine pu 1 53 (bv 9 3) HT_ rfl rfl ?_
        refine pu 2 54 (bv 9 7) HT_ rfl rfl ?_
        refine pu 3 55 (bv 9 15) HT_ rfl rfl ?_
        refine tk 4 56 (bv 9 31) HT_ HW_ hHeld rfl rfl (by rintro w' ⟨s0, s1, s2, s3⟩; exact yl) ?_
        refine yz (i := 5) (N := some 57) (bv 9 63) rfl rfl (xq HT_.out (by kernel_rfl)) (by decide) (fun K hK => ?_)
        refine gK Tryd.func80 rfl #[.pointer (some ⟨gr, 0, none⟩)] rfl rfl ?_
        with_reducible refine (yX.calls gr l0 p o q1 q2 q3 (cutAt w12 gr) _ (St.to ST.out).1 (St.to ST.out).2.1 A17.out).mono ?_
        rintro e w13 ⟨rfl, hi, hb, hk⟩
        refine ⟨_, rfl, ?_⟩
        have n_ := aC (vx.blk hk BK8.out (Nat.ne_of_lt LT8.out) (by simp)) (aC (Kd.zt (Kd.xF HO_p.out) (fun k_ h_ hl_ => hk.2 k_ hl_ (Nat.ne_of_gt (Nat.lt_of_lt_of_le LTG.out h_.2.1)) (by simp))) (aC (XB.out.cell0 _ (Kb.trans KB.out (Kb.jL hk))) (aE (jX HB.out (Nat.le_refl _) hb hk (Nat.le_trans GW8.out (Nat.le_of_lt LT8.out))))))
        clear BK8 HO_p HB HX0 hi hb hk ST KB
        obtain ⟨BK8, HO_p, HX0, HB⟩ := n_
        refine hK.out _ _ ⟨jq BK8.out, jk BK8.out, jC BK8.out, HX0.out⟩ (fun hHeld => ?_)
        clear hK K
        refine nm (some 57) ?_
        refine last_ (i := 6) (N := none) (bv 9 127) rfl rfl (xq HT_.out (by kernel_rfl)) (by decide) (fun K hK => ?_)
        refine want_ (by rfl) ?_
        obtain ⟨hcz30_0, hcz30_1, hcz30_2, hfz30_0, hfz30_1, hfz30_2⟩ := zo BK8.out
        unfold Oper.wp
        go_simp
        refine hK.out _ _ ?_
        clear hK K
        refine pu 7 9 (bv 9 255) HT_ rfl rfl ?_
        refine pu 8 10 (bv 9 511) HT_ rfl rfl ?_
        refine yO (xS HT_.out (by kernel_rfl)) ?_
        go_wp2
        refine bodyPost_ret (ji rfl _ _ gb8 48 #[.int .i64 a1, .int .i64 a2, .slice Aou k8.length cou] (0, 0) _ rfl (by refine vv (cs := #[.int .i64 a1, .int .i64 a2, .slice Aou k8.length cou]) ?_ 2 _ rfl; refine vv (cs := #[.int .i64 a1, .int .i64 a2, .slice Aou k8.length cou]) ?_ 1 _ rfl; refine vv (cs := #[.int .i64 a1, .int .i64 a2, .slice Aou k8.length cou]) ?_ 0 _ rfl; exact BK8.out) Tryd.underlying48 rfl (by kernel_rfl)) rfl ?_
        exact ⟨_, re, Kd.vX (Kd.vY (Kd.wI (p := ⟨gb8, 2, none⟩) (Kd.wI (p := ⟨gb8, 1, none⟩) (Kd.wI (p := ⟨gb8, 0, none⟩) (Kd.xF HO_p.out) (fun k_ h_ => Nat.ne_of_gt (Nat.lt_of_lt_of_le (Nat.lt_trans LT8.out LTG.out) h_.2.1)) _) (fun k_ h_ => Nat.ne_of_gt (Nat.lt_of_lt_of_le (Nat.lt_trans LT8.out LTG.out) h_.2.1)) _) (fun k_ h_ => Nat.ne_of_gt (Nat.lt_of_lt_of_le (Nat.lt_trans LT8.out LTG.out) h_.2.1)) _) (fun _ _ => trivial)) (Nat.le_trans GW8.out (Nat.le_of_lt (Nat.lt_trans LT8.out LTG.out))), bl⟩
    ·rw [if_neg c5] at H
     exact absurd H (by simp)
   ·rw [if_neg c4] at H
    exact absurd H (by simp)
  ·rw [if_neg c3] at H
   exact absurd H (by simp)
 ·rw [if_neg c2] at H
  have c2b0 := beq_eq_false_iff_ne.mpr c2
  have c2b1 := bne_iff_ne.mpr c2
  simp only [Option.some.injEq, Prod.mk.injEq] at H
  obtain ⟨rfl, rfl, rfl, rfl, rfl⟩ := H
  go_enter Tryd.func53, Tryd.ntmps53
  go_wp2_with (first | ((with_reducible refine gd 8 rfl ?_); refine bx 8 #[.int .i64 0, .int .i64 0, .slice none 0 0] 48 rfl rfl ?_; intro gb8 hg wA hbox hb; have n_ := aC (bs hb) (aC hbox (aE (gz hg))); clear HB; obtain ⟨HB, BK8, GW8⟩ := n_; clear hb hbox hg) | (refine gF 78 18 Tryd.func78 #[.int .i64 a1, .int .i64 a2, .int .i64 0] rfl rfl ?_; (with_reducible refine (wN.calls k a1 a2 0 t1 t2 t3 t4 _ A1.out).mono ?_); rintro e wB ⟨v18, rfl, ho, hb⟩; refine ⟨_, rfl, ?_⟩; have n_ := aC (vu (bU BK8.out) hb) (aC ho (aE (bs hb))); clear BK8 HB ho hb; obtain ⟨BK8, HO18, HB⟩ := n_; obtain ⟨Ao18, co18, eo18⟩ := Kd.wq HO18.out; subst eo18; clear HO18) | ((with_reducible refine gd 11 rfl ?_); refine bx 11 #[.int .i64 0, .int .i64 0, .slice none 0 0] 48 rfl rfl ?_; intro gb11 hg wC hbox hb; have n_ := aC (vu (bU BK8.out) hb) (aC (bs hb) (aC hbox (aC (gz hg) (aC (gn hg (bU BK8.out)) (aE (gm hg (bU BK8.out))))))); clear BK8 HB; obtain ⟨BK8, HB, BK11, GW11, NB8_11, NB11_8⟩ := n_; clear hb hbox hg; have hnb11 := NB11_8.out; have hnc11 := NB8_11.out; obtain ⟨hcz12_0, hcz12_1, hcz12_2, hfz12_0, hfz12_1, hfz12_2⟩ := zo BK11.out; have BKo := BK8; obtain ⟨hcz13_0, hcz13_1, hcz13_2, hfz13_0, hfz13_1, hfz13_2⟩ := zo BK8.out))
  refine bodyPost_ret (ji rfl _ _ gb8 48 #[.int .i64 0, .int .i64 0, .slice none 0 0] (0, 0) _ rfl (by (with_reducible repeat first | apply vl | apply vn | apply vm); refine vv (cs := #[.int .i64 0, .int .i64 0, .slice none 0 0]) ?_ 2 _ rfl; (with_reducible repeat first | apply vl | apply vn | apply vm); refine vv (cs := #[.int .i64 0, .int .i64 0, .slice none 0 0]) ?_ 1 _ rfl; (with_reducible repeat first | apply vl | apply vn | apply vm); refine vv (cs := #[.int .i64 0, .int .i64 0, .slice none 0 0]) ?_ 0 _ rfl; (repeat refine vV ?_ NB8_11.out _); exact BK8.out) Tryd.underlying48 rfl (by kernel_rfl)) rfl ?_
  exact ⟨_, re, Kd.yC _ _ _ _ _, bl⟩
def yg.f (k : Nat) (l0 : List Int) (a1 a2 : Int) : Option (Int × Int × List Int × Int × Int) := wU.f k l0 a1 a2
theorem yg.mono : ∀ a0 a1 a2 k, vP (yg.f k a0 a1 a2) (yg.f (k + 1) a0 a1 a2) := wU.mono
set_option maxHeartbeats 8000000 in
set_option maxRecDepth 100000 in
theorem yg.calls (k : Nat) (A0 : Option Addr) (c0 : Nat) (l0 : List Int) (a1 : Int) (a2 : Int) (r1 : Int) (r2 : Int) (r3 : List Int) (r4 : Int) (r5 : Int) (w : World) (hr0 : Kd.C (Kd.int .u8) w A0 l0.length l0) (hc0 : l0.length ≤ c0) (h : yg.f k l0 a1 a2 = some (r1, r2, r3, r4, r5)) :
  Calls Tryd.prog 33 #[.slice A0 l0.length c0, .int .i64 a1, .int .i64 a2] w fun e w' => ∃ v2_ : Value, e = .returned (.tuple #[.agg #[.int .i64 r1, .int .i64 r2, v2_], .int .i64 r4, .int .i64 r5]) ∧ Kd.R (Kd.int .u8) 5 w' w.heap.size (fun _ => True) v2_ r3 ∧ Below w.heap.size w w' := by
 have hu48 := Tryd.underlying48
 have HR0 := Aside0.mk hr0
 have HC0 := Aside0.mk hc0
 have A1 := Aside0.mk (show wU.f k l0 a1 a2 = some (r1, r2, r3, r4, r5) from h)
 clear hr0 hc0 h
 have HB := Aside0.mk (Below.refl w.heap.size w)
 go_enter Tryd.func33, Tryd.ntmps33
 go_wp2_with (first
  | ((with_reducible refine gd 6 rfl ?_); refine bx 6 #[.int .i64 0, .int .i64 0, .slice none 0 0] 48 rfl rfl ?_; intro gb8 hg wA hbox hb; have n_ := aC (bs hb) (aC hbox (aE (gz hg))); clear HB; obtain ⟨HB, BK8, GW8⟩ := n_; clear hb hbox hg)
  | (refine gF 53 12 Tryd.func53 #[.slice A0 l0.length c0, .int .i64 a1, .int .i64 a2, .func (.func 56) #[] #[]] rfl rfl ?_; (with_reducible refine (wU.calls k A0 c0 l0 a1 a2 r1 r2 r3 r4 r5 _ (Kd.wO HR0.out bl) HC0.out A1.out).mono ?_); rintro e wB ⟨v18, rfl, ho, hb⟩; refine ⟨_, rfl, ?_⟩; have n_ := aC (vu (bU BK8.out) hb) (aC ho (aC (ze BK8.out) (aE (bs hb)))); clear BK8 HB ho hb; obtain ⟨BK8, HO18, LT8, HB⟩ := n_; obtain ⟨Ao18, co18, eo18⟩ := Kd.wq HO18.out; subst eo18; obtain ⟨hcz20_0, hcz20_1, hcz20_2, hfz20_0, hfz20_1, hfz20_2⟩ := zo BK8.out))
 refine bodyPost_ret (ji rfl _ _ gb8 48 #[.int .i64 r1, .int .i64 r2, .slice Ao18 r3.length co18] (0, 0) _ rfl (by refine vv (cs := #[.int .i64 r1, .int .i64 r2, .slice none 0 0]) ?_ 2 _ rfl; refine vv (cs := #[.int .i64 r1, .int .i64 0, .slice none 0 0]) ?_ 1 _ rfl; refine vv (cs := #[.int .i64 0, .int .i64 0, .slice none 0 0]) ?_ 0 _ rfl; exact BK8.out) Tryd.underlying48 rfl (by kernel_rfl)) rfl ?_
 exact ⟨_, re, Kd.vX (Kd.vY (Kd.wI (p := ⟨gb8, 2, none⟩) (Kd.wI (p := ⟨gb8, 1, none⟩) (Kd.wI (p := ⟨gb8, 0, none⟩) (Kd.xF HO18.out) (fun k_ h_ => Nat.ne_of_gt (Nat.lt_of_lt_of_le LT8.out h_.2.1)) _) (fun k_ h_ => Nat.ne_of_gt (Nat.lt_of_lt_of_le LT8.out h_.2.1)) _) (fun k_ h_ => Nat.ne_of_gt (Nat.lt_of_lt_of_le LT8.out h_.2.1)) _) (fun _ _ => trivial)) (Nat.le_trans GW8.out (Nat.le_of_lt LT8.out)), bl⟩
end Go.Proofs.YtknclbodinfbeaaDoor.PRunsSame
