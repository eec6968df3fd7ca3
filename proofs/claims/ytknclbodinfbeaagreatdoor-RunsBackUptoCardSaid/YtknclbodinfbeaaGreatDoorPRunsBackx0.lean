-- printed (wip/tools/myprint.py)
import Derived.Test.YtknclbodinfbeaaGreatDoorProg
import Derived.Below
import Derived.Deep.Draws
import Derived.Deep.AppendLies
import Derived.Maps.AppendAt
import Derived.OwnWalk
import Derived.Laws.BytesArg
import Derived.Laws.MakeOwn
import Derived.Laws.OwnMore
import Derived.Deep.OwnRows
import Derived.Tactics
import Derived.Lib.ConvBytes
import Derived.Laws.Slices
import Derived.WalkKit
import Derived.KernelRfl
import Derived.RowKit3
import Derived.Deep.LoopGhost
import Derived.Deep.QuietTactic
import Derived.BigQuiet
import Derived.WideLaws
import Derived.Deep.DeepCutAuto
import Derived.Deep.CutBlock
import Derived.Deep.RegionHeld3
import Derived.Laws.Rows
import Derived.Lib.AppendStr
import Derived.ArgAppend
import Derived.Laws.IdiomCopy
import Derived.OrdersHeld
import Derived.Laws.BitsLemmas
import Derived.RowKit
import Derived.Test.YtknclbodinfbeaaGreatDoorWWords
import Derived.Test.YtknclbodinfbeaaGreatDoorWLast
import Derived.Test.YtknclbodinfbeaaGreatDoorWTab
import Derived.Test.YtknclbodinfbeaaGreatDoorWFour
import Derived.Test.YtknclbodinfbeaaGreatDoorWQPut
import Derived.Test.YtknclbodinfbeaaGreatDoorWApart
import Derived.Test.YtknclbodinfbeaaGreatDoorWArr
import Derived.Test.YtknclbodinfbeaaGreatDoorWZeros
import Derived.Test.YtknclbodinfbeaaGreatDoorWFoot
import Derived.Test.YtknclbodinfbeaaGreatDoorWKept
import Derived.Test.YtknclbodinfbeaaGreatDoorWShare
import Derived.Test.YtknclbodinfbeaaGreatDoorWN
import Derived.Test.YtknclbodinfbeaaGreatDoorWFootNe
import Derived.Test.YtknclbodinfbeaaGreatDoorWAt
import Derived.Test.YtknclbodinfbeaaGreatDoorWEqStruct
import Derived.Test.YtknclbodinfbeaaGreatDoorWRepsOne
import Derived.Test.YtknclbodinfbeaaGreatDoorWInv
import Derived.Test.YtknclbodinfbeaaGreatDoorWInvWords
import Derived.Test.YtknclbodinfbeaaGreatDoorWGuard
import Derived.Test.YtknclbodinfbeaaGreatDoorWNEv
import Derived.Test.YtknclbodinfbeaaGreatDoorWMore
import Derived.Test.YtknclbodinfbeaaGreatDoorYUp
import Derived.Test.YtknclbodinfbeaaGreatDoorYShort
import Derived.Test.YtknclbodinfbeaaGreatDoorYTrim
import Derived.Test.YtknclbodinfbeaaGreatDoorYVal
import Derived.Test.YtknclbodinfbeaaGreatDoorYCopy
import Derived.Test.YtknclbodinfbeaaGreatDoorYLays
import Derived.Test.YtknclbodinfbeaaGreatDoorYConv
import Derived.Test.YtknclbodinfbeaaGreatDoorYOff
namespace Go.Proofs.YtknclbodinfbeaaGreatDoor.PRunsBack
open Go.RowKit Go.Proofs.YtknclbodinfbeaaGreatDoorW.PrintWords Go.Proofs.YtknclbodinfbeaaGreatDoorW.PrintLast Go.Proofs.YtknclbodinfbeaaGreatDoorW.PrintMore
attribute [local go_sem] yo ym yC yD xU xT yn yq
set_option linter.unusedVariables false
set_option linter.unusedSimpArgs false
theorem nB {p q : Prop} (H : p) (h : ¬ p := by simp) : q := absurd H h
theorem bR (w : World) : Aside0 (Below w.heap.size w w) := ⟨Below.refl _ _⟩
def errW : Option Int → Value
 | none => .nilIface
 | some c => .iface 0 (.int .i64 c)
theorem wP : errW none = .nilIface := rfl
theorem wQ (c : Int) : errW (some c) = .iface 0 (.int .i64 c) := rfl
theorem info3 : (Tryz.prog.info? 3).map (fun i => (i.zero, i.size, i.bytes)) = some (some (.int .i64 0), 1, 8) := by kernel_rfl
theorem info5 : (Tryz.prog.info? 5).map (fun i => (i.zero, i.size, i.bytes)) = some (some (.int .u8 0), 1, 1) := by kernel_rfl
theorem info9 : (Tryz.prog.info? 9).map (fun i => (i.zero, i.size, i.bytes)) = some (some (.string ⟨#[]⟩), 1, 16) := by kernel_rfl
theorem info22 : (Tryz.prog.info? 22).map (fun i => (i.zero, i.size, i.bytes)) = some (some (.slice none 0 0), 1, 24) := by kernel_rfl
theorem info52 : (Tryz.prog.info? 52).map (fun i => (i.zero, i.size, i.bytes)) = some (some (.agg #[(.string ⟨#[]⟩), (.int .i64 0), (.int .i64 0), (.int .i64 0), (.int .i64 0)]), 5, 48) := by kernel_rfl
theorem info62 : (Tryz.prog.info? 62).map (fun i => (i.zero, i.size, i.bytes)) = some (some (.agg #[(.string ⟨#[]⟩), (.slice none 0 0), (.int .i64 0), (.int .i64 0)]), 4, 56) := by kernel_rfl
theorem info99 : (Tryz.prog.info? 99).map (fun i => (i.zero, i.size, i.bytes)) = some (some (.agg #[(.int .i64 0), (.int .i64 0), (.int .i64 0), (.int .i64 0)]), 4, 32) := by kernel_rfl
theorem info105 : (Tryz.prog.info? 105).map (fun i => (i.zero, i.size, i.bytes)) = some (some (.agg #[(.int .i64 0), (.int .i64 0), (.int .i64 0), (.int .i64 0)]), 4, 32) := by kernel_rfl
theorem info129 : (Tryz.prog.info? 129).map (fun i => (i.zero, i.size, i.bytes)) = some (some (.agg #[(.int .i64 0), (.int .i64 0)]), 2, 16) := by kernel_rfl
-- the values' own types
structure jy where
 f0 : Int
 f1 : Int
def z50 : jy := ⟨(0 : Int), (0 : Int)⟩
def k50 : Kd jy := Kd.iso (Kd.pair (Kd.int .i64) (Kd.int .i64)) (fun x : jy => (x.f0, x.f1))
theorem k50_heap : Kd.Heap k50 := Kd.jI _ (Kd.yY (Kd.yH .i64) (Kd.yH .i64))
theorem k50_open {w : World} {x : jy} {cs : List Value} (h : k50.K w x cs) : cs = [.int .i64 x.f0, .int .i64 x.f1] := by
 obtain ⟨_, _, rfl, rfl, rfl⟩ := h
 exact rfl
theorem k50_openM {w : World} {base : Nat} {ok : Nat → Prop} {x : jy} {cs : List Value} (h : k50.M w base ok x cs) : cs = [.int .i64 x.f0, .int .i64 x.f1] := by
 obtain ⟨_, _, rfl, rfl, rfl⟩ := h
 exact rfl
theorem k50_mk (w : World) (x : jy)  : k50.K w x [.int .i64 x.f0, .int .i64 x.f1] := ⟨[.int .i64 x.f0], [.int .i64 x.f1], rfl, rfl, rfl⟩
theorem k50_mkM (w : World) (base : Nat) (ok : Nat → Prop) (x : jy)  : k50.M w base ok x [.int .i64 x.f0, .int .i64 x.f1] := ⟨[.int .i64 x.f0], [.int .i64 x.f1], rfl, rfl, rfl⟩
theorem k50_mkF (W : World) (ok : Nat → Prop) (x : jy) : Kd.FK k50 W ok x [.int .i64 x.f0, .int .i64 x.f1] := fun W2 _ => k50_mk W2 x
def rd_T50 (xs : List jy) (i : Int) : jy := xs.getD i.toNat z50
theorem at_T50 {w : World} {A : Option Addr} {n : Nat} {xs : List jy} (h : Kd.C k50 w A n xs) (i : Int) (h0 : 0 ≤ i) (h1 : i < n) : ∃ ad , A = some ad ∧ w.cell? (ad.add (i.toNat * 2)) = some (.int .i64 (rd_T50 xs i).f0) ∧ w.cell? ⟨(ad.add (i.toNat * 2)).block, (ad.add (i.toNat * 2)).off + 1, none⟩ = some (.int .i64 (rd_T50 xs i).f1) := by
 obtain ⟨ad, c, e, _, hK, d⟩ := Kd.Vk h z50 i h0 h1
 have hc : ∀ j u, c[j]? = some u → w.cell? (ad.add (i.toNat * 2 + j)) = some u := d
 obtain rfl := k50_open hK
 exact ⟨ad, e, hc 0 _ rfl, by rw [← yK _ _ 1 (by omega)]; exact hc 1 _ rfl⟩
structure zq where
 f0 : ByteArray
 f1 : Int
 f2 : jy
 f3 : Int
def z52 : zq := ⟨(⟨#[]⟩ : ByteArray), (0 : Int), z50, (0 : Int)⟩
def k52 : Kd zq := Kd.iso (Kd.pair Kd.string (Kd.pair (Kd.int .i64) (Kd.pair k50 (Kd.int .i64)))) (fun x : zq => (x.f0, x.f1, x.f2, x.f3))
theorem k52_heap : Kd.Heap k52 := Kd.jI _ (Kd.yY Kd.qo (Kd.yY (Kd.yH .i64) (Kd.yY k50_heap (Kd.yH .i64))))
theorem k52_open {w : World} {x : zq} {cs : List Value} (h : k52.K w x cs) : cs = [.string x.f0, .int .i64 x.f1, .int .i64 x.f2.f0, .int .i64 x.f2.f1, .int .i64 x.f3] := by
 obtain ⟨_, _, rfl, rfl, ⟨_, _, rfl, rfl, ⟨_, _, rfl, s2, rfl⟩⟩⟩ := h
 obtain rfl := k50_open s2
 exact rfl
theorem k52_openM {w : World} {base : Nat} {ok : Nat → Prop} {x : zq} {cs : List Value} (h : k52.M w base ok x cs) : cs = [.string x.f0, .int .i64 x.f1, .int .i64 x.f2.f0, .int .i64 x.f2.f1, .int .i64 x.f3] := by
 obtain ⟨_, _, rfl, rfl, ⟨_, _, rfl, rfl, ⟨_, _, rfl, s2, rfl⟩⟩⟩ := h
 obtain rfl := k50_openM s2
 exact rfl
theorem k52_mk (w : World) (x : zq)  : k52.K w x [.string x.f0, .int .i64 x.f1, .int .i64 x.f2.f0, .int .i64 x.f2.f1, .int .i64 x.f3] := ⟨[.string x.f0], [.int .i64 x.f1, .int .i64 x.f2.f0, .int .i64 x.f2.f1, .int .i64 x.f3], rfl, rfl, ⟨[.int .i64 x.f1], [.int .i64 x.f2.f0, .int .i64 x.f2.f1, .int .i64 x.f3], rfl, rfl, ⟨[.int .i64 x.f2.f0, .int .i64 x.f2.f1], [.int .i64 x.f3], rfl, (k50_mk w x.f2 ), rfl⟩⟩⟩
theorem qI (w : World) (base : Nat) (ok : Nat → Prop) (x : zq)  : k52.M w base ok x [.string x.f0, .int .i64 x.f1, .int .i64 x.f2.f0, .int .i64 x.f2.f1, .int .i64 x.f3] := ⟨[.string x.f0], [.int .i64 x.f1, .int .i64 x.f2.f0, .int .i64 x.f2.f1, .int .i64 x.f3], rfl, rfl, ⟨[.int .i64 x.f1], [.int .i64 x.f2.f0, .int .i64 x.f2.f1, .int .i64 x.f3], rfl, rfl, ⟨[.int .i64 x.f2.f0, .int .i64 x.f2.f1], [.int .i64 x.f3], rfl, (k50_mkM w base ok x.f2 ), rfl⟩⟩⟩
theorem k52_mkF (W : World) (ok : Nat → Prop) (x : zq) : Kd.FK k52 W ok x [.string x.f0, .int .i64 x.f1, .int .i64 x.f2.f0, .int .i64 x.f2.f1, .int .i64 x.f3] := fun W2 _ => k52_mk W2 x
def wj (xs : List zq) (i : Int) : zq := xs.getD i.toNat z52
theorem at_T52 {w : World} {A : Option Addr} {n : Nat} {xs : List zq} (h : Kd.C k52 w A n xs) (i : Int) (h0 : 0 ≤ i) (h1 : i < n) : ∃ ad , A = some ad ∧ w.cell? (ad.add (i.toNat * 5)) = some (.string (wj xs i).f0) ∧ w.cell? ⟨(ad.add (i.toNat * 5)).block, (ad.add (i.toNat * 5)).off + 1, none⟩ = some (.int .i64 (wj xs i).f1) ∧ w.cell? ⟨(ad.add (i.toNat * 5)).block, (ad.add (i.toNat * 5)).off + 2, none⟩ = some (.int .i64 (wj xs i).f2.f0) ∧ w.cell? ⟨(ad.add (i.toNat * 5)).block, (ad.add (i.toNat * 5)).off + 3, none⟩ = some (.int .i64 (wj xs i).f2.f1) ∧ w.cell? ⟨(ad.add (i.toNat * 5)).block, (ad.add (i.toNat * 5)).off + 4, none⟩ = some (.int .i64 (wj xs i).f3) := by
 obtain ⟨ad, c, e, _, hK, d⟩ := Kd.Vk h z52 i h0 h1
 have hc : ∀ j u, c[j]? = some u → w.cell? (ad.add (i.toNat * 5 + j)) = some u := d
 obtain rfl := k52_open hK
 exact ⟨ad, e, hc 0 _ rfl, by rw [← yK _ _ 1 (by omega)]; exact hc 1 _ rfl, by rw [← yK _ _ 2 (by omega)]; exact hc 2 _ rfl, by rw [← yK _ _ 3 (by omega)]; exact hc 3 _ rfl, by rw [← yK _ _ 4 (by omega)]; exact hc 4 _ rfl⟩
structure yW where
 f0 : Int
 f1 : Int
 f2 : Int
 f3 : Int
def z99 : yW := ⟨(0 : Int), (0 : Int), (0 : Int), (0 : Int)⟩
def qh : Kd yW := Kd.iso (Kd.pair (Kd.int .i64) (Kd.pair (Kd.int .i64) (Kd.pair (Kd.int .i64) (Kd.int .i64)))) (fun x : yW => (x.f0, x.f1, x.f2, x.f3))
theorem k99_heap : Kd.Heap qh := Kd.jI _ (Kd.yY (Kd.yH .i64) (Kd.yY (Kd.yH .i64) (Kd.yY (Kd.yH .i64) (Kd.yH .i64))))
theorem k99_open {w : World} {x : yW} {cs : List Value} (h : qh.K w x cs) : cs = [.int .i64 x.f0, .int .i64 x.f1, .int .i64 x.f2, .int .i64 x.f3] := by
 obtain ⟨_, _, rfl, rfl, ⟨_, _, rfl, rfl, ⟨_, _, rfl, rfl, rfl⟩⟩⟩ := h
 exact rfl
theorem k99_openM {w : World} {base : Nat} {ok : Nat → Prop} {x : yW} {cs : List Value} (h : qh.M w base ok x cs) : cs = [.int .i64 x.f0, .int .i64 x.f1, .int .i64 x.f2, .int .i64 x.f3] := by
 obtain ⟨_, _, rfl, rfl, ⟨_, _, rfl, rfl, ⟨_, _, rfl, rfl, rfl⟩⟩⟩ := h
 exact rfl
theorem k99_mk (w : World) (x : yW)  : qh.K w x [.int .i64 x.f0, .int .i64 x.f1, .int .i64 x.f2, .int .i64 x.f3] := ⟨[.int .i64 x.f0], [.int .i64 x.f1, .int .i64 x.f2, .int .i64 x.f3], rfl, rfl, ⟨[.int .i64 x.f1], [.int .i64 x.f2, .int .i64 x.f3], rfl, rfl, ⟨[.int .i64 x.f2], [.int .i64 x.f3], rfl, rfl, rfl⟩⟩⟩
theorem zt (w : World) (base : Nat) (ok : Nat → Prop) (x : yW)  : qh.M w base ok x [.int .i64 x.f0, .int .i64 x.f1, .int .i64 x.f2, .int .i64 x.f3] := ⟨[.int .i64 x.f0], [.int .i64 x.f1, .int .i64 x.f2, .int .i64 x.f3], rfl, rfl, ⟨[.int .i64 x.f1], [.int .i64 x.f2, .int .i64 x.f3], rfl, rfl, ⟨[.int .i64 x.f2], [.int .i64 x.f3], rfl, rfl, rfl⟩⟩⟩
theorem k99_mkF (W : World) (ok : Nat → Prop) (x : yW) : Kd.FK qh W ok x [.int .i64 x.f0, .int .i64 x.f1, .int .i64 x.f2, .int .i64 x.f3] := fun W2 _ => k99_mk W2 x
def ye (xs : List yW) (i : Int) : yW := xs.getD i.toNat z99
theorem at_T99 {w : World} {A : Option Addr} {n : Nat} {xs : List yW} (h : Kd.C qh w A n xs) (i : Int) (h0 : 0 ≤ i) (h1 : i < n) : ∃ ad , A = some ad ∧ w.cell? (ad.add (i.toNat * 4)) = some (.int .i64 (ye xs i).f0) ∧ w.cell? ⟨(ad.add (i.toNat * 4)).block, (ad.add (i.toNat * 4)).off + 1, none⟩ = some (.int .i64 (ye xs i).f1) ∧ w.cell? ⟨(ad.add (i.toNat * 4)).block, (ad.add (i.toNat * 4)).off + 2, none⟩ = some (.int .i64 (ye xs i).f2) ∧ w.cell? ⟨(ad.add (i.toNat * 4)).block, (ad.add (i.toNat * 4)).off + 3, none⟩ = some (.int .i64 (ye xs i).f3) := by
 obtain ⟨ad, c, e, _, hK, d⟩ := Kd.Vk h z99 i h0 h1
 have hc : ∀ j u, c[j]? = some u → w.cell? (ad.add (i.toNat * 4 + j)) = some u := d
 obtain rfl := k99_open hK
 exact ⟨ad, e, hc 0 _ rfl, by rw [← yK _ _ 1 (by omega)]; exact hc 1 _ rfl, by rw [← yK _ _ 2 (by omega)]; exact hc 2 _ rfl, by rw [← yK _ _ 3 (by omega)]; exact hc 3 _ rfl⟩
structure wb where
 f0 : Int
 f1 : Int
 f2 : Int
 f3 : Int
def z105 : wb := ⟨(0 : Int), (0 : Int), (0 : Int), (0 : Int)⟩
def yj : Kd wb := Kd.iso (Kd.pair (Kd.int .i64) (Kd.pair (Kd.int .i64) (Kd.pair (Kd.int .i64) (Kd.int .i64)))) (fun x : wb => (x.f0, x.f1, x.f2, x.f3))
theorem k105_heap : Kd.Heap yj := Kd.jI _ (Kd.yY (Kd.yH .i64) (Kd.yY (Kd.yH .i64) (Kd.yY (Kd.yH .i64) (Kd.yH .i64))))
theorem k105_open {w : World} {x : wb} {cs : List Value} (h : yj.K w x cs) : cs = [.int .i64 x.f0, .int .i64 x.f1, .int .i64 x.f2, .int .i64 x.f3] := by
 obtain ⟨_, _, rfl, rfl, ⟨_, _, rfl, rfl, ⟨_, _, rfl, rfl, rfl⟩⟩⟩ := h
 exact rfl
theorem k105_openM {w : World} {base : Nat} {ok : Nat → Prop} {x : wb} {cs : List Value} (h : yj.M w base ok x cs) : cs = [.int .i64 x.f0, .int .i64 x.f1, .int .i64 x.f2, .int .i64 x.f3] := by
 obtain ⟨_, _, rfl, rfl, ⟨_, _, rfl, rfl, ⟨_, _, rfl, rfl, rfl⟩⟩⟩ := h
 exact rfl
theorem k105_mk (w : World) (x : wb)  : yj.K w x [.int .i64 x.f0, .int .i64 x.f1, .int .i64 x.f2, .int .i64 x.f3] := ⟨[.int .i64 x.f0], [.int .i64 x.f1, .int .i64 x.f2, .int .i64 x.f3], rfl, rfl, ⟨[.int .i64 x.f1], [.int .i64 x.f2, .int .i64 x.f3], rfl, rfl, ⟨[.int .i64 x.f2], [.int .i64 x.f3], rfl, rfl, rfl⟩⟩⟩
theorem xG (w : World) (base : Nat) (ok : Nat → Prop) (x : wb)  : yj.M w base ok x [.int .i64 x.f0, .int .i64 x.f1, .int .i64 x.f2, .int .i64 x.f3] := ⟨[.int .i64 x.f0], [.int .i64 x.f1, .int .i64 x.f2, .int .i64 x.f3], rfl, rfl, ⟨[.int .i64 x.f1], [.int .i64 x.f2, .int .i64 x.f3], rfl, rfl, ⟨[.int .i64 x.f2], [.int .i64 x.f3], rfl, rfl, rfl⟩⟩⟩
theorem k105_mkF (W : World) (ok : Nat → Prop) (x : wb) : Kd.FK yj W ok x [.int .i64 x.f0, .int .i64 x.f1, .int .i64 x.f2, .int .i64 x.f3] := fun W2 _ => k105_mk W2 x
def vk (xs : List wb) (i : Int) : wb := xs.getD i.toNat z105
theorem xr {w : World} {A : Option Addr} {n : Nat} {xs : List wb} (h : Kd.C yj w A n xs) (i : Int) (h0 : 0 ≤ i) (h1 : i < n) : ∃ ad , A = some ad ∧ w.cell? (ad.add (i.toNat * 4)) = some (.int .i64 (vk xs i).f0) ∧ w.cell? ⟨(ad.add (i.toNat * 4)).block, (ad.add (i.toNat * 4)).off + 1, none⟩ = some (.int .i64 (vk xs i).f1) ∧ w.cell? ⟨(ad.add (i.toNat * 4)).block, (ad.add (i.toNat * 4)).off + 2, none⟩ = some (.int .i64 (vk xs i).f2) ∧ w.cell? ⟨(ad.add (i.toNat * 4)).block, (ad.add (i.toNat * 4)).off + 3, none⟩ = some (.int .i64 (vk xs i).f3) := by
 obtain ⟨ad, c, e, _, hK, d⟩ := Kd.Vk h z105 i h0 h1
 have hc : ∀ j u, c[j]? = some u → w.cell? (ad.add (i.toNat * 4 + j)) = some u := d
 obtain rfl := k105_open hK
 exact ⟨ad, e, hc 0 _ rfl, by rw [← yK _ _ 1 (by omega)]; exact hc 1 _ rfl, by rw [← yK _ _ 2 (by omega)]; exact hc 2 _ rfl, by rw [← yK _ _ 3 (by omega)]; exact hc 3 _ rfl⟩
structure z6 where
 f0 : Int
 f1 : Int
def z129 : z6 := ⟨(0 : Int), (0 : Int)⟩
def jJ : Kd z6 := Kd.iso (Kd.pair (Kd.int .i64) (Kd.int .i64)) (fun x : z6 => (x.f0, x.f1))
theorem k129_heap : Kd.Heap jJ := Kd.jI _ (Kd.yY (Kd.yH .i64) (Kd.yH .i64))
theorem k129_open {w : World} {x : z6} {cs : List Value} (h : jJ.K w x cs) : cs = [.int .i64 x.f0, .int .i64 x.f1] := by
 obtain ⟨_, _, rfl, rfl, rfl⟩ := h
 exact rfl
theorem qO {w : World} {base : Nat} {ok : Nat → Prop} {x : z6} {cs : List Value} (h : jJ.M w base ok x cs) : cs = [.int .i64 x.f0, .int .i64 x.f1] := by
 obtain ⟨_, _, rfl, rfl, rfl⟩ := h
 exact rfl
theorem k129_mk (w : World) (x : z6)  : jJ.K w x [.int .i64 x.f0, .int .i64 x.f1] := ⟨[.int .i64 x.f0], [.int .i64 x.f1], rfl, rfl, rfl⟩
theorem k129_mkM (w : World) (base : Nat) (ok : Nat → Prop) (x : z6)  : jJ.M w base ok x [.int .i64 x.f0, .int .i64 x.f1] := ⟨[.int .i64 x.f0], [.int .i64 x.f1], rfl, rfl, rfl⟩
theorem k129_mkF (W : World) (ok : Nat → Prop) (x : z6) : Kd.FK jJ W ok x [.int .i64 x.f0, .int .i64 x.f1] := fun W2 _ => k129_mk W2 x
def yp (xs : List z6) (i : Int) : z6 := xs.getD i.toNat z129
theorem at_T129 {w : World} {A : Option Addr} {n : Nat} {xs : List z6} (h : Kd.C jJ w A n xs) (i : Int) (h0 : 0 ≤ i) (h1 : i < n) : ∃ ad , A = some ad ∧ w.cell? (ad.add (i.toNat * 2)) = some (.int .i64 (yp xs i).f0) ∧ w.cell? ⟨(ad.add (i.toNat * 2)).block, (ad.add (i.toNat * 2)).off + 1, none⟩ = some (.int .i64 (yp xs i).f1) := by
 obtain ⟨ad, c, e, _, hK, d⟩ := Kd.Vk h z129 i h0 h1
 have hc : ∀ j u, c[j]? = some u → w.cell? (ad.add (i.toNat * 2 + j)) = some u := d
 obtain rfl := k129_open hK
 exact ⟨ad, e, hc 0 _ rfl, by rw [← yK _ _ 1 (by omega)]; exact hc 1 _ rfl⟩
def zc (xs : List (List Int)) (i : Int) : (List Int) := xs.getD i.toNat ([] : List Int)
theorem at_L8 {w : World} {A : Option Addr} {n : Nat} {xs : List (List Int)} (h : Kd.C (Kd.slice 5 (Kd.int .u8)) w A n xs) (i : Int) (h0 : 0 ≤ i) (h1 : i < n) : ∃ ad A0 c0, A = some ad ∧ w.cell? (ad.add i.toNat) = some (.slice A0 (zc xs i).length c0) ∧ (zc xs i).length ≤ c0 ∧ (Kd.int .u8).C w A0 (zc xs i).length (zc xs i) := by
 obtain ⟨ad, c, e, _, hK, d⟩ := Kd.Vk h ([] : List Int) i h0 h1
 have hc : ∀ j u, c[j]? = some u → w.cell? (ad.add (i.toNat * 1 + j)) = some u := d
 obtain ⟨A0, c0, rfl, l0, g0⟩ := hK
 exact ⟨ad, A0, c0, e, by have hq := hc 0 _ rfl; rwa [Nat.mul_one, Nat.add_zero] at hq, l0, g0⟩
structure jw where
 f0 : ByteArray
 f1 : (List Int)
 f2 : Int
 f3 : Int
def z62 : jw := ⟨(⟨#[]⟩ : ByteArray), ([] : List Int), (0 : Int), (0 : Int)⟩
def k62 : Kd jw := Kd.iso (Kd.pair Kd.string (Kd.pair (Kd.slice 5 (Kd.int .u8)) (Kd.pair (Kd.int .i64) (Kd.int .i64)))) (fun x : jw => (x.f0, x.f1, x.f2, x.f3))
theorem k62_heap : Kd.Heap k62 := Kd.jI _ (Kd.yY Kd.qo (Kd.yY (Kd.heap_slice 5 (Kd.yH .u8)) (Kd.yY (Kd.yH .i64) (Kd.yH .i64))))
theorem Vj {w : World} {x : jw} {cs : List Value} (h : k62.K w x cs) : ∃ A1 c1, cs = [.string x.f0, .slice A1 x.f1.length c1, .int .i64 x.f2, .int .i64 x.f3] ∧ x.f1.length ≤ c1 ∧ (Kd.int .u8).C w A1 x.f1.length x.f1 := by
 obtain ⟨_, _, rfl, rfl, ⟨_, _, rfl, ⟨A1, c1, rfl, l1, g1⟩, ⟨_, _, rfl, rfl, rfl⟩⟩⟩ := h
 exact ⟨A1, c1, rfl, l1, g1⟩
theorem k62_openM {w : World} {base : Nat} {ok : Nat → Prop} {x : jw} {cs : List Value} (h : k62.M w base ok x cs) : ∃ v1, cs = [.string x.f0, v1, .int .i64 x.f2, .int .i64 x.f3] ∧ (Kd.int .u8).R 5 w base ok v1 x.f1 := by
 obtain ⟨_, _, rfl, rfl, ⟨_, _, rfl, ⟨v1, rfl, g1⟩, ⟨_, _, rfl, rfl, rfl⟩⟩⟩ := h
 exact ⟨v1, rfl, g1⟩
theorem k62_mk (w : World) (x : jw) {A1 : Option Addr} {c1 : Nat} (l1 : x.f1.length ≤ c1) (g1 : (Kd.int .u8).C w A1 x.f1.length x.f1) : k62.K w x [.string x.f0, .slice A1 x.f1.length c1, .int .i64 x.f2, .int .i64 x.f3] := ⟨[.string x.f0], [.slice A1 x.f1.length c1, .int .i64 x.f2, .int .i64 x.f3], rfl, rfl, ⟨[.slice A1 x.f1.length c1], [.int .i64 x.f2, .int .i64 x.f3], rfl, ⟨A1, c1, rfl, l1, g1⟩, ⟨[.int .i64 x.f2], [.int .i64 x.f3], rfl, rfl, rfl⟩⟩⟩
theorem k62_mkM (w : World) (base : Nat) (ok : Nat → Prop) (x : jw) {v1 : Value} (g1 : (Kd.int .u8).R 5 w base ok v1 x.f1) : k62.M w base ok x [.string x.f0, v1, .int .i64 x.f2, .int .i64 x.f3] := ⟨[.string x.f0], [v1, .int .i64 x.f2, .int .i64 x.f3], rfl, rfl, ⟨[v1], [.int .i64 x.f2, .int .i64 x.f3], rfl, ⟨v1, rfl, g1⟩, ⟨[.int .i64 x.f2], [.int .i64 x.f3], rfl, rfl, rfl⟩⟩⟩
theorem k62_openF {W : World} {ok : Nat → Prop} {x : jw} {cs : List Value} (h : Kd.FK k62 W ok x cs) : ∃ A1 c1, cs = [.string x.f0, .slice A1 x.f1.length c1, .int .i64 x.f2, .int .i64 x.f3] ∧ x.f1.length ≤ c1 ∧ Kd.F (Kd.int .u8) W ok A1 x.f1.length x.f1 := by
 obtain ⟨A1, c1, rfl, l1, _⟩ := Vj (Kd.qX h)
 exact ⟨A1, c1, rfl, l1, (fun W' hW => by obtain ⟨d, e, he, j, g1_⟩ := Vj (h W' hW); injection (Option.some.inj (show some (Value.slice A1 x.f1.length c1) = some (Value.slice d x.f1.length e) from congrArg (fun l => l[1]?) he)) with ha_ _ _; rw [ha_]; exact g1_)⟩
theorem k62_mkF (W : World) (ok : Nat → Prop) (x : jw) {A1 : Option Addr} {c1 : Nat} (l1 : x.f1.length ≤ c1) (g1 : Kd.F (Kd.int .u8) W ok A1 x.f1.length x.f1) : Kd.FK k62 W ok x [.string x.f0, .slice A1 x.f1.length c1, .int .i64 x.f2, .int .i64 x.f3] := fun W2 hW => k62_mk W2 x l1 (g1 W2 hW)
def xY (xs : List jw) (i : Int) : jw := xs.getD i.toNat z62
theorem at_T62 {w : World} {A : Option Addr} {n : Nat} {xs : List jw} (h : Kd.C k62 w A n xs) (i : Int) (h0 : 0 ≤ i) (h1 : i < n) : ∃ ad A1 c1, A = some ad ∧ w.cell? (ad.add (i.toNat * 4)) = some (.string (xY xs i).f0) ∧ w.cell? ⟨(ad.add (i.toNat * 4)).block, (ad.add (i.toNat * 4)).off + 1, none⟩ = some (.slice A1 (xY xs i).f1.length c1) ∧ w.cell? ⟨(ad.add (i.toNat * 4)).block, (ad.add (i.toNat * 4)).off + 2, none⟩ = some (.int .i64 (xY xs i).f2) ∧ w.cell? ⟨(ad.add (i.toNat * 4)).block, (ad.add (i.toNat * 4)).off + 3, none⟩ = some (.int .i64 (xY xs i).f3) ∧ (xY xs i).f1.length ≤ c1 ∧ (Kd.int .u8).C w A1 (xY xs i).f1.length (xY xs i).f1 := by
 obtain ⟨ad, c, e, _, hK, d⟩ := Kd.Vk h z62 i h0 h1
 have hc : ∀ j u, c[j]? = some u → w.cell? (ad.add (i.toNat * 4 + j)) = some u := d
 obtain ⟨A1, c1, rfl, l1, g1⟩ := Vj hK
 exact ⟨ad, A1, c1, e, hc 0 _ rfl, by rw [← yK _ _ 1 (by omega)]; exact hc 1 _ rfl, by rw [← yK _ _ 2 (by omega)]; exact hc 2 _ rfl, by rw [← yK _ _ 3 (by omega)]; exact hc 3 _ rfl, l1, g1⟩
end Go.Proofs.YtknclbodinfbeaaGreatDoor.PRunsBack
