/- strings.Trim, strings.Builder, strconv.Itoa at this program: the library's laid texts, number for number. No conditions. -/
import Derived.Test.YtacdchogjpeffaaDoorProg
import Derived.Test.YtacdchogjpeffaaDoorYShort
import Derived.Shelf.Strings.SlTrimAscii
import Derived.Shelf.Strings.BuilderK
import Derived.Shelf.Strconv.Itoa3
import Derived.Lib.AppendIntMem
import Derived.Shelf.Strconv.ErrVarAll
import Derived.KernelRfl
import Derived.HandedShaped
import Derived.Shelf.Vars
import Derived.LaidMore
import Derived.Handed
import Derived.WalkKit
namespace Go.Proofs.YtacdchogjpeffaaDoor
open Go.Shelf Go.RowKit Go.Sort Go.Lib Go.Proofs.YtacdchogjpeffaaDoorW.PrintWords
set_option maxRecDepth 1000000
def renTrim : Go.Shelf.Ren := ⟨fun n => match n with | 160 => 104 | 232 => 113 | 231 => 112 | 227 => 114 | 234 => 116 | 233 => 115 | 236 => 118 | 235 => 117 | 228 => 129 | 271 => 132 | 151 => 131 | 197 => 130 | 120 => 140 | 152 => 139 | 260 => 138 | 137 => 83 | 119 => 143 | 224 => 144 | 225 => 145 | 217 => 99 | 266 => 105 | n => n, fun n => match n with | 9 => 9 | 4 => 4 | 3 => 3 | 5 => 5 | 117 => 142 | 116 => 141 | 0 => 0 | 124 => 145 | 21 => 21 | 105 => 159 | 46 => 157 | 119 => 176 | 139 => 179 | 138 => 178 | n => n, fun n => match n with | 3 => 6 | 4 => 7 | n => n⟩
def renB : Go.Shelf.Ren := ⟨fun n => match n with | 166 => 78 | 167 => 77 | 169 => 57 | 240 => 94 | 276 => 102 | n => n, fun n => match n with | 0 => 0 | 3 => 3 | 4 => 4 | 5 => 5 | 9 => 9 | 20 => 20 | 37 => 44 | 70 => 84 | 72 => 86 | 75 => 107 | 80 => 88 | 127 => 112 | 164 => 128 | n => n, fun n => n⟩
def renItoa : Go.Shelf.Ren := ⟨fun n => match n with | 129 => 125 | 171 => 79 | 243 => 95 | 246 => 103 | 283 => 108 | 284 => 109 | 285 => 110 | 286 => 111 | 317 => 124 | 318 => 126 | 319 => 127 | 320 => 128 | 337 => 136 | 338 => 137 | n => n, fun n => match n with | 0 => 0 | 2 => 2 | 3 => 3 | 4 => 4 | 5 => 5 | 9 => 9 | 20 => 20 | 37 => 44 | 46 => 157 | 51 => 154 | 53 => 134 | 171 => 133 | 173 => 137 | 212 => 153 | 213 => 155 | 232 => 174 | 233 => 175 | n => n, fun n => match n with | 17 => 1 | 18 => 4 | 19 => 5 | n => n⟩
set_option maxHeartbeats 4000000 in
theorem lays160 : Lays.n160 Tryd.prog renTrim := by
  constructor
  all_goals first | kernel_rfl | (intro w; kernel_rfl) | (intro w; rfl)
set_option maxHeartbeats 4000000 in
theorem lays166 : Lays.n166 Tryd.prog renB := by
  constructor
  all_goals first | kernel_rfl | (intro w; kernel_rfl) | (intro w; rfl)
set_option maxHeartbeats 4000000 in
theorem lays167 : Lays.n167 Tryd.prog renB := by
  constructor
  all_goals first | kernel_rfl | (intro w; kernel_rfl) | (intro w; rfl)
set_option maxHeartbeats 4000000 in
theorem lays169 : Lays.n169 Tryd.prog renB := by
  constructor
  all_goals first | kernel_rfl | (intro w; kernel_rfl) | (intro w; rfl)
set_option maxHeartbeats 4000000 in
theorem lays171 : Lays.n171 Tryd.prog renItoa := by
  constructor
  all_goals first | kernel_rfl | (intro w; kernel_rfl) | (intro w; rfl)
set_option maxHeartbeats 4000000 in
theorem laysM171 : LaysM.n171 Tryd.prog renItoa := by
  apply LaysM.n171.mk lays171 <;> kernel_rfl
set_option maxHeartbeats 4000000 in
theorem extraB : Builder.Extra Tryd.prog renB := by
  refine { sizeBuilder := ?_, liesBuilder := ?_, t5 := ?_, a5 := ?_, z5 := ?_, v5 := ?_, infoByte := ?_, cellsByte := ?_, sizeByte := ?_, neB5 := ?_ }
  all_goals first | kernel_rfl | (intro w; kernel_rfl) | (intro w; rfl) | decide
def renAtoi : Go.Shelf.Ren := ⟨fun n => match n with | 172 => 100 | 244 => 106 | 245 => 107 | 247 => 119 | 279 => 120 | 280 => 121 | 281 => 122 | 282 => 123 | 287 => 133 | 316 => 134 | 171 => 79 | 205 => 135 | 321 => 141 | 322 => 142 | 243 => 95 | 246 => 103 | 283 => 108 | 284 => 109 | 285 => 110 | 286 => 111 | 129 => 125 | 317 => 124 | 318 => 126 | 319 => 127 | 320 => 128 | 337 => 136 | 338 => 137 | n => n, fun n => match n with | 9 => 9 | 3 => 3 | 75 => 107 | 76 => 109 | 4 => 4 | 5 => 5 | 167 => 146 | 37 => 44 | 0 => 0 | 85 => 147 | 2 => 2 | 168 => 149 | 53 => 134 | 175 => 162 | 46 => 157 | 210 => 166 | 127 => 112 | 145 => 173 | 143 => 171 | 21 => 21 | 171 => 133 | 173 => 137 | 212 => 153 | 51 => 154 | 20 => 20 | 213 => 155 | 232 => 174 | 233 => 175 | 80 => 88 | n => n, fun n => match n with | 15 => 2 | 16 => 3 | 17 => 1 | 18 => 4 | 19 => 5 | n => n⟩
set_option maxHeartbeats 4000000 in
theorem lays172 : Lays.n172 Tryd.prog renAtoi := by
  constructor
  all_goals first | kernel_rfl | (intro w; kernel_rfl) | (intro w; rfl)
set_option maxHeartbeats 4000000 in
theorem laysM172 : LaysM.n172 Tryd.prog renAtoi := by
  apply LaysM.n172.mk lays172 <;> first | kernel_rfl | (intro w; kernel_rfl) | (intro w; rfl)
set_option maxHeartbeats 4000000 in
theorem laysC172 : LaysC.n172 Tryd.prog renAtoi := by
  apply LaysC.n172.mk laysM172 <;> first | kernel_rfl | (intro w; kernel_rfl) | (intro w; rfl)
def ErrIs (g : Nat) (w : World) : Prop := ∃ tp p, w.cell? ⟨g, 0, none⟩ = some (.iface tp p)
theorem ErrIs.below {g : Nat} {w W : World} (h : ErrIs g w) (hB : Below w.heap.size w W) : ErrIs g W := by
  obtain ⟨tp, p, h⟩ := h
  exact ⟨tp, p, hcB hB h⟩
/-- The library's table of powers reads as it was laid, and the two errors are errors. -/
def TIs (w : World) : Prop := TabIs Tryd.prog w "internal/strconv.uint64pow10" .u64 pow10Tab ∧ ErrIs 2 w ∧ ErrIs 3 w
theorem TIs.below {w W : World} (h : TIs w) (hB : Below w.heap.size w W) : TIs W := ⟨((tabBelow_of_tabIs h.1).on hB).here, h.2.1.below hB, h.2.2.below hB⟩
theorem TIs.on {w W : World} (h : Aside0 (TIs w)) (hB : Below w.heap.size w W := by exact bl) : TIs W := h.out.below hB
theorem itoa_calls (n : Int) (h0 : -9223372036854775808 ≤ n) (h1 : n ≤ 9223372036854775807) (w : World) (ht : TIs w) :
    Calls Tryd.prog 79 #[.int .i64 n] w fun e w' => e = .returned (.string ⟨(itoa n).toArray⟩) ∧ Below w.heap.size w w' := by
  refine (Any.strconv_Itoa laysM171 n h0 h1 w ht.1).mono ?_
  rintro e w' ⟨rfl, k, os, rfl⟩
  exact ⟨rfl, below_grow _ w (Nat.le_refl _) k os⟩
def atoiR (s : ByteArray) : Int × Bool := match Go.Lib.atoiAll s.data.toList with
  | .ok v => (v, true)
  | .range => (Go.Lib.atoiSat s.data.toList, false)
  | _ => (0, false)
theorem atoi_calls (s : ByteArray) (hs : s.size ≤ 1000000) (w : World) (ht : TIs w) :
    Calls Tryd.prog 100 #[.string s] w fun e w' => ∃ ev, e = .returned (.tuple #[.int .i64 (atoiR s).1, ev]) ∧ Below w.heap.size w w' ∧ ((atoiR s).2 = true → ev = .nilIface) ∧ ((atoiR s).2 = false → ∃ t p, ev = .iface t p) := by
  unfold atoiR
  cases h : Go.Lib.atoiAll s.data.toList with
  | ok v =>
    refine (Any.strconv_Atoi_ok laysC172 s (by omega) v h w).mono ?_
    rintro e w' ⟨rfl, hw⟩
    refine ⟨_, rfl, ?_, fun _ => rfl, fun h => absurd (show true = false from h) (by decide)⟩
    rcases hw with rfl | ⟨t, rfl⟩
    · exact Below.refl _ _
    · exact bytes_below (Below.refl _ _) (Nat.le_refl _) _ _
  | range =>
    obtain ⟨tp, p, he⟩ := ht.2.2
    refine (Any.strconv_Atoi_range laysC172 s (by omega) h (.iface tp p) w he (.inr ⟨_, _, rfl⟩)).mono ?_
    rintro e w' ⟨N, rfl, _, _, hb⟩
    exact ⟨_, rfl, hb, fun h => absurd (show false = true from h) (by decide), fun _ => ⟨_, _, rfl⟩⟩
  | _ =>
    obtain ⟨tp, p, he⟩ := ht.2.1
    refine (Any.strconv_Atoi_syntax laysC172 s (by omega) h (.iface tp p) w he (.inr ⟨_, _, rfl⟩)).mono ?_
    rintro e w' ⟨N, rfl, _, _, hb⟩
    exact ⟨_, rfl, hb, fun h => absurd (show false = true from h) (by decide), fun _ => ⟨_, _, rfl⟩⟩
/-- The numeral, a digit told by itself. -/
def itz (n : Int) : List UInt8 := if -9 ≤ n then (if n ≤ 9 then (if n < 0 then [45, UInt8.ofNat (48 + n.natAbs)] else [UInt8.ofNat (48 + n.toNat)]) else itoa n) else itoa n
theorem itz_eq (n : Int) : itz n = itoa n := by
  unfold itz
  split
  · split
    · unfold itoa
      split
      · rw [decDigits_one (by omega)]
      · rw [decDigits_one (by omega)]
    · rfl
  · rfl
theorem trim_calls (s cutset : ByteArray) (hs : s.size < 4294967281) (hcs : cutset.size < 4294967281) (ha : cutset.data.toList.all (fun b => decide (b.toNat < 128)) = true) (w : World) :
    Calls Tryd.prog 104 #[.string s, .string cutset] w fun e w' => e = .returned (.string ⟨(trimS s.data.toList cutset.data.toList).toArray⟩) ∧ Below w.heap.size w w' :=
  Any.strings_Trim_laid lays160 (by kernel_rfl) s cutset w (by omega) hcs (ascii_of_all ha)
/-- The builder in block g, made at world size g, that holds bytes. -/
def IsB (g : Nat) (bs : List UInt8) (w : World) : Prop := IsBuilderF 86 5 g g (Go.Lib.byteCells bs) w
theorem IsB.lt {g : Nat} {bs : List UInt8} {w : World} (h : IsB g bs w) : g < w.heap.size := by
  rcases h with h | h <;> exact h.lt
theorem IsB.grown {g : Nat} {bs : List UInt8} {w w' : World} {row : Option Nat} (h : IsB g bs w) (hg : w.grownBy w' row) (h1 : some g ≠ row) (h2 : ∀ b, row = some b → ∃ cs t fz, t ≠ 5 ∧ w.heap[b]? = some (.cells cs t fz)) : IsB g bs w' := by
  have hlt := h.lt
  have one : ∀ p, BuilderAtF 86 5 g g p (Go.Lib.byteCells bs) w → BuilderAtF 86 5 g g p (Go.Lib.byteCells bs) w' := by
    rintro p ⟨h0, v, hb, ho, hn⟩
    refine ⟨h0, v, (hg.block g hlt h1).trans hb, ho.kept hg ?_, hn⟩
    cases row with
    | none =>
      cases hv : v.ownBlock with
      | none => exact .inl rfl
      | some k => exact .inr (by simp)
    | some b =>
      obtain ⟨cs, t, fz, ht, hbb⟩ := h2 b rfl
      exact .inr (ownBlock_neF ho hbb ht)
  exact h.elim (fun x => .inl (one _ x)) (fun x => .inr (one _ x))
theorem IsB.below {g : Nat} {bs : List UInt8} {w w' : World} (h : IsB g bs w) (hb : Below w.heap.size w w') : IsB g bs w' := h.grown (grown_of_below hb none) (by simp) (fun _ e => by cases e)
theorem IsB.put {g : Nat} {bs : List UInt8} {w : World} (h : IsB g bs w) {b j : Nat} {cs : Array Value} {t : TypeId} {fz : Nat × Nat} (hb : w.heap[b]? = some (.cells cs t fz)) (ht : t ≠ 5) (hn : b ≠ g) (u : Value) : IsB g bs (w.setCell ⟨b, j, none⟩ u) :=
  h.grown (row := some b) ⟨rfl, rfl, rfl, by simp [World.setCell], fun k _ hk => Below.heap_setCell _ _ _ _ (fun e => hk (by simp [e]))⟩ (by simp; omega) (fun b' e => by cases e; exact ⟨cs, t, fz, ht, hb⟩)
theorem IsB.made {g : Nat} {w : World} (h : w.heap[g]? = some (.cells #[.pointer none, .slice none 0 0] 86 (0, 0))) : IsB g [] w :=
  .inl ⟨Nat.le_refl _, _, h, World.ownsRowF_nil w g 5 1, by simp [Value.ownBlock]⟩
/-- What a call does that writes into the builder in block g: what was there below it stands, and what else stands is no row of bytes. -/
def Bk (g : Nat) (w w' : World) : Prop := Below g w w' ∧ OthersKept 5 (some g) w w'
theorem Bk.refl (g : Nat) (w : World) : Bk g w w := ⟨Below.refl g w, OthersKept.refl _ _ _⟩
theorem Bk.trans {g : Nat} {a b c : World} (h : Bk g a b) (k : Bk g b c) : Bk g a c := ⟨h.1.trans k.1, h.2.trans k.2⟩
theorem Bk.of_below {g : Nat} {w w' : World} (hg : g ≤ w.heap.size) (h : Below w.heap.size w w') : Bk g w w' :=
  ⟨h.mono hg, fun k _ hk _ _ => (h.block k (Array.getElem?_eq_some_iff.1 hk).1).trans hk⟩
/-- A block that is no builder and no row of bytes stands. -/
theorem Bk.blk {g b : Nat} {w w' : World} {cs : Array Value} {t : TypeId} {fz : Nat × Nat} (h : Bk g w w') (hb : w.heap[b]? = some (.cells cs t fz)) (ht : t ≠ 5) (hn : b ≠ g) : w'.heap[b]? = some (.cells cs t fz) :=
  h.2 b _ hb (by simpa using hn) (fun c f e => by injection e with _ e2 _; exact ht e2)
theorem writeByte_calls (g : Nat) (bs : List UInt8) (c : Int) (h0 : 0 ≤ c) (h1 : c < 256) (hl : bs.length < 140737488355328) (w : World) (h : IsB g bs w) :
    Calls Tryd.prog 77 #[.pointer (some ⟨g, 0, none⟩), .int .u8 c] w fun e w' => e = .returned .nilIface ∧ IsB g (bs ++ [UInt8.ofNat c.toNat]) w' ∧ Bk g w w' := by
  refine (Any.Builder_WriteByte_k lays167 extraB g g (Go.Lib.byteCells bs) c w h (by simp [Go.Lib.byteCells]; omega) (Nat.le_of_lt h.lt)).mono ?_
  rintro e w' ⟨rfl, hb, hw, hk⟩
  refine ⟨rfl, .inr ?_, hw, hk⟩
  have e1 : Go.Lib.byteCells (bs ++ [UInt8.ofNat c.toNat]) = Go.Lib.byteCells bs ++ [.int .u8 c] := by
    have : ((UInt8.ofNat c.toNat).toNat : Int) = c := by
      rw [UInt8.toNat_ofNat']; omega
    simp [Go.Lib.byteCells]; omega
  rw [e1]; exact hb
theorem writeString_calls (g : Nat) (bs : List UInt8) (s : ByteArray) (hl : bs.length + s.size ≤ 140737488355328) (w : World) (h : IsB g bs w) :
    Calls Tryd.prog 78 #[.pointer (some ⟨g, 0, none⟩), .string s] w fun e w' => e = .returned (.tuple #[.int .i64 s.size, .nilIface]) ∧ IsB g (bs ++ s.data.toList) w' ∧ Bk g w w' := by
  refine (Any.Builder_WriteString_k lays166 extraB g g (Go.Lib.byteCells bs) s w h (by simp [Go.Lib.byteCells]; omega) (Nat.le_of_lt h.lt)).mono ?_
  rintro e w' ⟨rfl, hb, hw, hk⟩
  refine ⟨rfl, .inr ?_, hw, hk⟩
  have e1 : Go.Lib.byteCells (bs ++ s.data.toList) = Go.Lib.byteCells bs ++ Go.Lib.strCells s := by
    simp [Go.Lib.byteCells, Go.Lib.strCells]
  rw [e1]; exact hb
theorem builderString_calls (g : Nat) (bs : List UInt8) (w : World) (h : IsB g bs w) :
    Calls Tryd.prog 57 #[.pointer (some ⟨g, 0, none⟩)] w fun e w' => e = .returned (.string ⟨bs.toArray⟩) ∧ Below g w w' := by
  refine (Any.Builder_String_any_k lays169 extraB g g bs w h (Nat.le_of_lt h.lt)).mono ?_
  rintro e w' ⟨rfl, _, hw, _⟩
  exact ⟨rfl, hw⟩
theorem blk_lt_of {w : World} {g g2 : Nat} {o : Obj} (hg : g2 = w.heap.size) (h : w.heap[g]? = some o) : g < g2 := by rw [hg]; exact blk_lt h
theorem blk_under {w w' : World} {g B : Nat} {o : Obj} (hlt : g < B) (h : w.heap[g]? = some o) (hb : Below B w w') : w'.heap[g]? = some o := (hb.block g hlt).trans h
theorem bs_at {w W W2 : World} {B : Nat} (hG : w.heap.size ≤ B) (h : Below w.heap.size w W) (hb : Below B W W2) : Below w.heap.size w W2 := below_weaken h hG hb
end Go.Proofs.YtacdchogjpeffaaDoor
