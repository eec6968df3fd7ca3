/- strings.Split, strings.Trim, strings.Builder at this program: the library's laid texts, number for number. No conditions. -/
import Derived.Test.YtgcjhpcegmblgaaDoorProg
import Derived.Test.YtgcjhpcegmblgaaDoorYShort
import Derived.Shelf.Strings.Split
import Derived.Shelf.Strings.SlTrimAscii
import Derived.Shelf.Strings.Builder2
import Derived.KernelRfl
import Derived.HandedShaped
import Derived.Shelf.Vars
import Derived.LaidMore
import Derived.Handed
import Derived.WalkKit
namespace Go.Proofs.YtgcjhpcegmblgaaDoor
open Go.Shelf Go.RowKit Go.Lib Go.Proofs.YtgcjhpcegmblgaaDoorW.PrintWords
set_option maxRecDepth 1000000
def renSplit : Go.Shelf.Ren := ⟨fun n => match n with | 146 => 20 | 221 => 28 | 268 => 39 | 138 => 40 | 143 => 41 | 195 => 46 | 197 => 43 | 218 => 47 | 219 => 48 | 260 => 49 | 217 => 52 | 225 => 53 | 224 => 54 | 267 => 55 | 266 => 58 | 314 => 59 | n => n, fun n => match n with | 9 => 9 | 31 => 46 | 3 => 3 | 4 => 4 | 0 => 0 | 105 => 68 | 21 => 21 | 5 => 5 | 46 => 75 | 119 => 76 | 139 => 79 | 138 => 78 | 146 => 82 | 51 => 81 | n => n, fun n => match n with | 1 => 0 | 3 => 1 | 4 => 2 | n => n⟩
def renTrim : Go.Shelf.Ren := ⟨fun n => match n with | 160 => 21 | 232 => 30 | 231 => 29 | 227 => 31 | 234 => 33 | 233 => 32 | 236 => 35 | 235 => 34 | 228 => 42 | 271 => 45 | 151 => 44 | 197 => 43 | 120 => 51 | 152 => 50 | 260 => 49 | 137 => 56 | 119 => 57 | 224 => 54 | 225 => 53 | 217 => 52 | 266 => 58 | n => n, fun n => match n with | 9 => 9 | 4 => 4 | 3 => 3 | 5 => 5 | 117 => 57 | 116 => 56 | 0 => 0 | 124 => 60 | 21 => 21 | 105 => 68 | 46 => 75 | 119 => 76 | 139 => 79 | 138 => 78 | n => n, fun n => match n with | 3 => 1 | 4 => 2 | n => n⟩
def renB : Go.Shelf.Ren := ⟨fun n => match n with | 167 => 14 | 240 => 25 | 276 => 37 | 169 => 16 | n => n, fun n => match n with | 0 => 0 | 3 => 3 | 4 => 4 | 5 => 5 | 9 => 9 | 20 => 20 | 37 => 22 | 70 => 35 | 72 => 37 | 75 => 39 | 80 => 42 | 127 => 51 | 164 => 62 | n => n, fun n => n⟩
set_option maxHeartbeats 4000000 in
theorem lays146 : Lays.n146 Tryd.prog renSplit := by
  constructor
  all_goals first | kernel_rfl | (intro w; kernel_rfl) | (intro w; rfl)
set_option maxHeartbeats 4000000 in
theorem lays160 : Lays.n160 Tryd.prog renTrim := by
  constructor
  all_goals first | kernel_rfl | (intro w; kernel_rfl) | (intro w; rfl)
set_option maxHeartbeats 4000000 in
theorem lays167 : Lays.n167 Tryd.prog renB := by
  constructor
  all_goals first | kernel_rfl | (intro w; kernel_rfl) | (intro w; rfl)
set_option maxHeartbeats 4000000 in
theorem lays169 : Lays.n169 Tryd.prog renB := by
  constructor
  all_goals first | kernel_rfl | (intro w; kernel_rfl) | (intro w; rfl)
set_option maxHeartbeats 4000000 in
theorem extraB : Builder.Extra Tryd.prog renB := by
  refine { sizeBuilder := ?_, liesBuilder := ?_, t5 := ?_, a5 := ?_, z5 := ?_, v5 := ?_, infoByte := ?_, cellsByte := ?_, sizeByte := ?_, neB5 := ?_ }
  all_goals first | kernel_rfl | (intro w; kernel_rfl) | (intro w; rfl) | decide
/-- bytealg.MaxLen holds some whole number. -/
def TIs (w : World) : Prop := ∃ m : Int, w.cell? ⟨0, 0, none⟩ = some (.int .i64 m)
theorem TIs.on {w W : World} (h : Aside0 (TIs w)) (hB : Below w.heap.size w W := by exact bl) : TIs W := by
  obtain ⟨m, hm⟩ := h.out
  exact ⟨m, (hB.cell (World.block_lt_of_cell? w _ hm)).trans hm⟩
theorem split_calls (s sep : ByteArray) (hs : s.size < 4294967281) (h1 : 1 ≤ sep.size) (w : World) (ht : TIs w) :
    Calls Tryd.prog 20 #[.string s, .string sep] w fun e w' => ∃ v0_ : Value, e = .returned v0_ ∧ Kd.R Kd.string 9 w' w.heap.size (fun _ => True) v0_ (splitB sep 0 (countB s sep) s) ∧ Below w.heap.size w w' := by
  obtain ⟨m, hm⟩ := ht
  have hlen := Lib.splitB_all sep h1 0 _ s rfl
  have hle := Lib.countB_le sep h1 s.size s (Nat.le_refl _)
  refine (Any.strings_Split lays146 (by kernel_rfl) s sep m w hs hm h1).mono ?_
  rintro e w' ⟨rfl, rfl⟩
  refine ⟨_, rfl, ?_, below_alloc (Below.refl _ _) _⟩
  rw [← hlen]
  refine Kd.R_of_own ⟨by simp [encs], .inr ⟨_, _, _, rfl, Nat.le_refl _, heap_alloc_new w _, Nat.le_refl _, by unfold maxLen; omega, by simp, by simp only [encs, Nat.mul_one]; exact List.take_of_length_le (by simp)⟩⟩ (fun k _ => trivial)
theorem trim_calls (s cutset : ByteArray) (hs : s.size < 4294967281) (hcs : cutset.size < 4294967281) (ha : cutset.data.toList.all (fun b => decide (b.toNat < 128)) = true) (w : World) :
    Calls Tryd.prog 21 #[.string s, .string cutset] w fun e w' => e = .returned (.string ⟨(trimS s.data.toList cutset.data.toList).toArray⟩) ∧ Below w.heap.size w w' :=
  Any.strings_Trim_laid lays160 (by kernel_rfl) s cutset w (by omega) hcs (ascii_of_all ha)
/-- The builder in block g, made at world size g, that holds bytes. -/
def IsB (g : Nat) (bs : List UInt8) (w : World) : Prop := IsBuilder 37 5 g g (Go.Lib.byteCells bs) w
theorem IsB.lt {g : Nat} {bs : List UInt8} {w : World} (h : IsB g bs w) : g < w.heap.size := by
  rcases h with h | h <;> exact h.lt
theorem IsB.below {g : Nat} {bs : List UInt8} {w w' : World} (h : IsB g bs w) (hb : Below w.heap.size w w') : IsB g bs w' := by
  have hlt := h.lt
  rcases h with ⟨h0, v, h1, h2, h3⟩ | ⟨h0, v, h1, h2, h3⟩
  · exact .inl ⟨h0, v, blk_below h1 hb, pw_own_below h2 hb, h3⟩
  · exact .inr ⟨h0, v, blk_below h1 hb, pw_own_below h2 hb, h3⟩
theorem IsB.made {g : Nat} {w : World} (h : w.heap[g]? = some (.cells #[.pointer none, .slice none 0 0] 37 (0, 0))) : IsB g [] w :=
  .inl ⟨Nat.le_refl _, _, h, World.ownsRow_nil w g 5 1, by simp [Value.ownBlock]⟩
theorem writeByte_calls (g : Nat) (bs : List UInt8) (c : Int) (h0 : 0 ≤ c) (h1 : c < 256) (hl : bs.length < 140737488355328) (w : World) (h : IsB g bs w) :
    Calls Tryd.prog 14 #[.pointer (some ⟨g, 0, none⟩), .int .u8 c] w fun e w' => e = .returned .nilIface ∧ IsB g (bs ++ [UInt8.ofNat c.toNat]) w' ∧ Below g w w' := by
  refine (Any.Builder_WriteByte lays167 extraB g g (Go.Lib.byteCells bs) c w h (by simp [Go.Lib.byteCells]; omega) (Nat.le_of_lt h.lt)).mono ?_
  rintro e w' ⟨rfl, hb, hw⟩
  refine ⟨rfl, .inr ?_, hw⟩
  have e1 : Go.Lib.byteCells (bs ++ [UInt8.ofNat c.toNat]) = Go.Lib.byteCells bs ++ [.int .u8 c] := by
    have : ((UInt8.ofNat c.toNat).toNat : Int) = c := by
      rw [UInt8.toNat_ofNat']; omega
    simp [Go.Lib.byteCells]; omega
  rw [e1]; exact hb
theorem builderString_calls (g : Nat) (bs : List UInt8) (w : World) (h : IsB g bs w) :
    Calls Tryd.prog 16 #[.pointer (some ⟨g, 0, none⟩)] w fun e w' => e = .returned (.string ⟨bs.toArray⟩) ∧ Below g w w' :=
  Any.Builder_String_any lays169 extraB g g bs w h (Nat.le_of_lt h.lt)
theorem bt_two {t : Int} (h0 : 0 ≤ t) (h1 : t < 2) : 0 ≤ bt (⟨#[46, 35]⟩ : ByteArray) t ∧ bt (⟨#[46, 35]⟩ : ByteArray) t < 256 := by
  rcases (show t = 0 ∨ t = 1 by omega) with rfl | rfl <;> decide
theorem blk_lt_of {w : World} {g g2 : Nat} {o : Obj} (hg : g2 = w.heap.size) (h : w.heap[g]? = some o) : g < g2 := by rw [hg]; exact blk_lt h
theorem blk_under {w w' : World} {g B : Nat} {o : Obj} (hlt : g < B) (h : w.heap[g]? = some o) (hb : Below B w w') : w'.heap[g]? = some o := (hb.block g hlt).trans h
theorem bs_at {w W W2 : World} {B : Nat} (hG : w.heap.size ≤ B) (h : Below w.heap.size w W) (hb : Below B W W2) : Below w.heap.size w W2 := below_weaken h hG hb
/-- A row over laid tables and a world in shape: the contract is handed both. -/
theorem changeAndShaped {H : Type} {enc : TypeId × Value → H} {a : Assume} {C : Checked} {os : Os} {f : FuncId} {fn : Func} {s : ChangeSpec} {conds : List PathCond} {apart fresh handsOn again : Bool} {X : World → Array Value → Prop}
    (hX : ∀ (w w' : World) (args : Array Value), w.heap = w'.heap → X w args → X w' args)
    (own : ownKnob C.prog.godebug = none) (started : os.Started) (noInit : C.prog.inits.idxOf? f = none) (hfn : C.prog.funcs[f]? = some fn)
    (witness : ∃ (w : World) (tape : Tape) (i : Input), w.os = os ∧ (w.forCall tape i).Shaped C.prog ∧ i.vars = [] ∧ Input.okWide C.prog (w.forCall tape i) .any w.heap.size f i ∧
      ((s.pre enc C.prog fn conds apart (w.forCall tape i).memory i.args ∧ X (w.forCall tape i).memory i.args) ∧ sizedMet enc C.prog fn (OpenSpec.ofChange s) apart (w.forCall tape i).memory i.args) ∧ a.holds C.prog (lone (Frame.enter C.prog f i.args .normal) [] (w.forCall tape i)))
    (contract : ∀ (W : World) (base : Nat) (args : Array Value) (ds gs : List (DataW H)) (before : List MemPlace),
      (∀ (j : Nat) t v, fn.params[j]? = some t → args[j]? = some v → Value.okWide C.prog W .any base t v) →
      DataW.Whole enc C.prog fn.params.toList s.vars apart W args.toList ds gs before →
      conds.all (PathCond.test C.prog ⟨fn.params.toList, ds, s.plain.varTypes C.prog, gs⟩) = true →
      (DataW.weightsEach C.prog (fn.params.toList ++ s.plain.varTypes C.prog) (ds ++ gs)).all (· ≤ reachBytes) = true → X W args → W.ShapedOpen C.prog →
      a.holds C.prog (lone (Frame.enter C.prog f args .normal) [] W) →
      Calls C.prog f args W fun e W' => ∃ v, e = .returned v ∧ s.post enc C.prog fn apart fresh handsOn again W args v W') :
    ReturnsInHanded a C os f .any (fun w args => (s.pre enc C.prog fn conds apart w args ∧ X w args) ∧ sizedMet enc C.prog fn (OpenSpec.ofChange s) apart w args) (s.post enc C.prog fn apart fresh handsOn again) := by
  refine returnsInHanded_of_calls own started noInit witness ?_
  intro w tape i _ hsh _ hok hpre hholds
  obtain ⟨_, _, _, fn', hfn', _, _, _, _, hval⟩ := hok
  have e : fn' = fn := Option.some.inj (hfn'.symm.trans hfn)
  subst e
  obtain ⟨⟨⟨ds, gs, before, hw, hc⟩, hx⟩, hz⟩ := hpre
  have hw' := DataW.Whole.of_heap (w' := w.forCall tape i) (by rfl) hw
  refine (contract (w.forCall tape i) w.heap.size i.args ds gs before hval hw' hc (hz.weights hw) (hX _ _ _ (by rfl) hx) hsh hholds).mono fun e W' ⟨v, he, hp⟩ => ?_
  subst he
  exact ChangeSpec.post_blind hp
theorem TIs.of {W : World} (h : W.ShapedOpen Tryd.prog) : TIs W :=
  cell_of_shapedOpen_int (P := Tryd.prog) (g := 0) (t := 3) (zero := #[.int .i64 0]) h (of_decide_eq_true (by kernel_rfl)) (by kernel_rfl) rfl (by kernel_rfl) (by kernel_rfl) Tryd.underlying3
end Go.Proofs.YtgcjhpcegmblgaaDoor
