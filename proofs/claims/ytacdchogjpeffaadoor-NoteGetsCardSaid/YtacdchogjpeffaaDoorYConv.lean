/- Words for printed walks: a row that a conversion of a string has made. Its block bears a mark behind its cells; it is read, written and appended to like a row of one's own. No conditions. -/
import Derived.Test.YtacdchogjpeffaaDoorYUp
import Derived.Test.YtacdchogjpeffaaDoorWLast
import Derived.Test.YtacdchogjpeffaaDoorWMore
import Derived.Lib.ConvBytes
import Derived.Laws.AppendOwn
import Derived.Laws.CopyRow
namespace Go.Proofs.YtacdchogjpeffaaDoorW.PrintWords
open Go.RowKit Go.Proofs.YtacdchogjpeffaaDoorW.PrintLast
set_option linter.unusedVariables false
theorem run_storeU (P : Program) (g : Nat) (t : TypeId) (fz : Nat × Nat) : ∀ (vs : List Value) (o i : Nat) (cur : Array Value) (w : World), w.heap[g]? = some (.cells cur t fz) → (fz.2 = 0 ∨ o + i + vs.length ≤ fz.1) → o + i + vs.length ≤ cur.size → (∀ v ∈ vs, v.oneCell' = true) →
    (storeCells ⟨g, o, none⟩ vs i).run P w = .ok () (w.setRow g (cur.toList.take (o + i) ++ vs ++ cur.toList.drop (o + i + vs.length)).toArray)
  | [], o, i, cur, w, hg, _, _, _ => by
    simp only [storeCells, List.append_nil, List.length_nil, Nat.add_zero, List.take_append_drop, Array.toArray_toList]
    rw [setRow_self w g cur t fz hg]
    rfl
  | v :: rest, o, i, cur, w, hg, hf, hl, h1 => by
    rw [List.length_cons] at hl hf
    have hc : w.cell? ⟨g, o + i, none⟩ = some (cur[o + i]'(by omega)) := by
      have : o + i < cur.size := by omega
      simp [World.cell?, hg, this]
    have hn : w.frozen? ⟨g, o + i, none⟩ = false := by
      obtain ⟨a, b⟩ := fz
      simp only at hf
      simp only [World.frozen?, hg, Bool.and_eq_false_iff, decide_eq_false_iff_not]
      omega
    have hs : (store ((⟨g, o, none⟩ : Addr).add i) v).run P w = .ok () (w.setRow g (cur.setIfInBounds (o + i) v)) := by
      rw [show (⟨g, o, none⟩ : Addr).add i = ⟨g, o + i, none⟩ by unfold Addr.add; split <;> simp_all, run_store P w _ v _ (h1 v (List.mem_cons_self ..)), hc]
      simp [hn, setCell_eq_setRow w g (o + i) cur t fz v hg]
    have ih := run_storeU P g t fz rest o (i + 1) (cur.setIfInBounds (o + i) v) (w.setRow g (cur.setIfInBounds (o + i) v)) (setRow_heap w g cur _ t _ hg) (by omega) (by rw [Array.size_setIfInBounds]; omega) (fun x hx => h1 x (List.mem_cons_of_mem _ hx))
    simp only [storeCells, Sem.run_bind, hs, Result.andThen_ok, ih, setRow_setRow]
    congr 3
    have e := list_seg_step cur.toList (o + i) v rest (by rw [Array.length_toList]; omega)
    simpa [Array.toList_setIfInBounds, Nat.add_assoc] using e
namespace Kd
/-- A row of bytes that a conversion has made: what lies behind its cells is marked. -/
def U (d : Kd Int) (e : Nat) (w : World) (base : Nat) (ok : Nat → Prop) (v : Value) (xs : List Int) : Prop :=
  (∀ k, v.ownBlock = some k → ok k) ∧ ((v = .slice none 0 0 ∧ xs = []) ∨ ∃ (g cap : Nat) (cur : Array Value) (fz : Nat × Nat), v = .slice (some ⟨g, 0, none⟩) xs.length cap ∧ base ≤ g ∧ w.heap[g]? = some (.cells cur e fz) ∧ (fz.2 = 0 ∨ cap ≤ fz.1) ∧ xs.length ≤ cap ∧ cap ≤ maxLen ∧ cur.size = cap ∧ cur.toList.take xs.length = nums .u8 xs)
section
variable {d : Kd Int} {e : Nat} {w w1 W : World} {base : Nat} {ok ok' : Nat → Prop} {v : Value} {xs : List Int}
theorem U_mono (h : U d e w base ok v xs) (hok : ∀ k, ok k → ok' k) : U d e w base ok' v xs := ⟨fun k hk => hok k (h.1 k hk), h.2⟩
theorem U_lt (h : U d e w base ok v xs) : ∀ k, v.ownBlock = some k → k < w.heap.size := by
  intro k hk
  rcases h.2 with ⟨rfl, _⟩ | ⟨g, cap, cur, fz, rfl, hb, hg, _⟩
  · cases hk
  · cases hk
    exact blk_lt hg
theorem U_base (h : U d e w base ok v xs) : ∀ k, v.ownBlock = some k → base ≤ k := by
  intro k hk
  rcases h.2 with ⟨rfl, _⟩ | ⟨g, cap, cur, fz, rfl, hb, hg, _⟩
  · cases hk
  · cases hk
    exact hb
theorem U_lower {base' : Nat} (h : U d e w base ok v xs) (hb : base' ≤ base) : U d e w base' ok v xs := by
  refine ⟨h.1, ?_⟩
  rcases h.2 with z | ⟨g, cap, cur, fz, e1, hb', r⟩
  · exact .inl z
  · exact .inr ⟨g, cap, cur, fz, e1, Nat.le_trans hb hb', r⟩
theorem U_step (h : U d e w base ok v xs) (hm : ∀ k, ok k → k < w.heap.size → w1.heap[k]? = w.heap[k]?) : U d e w1 base ok v xs := by
  refine ⟨h.1, ?_⟩
  rcases h.2 with z | ⟨g, cap, cur, fz, e1, hb', hg, r⟩
  · exact .inl z
  · exact .inr ⟨g, cap, cur, fz, e1, hb', (hm g (h.1 g (by rw [e1]; rfl)) (blk_lt hg)).trans hg, r⟩
theorem U_below (h : U d e w base ok v xs) (hb : Below w.heap.size w w1) : U d e w1 base ok v xs := U_step h (fun k _ hk => hb.block k hk)
theorem U_alloc (h : U d e w base ok v xs) (o : Obj) : U d e (w.alloc o) base ok v xs := U_below h (below_alloc (Below.refl _ _) o)
theorem U_drew (h : U d e w base ok v xs) : U d e w.drew base ok v xs := U_below h (below_drew (Below.refl _ _))
theorem U_drewN (h : U d e w base ok v xs) (m : Nat) : U d e (w.drewN m) base ok v xs := U_below h (pw_below_drewN (Below.refl _ _) m)
theorem U_grown (h : U d e w base ok v xs) {row : Option Nat} (hg : w.grownBy w1 row) (hok : ∀ k, ok k → some k ≠ row) : U d e w1 base ok v xs := U_step h (fun k ho hk => hg.block k hk (hok k ho))
theorem U_far (h : U d e w base ok v xs) {p : Addr} (hok : ∀ k, ok k → k ≠ p.block) (u : Value) : U d e (w.setCell p u) base ok v xs := U_step h (fun k ho _ => Below.heap_setCell w p u k (hok k ho))
theorem U_bound (h : U d e w base ok v xs) : U d e w base (fun k => ok k ∧ k < w.heap.size) v xs := ⟨fun k hk => ⟨h.1 k hk, U_lt h k hk⟩, h.2⟩
theorem U_elder' {u : Value} (hu : U d e W base ok u xs) (hbase : ∀ k, v.ownBlock = some k → W.heap.size ≤ k) (hb : Below W.heap.size W w1) : U d e w1 base (fun k => ok k ∧ some k ≠ v.ownBlock) u xs :=
  U_mono (U_below (U_bound hu) hb) (fun k hk => ⟨hk.1, fun he => by have := hbase k he.symm; omega⟩)
theorem U_new' {u : Value} (h : U d e w1 W.heap.size ok v xs) (hlt : ∀ k, u.ownBlock = some k → k < W.heap.size) : U d e w1 W.heap.size (fun k => ok k ∧ some k ≠ u.ownBlock) v xs :=
  ⟨fun k hk => ⟨h.1 k hk, fun he => by have := hlt k he.symm; have := U_base h k hk; omega⟩, h.2⟩
theorem U_typed (h : U d e w base ok v xs) : ∀ k, v.ownBlock = some k → ∃ cells fz, w.heap[k]? = some (.cells cells e fz) := by
  intro k hk
  rcases h.2 with ⟨rfl, _⟩ | ⟨g, cap, cur, fz, rfl, hb, hg, _⟩
  · cases hk
  · cases hk
    exact ⟨cur, fz, hg⟩
theorem U_ne (h : U d e w base ok v xs) {g t : Nat} {cells : Array Value} (hb : w.heap[g]? = some (.cells cells t (0, 0))) (ht : e ≠ t) : some g ≠ v.ownBlock := by
  intro he
  obtain ⟨cs, fz, hc⟩ := U_typed h g he.symm
  rw [hb] at hc
  injection hc with hc
  injection hc with _ hc
  exact ht hc.symm
theorem U_after {u v1 : Value} (h : U d e W base (fun k => ok k ∧ some k ≠ v.ownBlock) u xs) (hg : W.grownBy w1 v.ownBlock) (hat : v1.ownBlock = v.ownBlock ∨ ∃ b, v1.ownBlock = some b ∧ W.heap.size ≤ b) : U d e w1 base (fun k => ok k ∧ some k ≠ v1.ownBlock) u xs := by
  refine U_mono (U_grown (U_bound h) hg (fun k hk => hk.1.2)) (fun k hk => ⟨hk.1.1, fun he => ?_⟩)
  rcases hat with hat | ⟨b, hb, hle⟩
  · rw [hat] at he
    exact hk.1.2 he
  · rw [hb] at he
    cases he
    have := hk.2
    omega
theorem U_slice (h : U d e w base ok v xs) : ∃ A c, v = .slice A xs.length c := by
  rcases h.2 with ⟨rfl, rfl⟩ | ⟨g, cap, cur, fz, rfl, _⟩
  · exact ⟨_, _, rfl⟩
  · exact ⟨_, _, rfl⟩
theorem U_cells {g n cap : Nat} (h : U d e w base ok (.slice (some ⟨g, 0, none⟩) n cap) xs) (j : Nat) (hj : j < xs.length) : w.cell? ⟨g, j, none⟩ = some (.int .u8 (xs.getD j 0)) := by
  rcases h.2 with ⟨z, _⟩ | ⟨g', cap', cur, fz, z, hb, hg, hf, h1, h2, h3, h4⟩
  · cases z
  · cases z
    rw [cell_of_row w _ j cur e fz hg]
    have := congrArg (fun l : List Value => l[j]?) h4
    simp only [List.getElem?_take, hj, if_true, nums, List.getElem?_map, List.getElem?_eq_getElem hj, Option.map_some, Array.getElem?_toList] at this
    rw [this, List.getD_eq_getElem?_getD, List.getElem?_eq_getElem hj]
    rfl
theorem U_reads' {A : Option Addr} {n c : Nat} (h : U (Kd.int .u8) e w base ok (.slice A n c) xs) : n = xs.length ∧ n ≤ c ∧ (Kd.int .u8).C w A xs.length xs := by
  rcases h.2 with ⟨z, rfl⟩ | ⟨g, cap, cur, fz, z, hb, hg, hf, h1, h2, h3, h4⟩
  · cases z
    exact ⟨rfl, Nat.le_refl _, Kd.C_nil _ _⟩
  · cases z
    refine ⟨rfl, h1, Kd.C_of_reads (h1 := fun _ => rfl) (d := (0 : Int)) ⟨rfl, by simp only [maxLen] at h2; omega, fun _ => ⟨_, rfl, fun j hj => ?_⟩⟩⟩
    rw [add_plain]
    exact U_cells h j hj
theorem U_form (h : U d e w base ok v xs) (hp : 0 < xs.length) : ∃ g cap, v = .slice (some ⟨g, 0, none⟩) xs.length cap ∧ base ≤ g ∧ g < w.heap.size ∧ ∃ cells : Array Value × (Nat × Nat), w.heap[g]? = some (.cells cells.1 e cells.2) := by
  rcases h.2 with ⟨_, rfl⟩ | ⟨g, cap, cur, fz, rfl, hb, hg, _⟩
  · exact absurd hp (by decide)
  · exact ⟨g, cap, rfl, hb, blk_lt hg, (cur, fz), hg⟩
theorem U_celln {g n cap : Nat} (z : Int) (h : U (Kd.int .u8) e W base ok (.slice (some ⟨g, 0, none⟩) n cap) xs) (i : Int) (h0 : 0 ≤ i) (hi : i < n) : W.cell? ⟨g, i.toNat, none⟩ = some (.int .u8 (rd xs i)) ∧ W.frozen? ⟨g, i.toNat, none⟩ = false := by
  obtain ⟨rfl, _⟩ := U_reads' h
  refine ⟨U_cells h _ (by omega), ?_⟩
  rcases h.2 with ⟨z, _⟩ | ⟨g', cap', cur, fz, z, hb, hg, hf, h1, h2, h3, h4⟩
  · cases z
  · cases z
    obtain ⟨a, b⟩ := fz
    simp only at hf
    simp only [World.frozen?, hg, Bool.and_eq_false_iff, decide_eq_false_iff_not]
    omega
theorem U_putg {g n cap : Nat} (h : U (Kd.int .u8) e W base ok (.slice (some ⟨g, 0, none⟩) n cap) xs) (i x : Int) : U (Kd.int .u8) e (W.setCell ⟨g, i.toNat, none⟩ (.int .u8 x)) base ok (.slice (some ⟨g, 0, none⟩) n cap) (xs.set i.toNat x) ∧ W.grownBy (W.setCell ⟨g, i.toNat, none⟩ (.int .u8 x)) (some g) := by
  rcases h.2 with ⟨z, _⟩ | ⟨g', cap', cur, fz, z, hb, hg, hf, h1, h2, h3, h4⟩
  · cases z
  · cases z
    rw [setCell_eq_setRow W g i.toNat cur e fz _ hg]
    refine ⟨⟨h.1, .inr ⟨g, cap, cur.setIfInBounds i.toNat (.int .u8 x), fz, by rw [List.length_set], hb, setRow_heap W g cur _ e _ hg, hf, by rw [List.length_set]; exact h1, h2, by rw [Array.size_setIfInBounds]; exact h3, ?_⟩⟩, ⟨rfl, rfl, rfl, by simp, fun k _ hk => setRow_other W g k _ (fun z => hk (by rw [z]))⟩⟩
    rw [List.length_set, Array.toList_setIfInBounds, List.take_set, h4, nums, nums, List.map_set]
end
section
variable {P : Program} {ops : Array Oper} {rest : List Oper} {o : Oper} {a : Act} {Q : Exit → Act → World → Prop} {Kc : Act → World → Prop}
theorem U_conv {w0 W : World} (base e : Nat) (hgd : o.guard = none) {N : Tmp} (hd : o.dst = some N) (ta tb : TypeId) {x : Operand} {s : ByteArray} (ho : o.op = .convert ta tb x) (hx : a.eval x = .string s) (hs : s.size ≤ 140737488355328) {u : TypeDesc}
    (h1 : P.underlying ta = some u) (h2 : P.underlying tb = some (.slice e)) (h3 : P.underlying e = some (.int .u8)) {ok okp : Nat → Prop} (hok : ∀ k, okp k → ok k) (hfresh : ok W.heap.size) (HB : Below base w0 W) (hbase : base ≤ W.heap.size)
    (h : ∀ v1 w1, U (Kd.int .u8) e w1 base ok v1 (bytesOf s) → Below base w0 w1 → W.grownBy w1 none → (∃ b, v1.ownBlock = some b ∧ W.heap.size ≤ b) → wpList P ops Q rest (a.put o.dst v1) w1) : wpList P ops Q (o :: rest) a W := by
  have hr := Lib.run_convert_string_bytes (P := P) W ta tb e s h1 h2 h3
  have hrun : (execOp a.eval o).run P W = .ok (.value (.slice (some ⟨W.heap.size, 0, none⟩) s.size (grownCap W s.size 0 e))) (Lib.bytesWorld W e s) := by
    unfold execOp
    simp [ho, hx, hr]
  have hge := grownCap_ge W s.size 0 e
  have hle := grownCap_le_maxLen W s.size 0 e (by simp only [maxLen]; omega)
  have hsz : (Lib.bytesCells W e s).size = grownCap W s.size 0 e := by
    unfold Lib.bytesCells
    rw [Array.size_append, Array.size_map, Array.size_replicate]
    show s.size + (grownCap W s.size 0 e - s.size) = _
    omega
  refine Kd.event_run hgd hrun (h _ _ ⟨fun k hk => ?_, .inr ⟨_, _, _, _, by rw [bytesOf_length], hbase, Lib.bytesWorld_at_new W e s, .inr (by rw [hsz]; exact Nat.le_refl _), by rw [bytesOf_length]; exact hge, hle, hsz, ?_⟩⟩ (bytes_below HB hbase e s) ⟨rfl, rfl, rfl, by rw [Lib.bytesWorld_size]; omega, fun k hk _ => Lib.bytesWorld_at_old W e s k hk⟩ ⟨_, rfl, Nat.le_refl _⟩)
  · cases hk
    exact hfresh
  · rw [bytesOf_length]
    unfold Lib.bytesCells
    rw [Array.toList_append, List.take_append_of_le_length (by rw [Array.length_toList, Array.size_map]; exact Nat.le_refl _), List.take_of_length_le (by rw [Array.length_toList, Array.size_map]; exact Nat.le_refl _), Array.toList_map, nums, bytesOf, List.map_map]
    rfl
theorem run_append_U {W : World} (base : Nat) (t ty e : TypeId) (i : TypeInfo) (ht : P.underlying t = some (.slice e)) (hi : P.info? e = some i) (hz : i.zero = some (.int .u8 0)) (hsz : i.size = 1) (hby : i.bytes = 1) {ok : Nat → Prop} {v : Value} {xs ys : List Int} {A : Option Addr} {m c : Nat}
    (HO : U (Kd.int .u8) e W base ok v xs) (HR : (Kd.int .u8).C W A m ys) (hl : xs.length + m ≤ 140737488355328) (hbase : base ≤ W.heap.size) (hfresh : ∀ k, W.heap.size ≤ k → ok k) :
    ∃ v1 w1, (Builtin.append_ #[t, t] ty #[v, .slice A m c]).run P W = .ok v1 w1 ∧ U (Kd.int .u8) e w1 base ok v1 (xs ++ ys) ∧ W.grownBy w1 v.ownBlock ∧ (v1.ownBlock = v.ownBlock ∨ ∃ b, v1.ownBlock = some b ∧ W.heap.size ≤ b) := by
  have hm : ys.length = m := HR.1
  rcases A with _ | ad
  · have h0 : m = 0 := by
      rcases Nat.eq_zero_or_pos m with h0 | h0
      · exact h0
      · obtain ⟨ad, h, _⟩ := HR.2.2 h0
        cases h
    subst h0
    obtain rfl : ys = [] := List.eq_nil_of_length_eq_zero hm
    refine ⟨v, W, ?_, by rw [List.append_nil]; exact HO, World.grownBy.refl W _, .inl rfl⟩
    rcases HO.2 with ⟨rfl, hn⟩ | ⟨g, cap, cur, fz, rfl, hb, hg, hf, h1, h2, h3, h4⟩
    · simp [Builtin.append_, run_underlying ht, sizeOf, typeInfo, hi, Builtin.lenOf, Builtin.firstCells]
    · simp [Builtin.append_, run_underlying ht, sizeOf, typeInfo, hi, Builtin.lenOf, Builtin.firstCells, h1, storeCells]
  · have hcells : ∀ j u, (nums .u8 ys)[j]? = some u → W.cell? (ad.add j) = some u := by
      intro j u hu
      obtain ⟨hj, hu'⟩ := List.getElem?_eq_some_iff.1 hu
      rw [nums_length] at hj
      obtain ⟨ad', h', hc⟩ := (Kd.reads_of_C (enc := Value.int .u8) (d := (0 : Int)) (h1 := fun _ => rfl) HR).2.2 (by omega)
      cases h'
      rw [hc j (by omega), ← hu']
      simp [nums, List.getD_eq_getElem?_getD, hj]
    have hone : ∀ u ∈ nums .u8 ys, u.oneCell' = true := fun u hu => by
      obtain ⟨q, _, rfl⟩ := List.mem_map.1 hu
      rfl
    rcases HO.2 with ⟨rfl, rfl⟩ | ⟨g, cap, cur, fz, rfl, hb, hg, hf, h1, h2, h3, h4⟩
    · obtain ⟨v1, w1, hr, h2, h3, _, h5⟩ := run_append_own_at (P := P) W base t ty e i (.int .u8 0) 1 1 ht hi hz hsz hby rfl (by omega) (.slice none 0 0) 0 [] ⟨rfl, .inl ⟨rfl, rfl⟩⟩ ad m c (nums .u8 ys) (by rw [nums_length, hm]; omega) hcells hone (by simp only [maxLen]; omega) (by simpa using hl) hbase
      refine ⟨v1, w1, hr, ⟨fun k hk => ?_, ?_⟩, h3, ?_⟩
      · rcases h5 with h5 | h5
        · rw [h5] at hk
          cases hk
        · rw [h5] at hk
          cases hk
          exact hfresh _ (Nat.le_refl _)
      · rw [List.nil_append] at h2 ⊢
        rcases h2.2 with ⟨z1, z2⟩ | ⟨g, cap, cur, z, a1, a2, a3, a4, a5, a6⟩
        · refine .inl ⟨z1, List.eq_nil_of_length_eq_zero (by omega)⟩
        · refine .inr ⟨g, cap, cur, (0, 0), ?_, a1, a2, .inl rfl, by omega, a4, by omega, ?_⟩
          · rw [z]
            congr 1
            omega
          · rw [show ys.length = (0 + m) * 1 by omega]
            exact a6
      · rcases h5 with h5 | h5
        · exact .inl h5
        · exact .inr ⟨_, h5, Nat.le_refl _⟩
    · by_cases hroom : xs.length + m ≤ cap
      · have hf1 := run_firstCells_some (P := P) W 1 m ad m c (nums .u8 ys) (by rw [nums_length]; omega) hcells
        have hst := run_storeU P g e fz (nums .u8 ys) xs.length 0 cur W hg (by rw [nums_length]; omega) (by rw [nums_length]; omega) hone
        rw [Nat.add_zero] at hst
        have hr : (Builtin.append_ #[t, t] ty #[.slice (some ⟨g, 0, none⟩) xs.length cap, .slice (some ad) m c]).run P W = .ok (.slice (some ⟨g, 0, none⟩) (xs.length + m) cap) (W.setRow g (cur.toList.take xs.length ++ nums .u8 ys ++ cur.toList.drop (xs.length + (nums .u8 ys).length)).toArray) := by
          simp [Builtin.append_, run_underlying ht, sizeOf, typeInfo, hi, Builtin.lenOf, hroom, hsz, hf1, Addr.add_lit, hst]
        refine ⟨_, _, hr, ⟨fun k hk => HO.1 k hk, .inr ⟨g, cap, _, fz, by rw [List.length_append, hm], hb, setRow_heap W g cur _ e _ hg, hf, by rw [List.length_append]; omega, h2, ?_, ?_⟩⟩, ⟨rfl, rfl, rfl, by simp, fun k _ hk => setRow_other W g k _ (fun z => hk (by rw [z]; rfl))⟩, .inl rfl⟩
        · simp only [List.size_toArray, List.length_append, List.length_take, List.length_drop, Array.length_toList, nums_length]
          omega
        · rw [h4, ← nums_append, show (xs ++ ys).length = (nums .u8 (xs ++ ys)).length by rw [nums_length]]
          exact List.take_left
      · have holds : ∀ j u, (nums .u8 xs)[j]? = some u → W.cell? ((⟨g, 0, none⟩ : Addr).add j) = some u := by
          intro j u hu
          obtain ⟨hj, hu'⟩ := List.getElem?_eq_some_iff.1 hu
          rw [nums_length] at hj
          rw [add_plain, U_cells HO j hj, ← hu']
          simp [nums, List.getD_eq_getElem?_getD, hj]
        have hr := run_append_grow (P := P) W t ty e i (.int .u8 0) ht hi hz ⟨g, 0, none⟩ xs.length cap (nums .u8 xs) (by rw [nums_length, hsz]; omega) holds ad m c (nums .u8 ys) (by rw [nums_length, hsz]; omega) hcells (by omega) (by omega) (growslice_fits (by omega) (by rw [hby]; omega))
        have hge := grownCap_ge W (xs.length + m) cap e
        have hcm := grownCap_le_maxLen W (xs.length + m) cap e (by simp only [maxLen]; omega)
        refine ⟨_, _, hr, ⟨fun k hk => ?_, .inr ⟨W.heap.size, _, _, (0, 0), by rw [List.length_append, hm], hbase, heap_alloc_new W.drew _, .inl rfl, by rw [List.length_append]; omega, hcm, ?_, ?_⟩⟩, ⟨rfl, rfl, rfl, by simp, fun k hk _ => heap_alloc_old W.drew _ hk⟩, .inr ⟨_, rfl, Nat.le_refl _⟩⟩
        · cases hk
          exact hfresh _ (Nat.le_refl _)
        · simp only [Array.size_append, List.size_toArray, size_zeroCells, nums_length]
          show xs.length + ys.length + (grownCap W (xs.length + m) cap e - (xs.length + m)) * 1 = _
          omega
        · simp only [Array.toList_append, List.append_assoc]
          rw [← List.append_assoc, ← nums_append, show (xs ++ ys).length = (nums .u8 (xs ++ ys)).length by rw [nums_length]]
          exact List.take_left
theorem U_append_rows_step {w0 W : World} (d : Kd Int) (base : Nat) (hw : Region.wanted o (yielded ops a.tmps) = true) (s x : Operand) (t e : TypeId) (z : Value) (bytes : Nat)
    (ho : o.op = .call { callee := .builtin .append, args := #[s, x], argTypes := #[t, t] })
    (ht : P.underlying t = some (.slice e)) (hinfo : (P.info? e).map (fun i => (i.zero, i.size, i.bytes)) = some (some (.int .u8 0), 1, 1)) (_hz : z.cells.size = d.sz) (_hs0 : 0 < d.sz) (_hb0 : 0 < bytes)
    (v : Value) (xs ys : List Int) (A : Option Addr) (m c : Nat) (ok okp : Nat → Prop) (hs : a.eval s = v) (hx : a.eval x = .slice A m c)
    (HO : U (Kd.int .u8) e W base ok v xs) (HR : (Kd.int .u8).C W A m ys) (_h1 : ∀ (x y : Int), x = y → x = y) (_hokp : ∀ k, okp k → ok k ∧ some k ≠ v.ownBlock) (hfresh : ∀ k, W.heap.size ≤ k → ok k)
    (HB : Below base w0 W) (hbase : base ≤ W.heap.size) (hl : (xs.length + m) * bytes ≤ 140737488355328) (hby1 : bytes = 1)
    (h : ∀ v1 w1, U (Kd.int .u8) e w1 base ok v1 (xs ++ ys) → Below base w0 w1 → W.grownBy w1 v.ownBlock → (v1.ownBlock = v.ownBlock ∨ ∃ b, v1.ownBlock = some b ∧ W.heap.size ≤ b) → Kc (a.put o.dst v1) w1) :
    if Region.wanted o (yielded ops a.tmps) = true then Oper.wp P o a W Kc Q else Kc (a.put o.dst undef) W := by
  subst hby1
  obtain ⟨i0, hi, hzz⟩ := Option.map_eq_some_iff.1 hinfo
  simp only [Prod.mk.injEq] at hzz
  obtain ⟨hz0, hz1, hz2⟩ := hzz
  obtain ⟨v1, w1, hr, h2, h3, h4⟩ := run_append_U (P := P) base t o.type e i0 ht hi hz0 hz1 hz2 (c := c) HO HR (by omega) hbase hfresh
  rw [if_pos hw]
  unfold Oper.wp execOp
  simp only [ho, resolve, invoke, builtin, Sem.run_bind, Sem.run_pure, Result.andThen_ok, List.map_toArray, List.map_cons, List.map_nil, hs, hx, hr]
  exact h v1 w1 h2 (HB.grown h3 hbase (fun k hk => U_base HO k hk)) h3 h4
end
end Kd
end Go.Proofs.YtacdchogjpeffaaDoorW.PrintWords
