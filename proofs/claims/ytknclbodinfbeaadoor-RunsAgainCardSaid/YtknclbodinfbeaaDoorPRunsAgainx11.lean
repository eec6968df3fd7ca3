-- Written by a program of this session (wip/tools/myprint.py) over the kit's print. Not trusted: Lean checks it.
import Derived.Test.YtknclbodinfbeaaDoorPRunsAgainx0
import Derived.Test.YtknclbodinfbeaaDoorPRunsAgainx9
import Derived.Test.YtknclbodinfbeaaDoorPRunsAgainx10
namespace Go.Proofs.YtknclbodinfbeaaDoor.PRunsAgain
open Go.RowKit Go.Proofs.YtknclbodinfbeaaDoorW.PrintWords Go.Proofs.YtknclbodinfbeaaDoorW.PrintLast Go.Proofs.YtknclbodinfbeaaDoorW.PrintMore
attribute [local go_sem] max2_int min2_int max_two min_two max_three min_three max_four min_four   -- for this text's walks alone
set_option linter.unusedVariables false
set_option linter.unusedSimpArgs false

/-! ### slices_IndexFunc_string_string_118: function 130 -/
def slices_IndexFunc_string_string_118.l0 : Nat → List ByteArray → Int → Int → ByteArray → Option (Int)
 | 0, _, _, _, _ => none
 | k + 1, x0, x7, x8, x401000 => if x8 < x7 then (if 0 ≤ x8 then (if x8 < (x0.length : Int) then ((runs_reader_word_1.f (rdOf ByteArray.empty x0 x8) x401000).bind fun t402 => (if t402 = true then (some x8) else (slices_IndexFunc_string_string_118.l0 k x0 x7 (wrap64 (x8 + 1)) x401000))) else (none)) else (none)) else (some (-1))
def slices_IndexFunc_string_string_118.f (k : Nat) (l0 : List ByteArray) (a1_0 : ByteArray) : Option (Int) := slices_IndexFunc_string_string_118.l0 k l0 (l0.length : Int) 0 a1_0
theorem slices_IndexFunc_string_string_118.mono_l : ∀ k, (∀ y0 y1 y2 y3, LeO (slices_IndexFunc_string_string_118.l0 k y0 y1 y2 y3) (slices_IndexFunc_string_string_118.l0 (k + 1) y0 y1 y2 y3))
 | 0 => fun _ _ _ _ r h => by simp [slices_IndexFunc_string_string_118.l0] at h
 | k + 1 => by
  have ih0 := slices_IndexFunc_string_string_118.mono_l k
  ·intro y0 y1 y2 y3
   unfold slices_IndexFunc_string_string_118.l0
   repeat' first
   | (with_reducible exact ih0 _ _ _ _)
   | (with_reducible first | exact LeO.refl _ | exact LeO.none _ | refine LeO.ite ?_ ?_ | refine LeO.bind ?_ (fun _ => ?_))
   | exact ih0 _ _ _ _
   | exact LeO.none _ | refine LeO.ite ?_ ?_ | refine LeO.bind ?_ (fun _ => ?_)
theorem slices_IndexFunc_string_string_118.mono : ∀ a0 a1 k, LeO (slices_IndexFunc_string_string_118.f k a0 a1) (slices_IndexFunc_string_string_118.f (k + 1) a0 a1) := by
 intro a0 a1 k
 have ih0 := slices_IndexFunc_string_string_118.mono_l k
 unfold slices_IndexFunc_string_string_118.f
 repeat' first
   | (with_reducible exact ih0 _ _ _ _)
   | (with_reducible first | exact LeO.refl _ | exact LeO.none _ | refine LeO.ite ?_ ?_ | refine LeO.bind ?_ (fun _ => ?_))
   | exact ih0 _ _ _ _
   | exact LeO.none _ | refine LeO.ite ?_ ?_ | refine LeO.bind ?_ (fun _ => ?_)
set_option maxHeartbeats 8000000 in
set_option maxRecDepth 100000 in
theorem slices_IndexFunc_string_string_118.calls (k : Nat) (A0 : Option Addr) (c0 : Nat) (l0 : List ByteArray) (b1_0 : Nat) (a1_0 : ByteArray) (r : Int) (w : World) (hr0 : Kd.C Kd.string w A0 l0.length l0) (hc0 : l0.length ≤ c0) (hbx1_0 : w.heap[b1_0]? = some (.cells #[.string a1_0] 9 (0, 0))) (h : slices_IndexFunc_string_string_118.f k l0 a1_0 = some r) :
  Calls Tryd.prog 130 #[.slice A0 l0.length c0, .func (.func 118) #[] #[.pointer (some ⟨b1_0, 0, none⟩)]] w fun e w' => e = .returned (.int .i64 r) ∧ Below w.heap.size w w' := by
 have HR0 := Aside0.mk hr0
 have HC0 := Aside0.mk hc0
 clear hr0 hc0
 have BK400 := Aside0.mk hbx1_0
 clear hbx1_0
 have HB := Aside0.mk (Below.refl w.heap.size w)
 have H : (slices_IndexFunc_string_string_118.l0 k l0 (l0.length : Int) 0 a1_0) = some r := h
 clear h
 have H' := Aside0.mk H
 clear H
 go_enter Tryd.func130, Tryd.ntmps130
 go_wp2
 go_loopg [8] k (fun kq v8 w' => ∃ (x8_1 : Int), v8 = .int .i64 x8_1 ∧ Aside0 (slices_IndexFunc_string_string_118.l0 kq l0 (l0.length : Int) x8_1 a1_0 = some r) ∧ Aside0 (kq ≤ k) ∧ Aside0 (w'.heap[b1_0]? = some (.cells #[.string a1_0] 9 (0, 0))) ∧ Aside0 (Below w.heap.size w w'))
 case atStart => exact ⟨(0), rq, H', ⟨Nat.le_refl _⟩, ⟨bU BK400.out⟩, ⟨bl⟩⟩
 case round =>
  clear H'
  obtain ⟨x8_1, rfl, HA, HK1, BK400, HB⟩ := hrel
  cases gk with
  | zero => exact absurd HA.out (by simp [slices_IndexFunc_string_string_118.l0])
  | succ k1 =>
   have H := HA.out
   clear HA
   simp only [slices_IndexFunc_string_string_118.l0] at H
   by_cases c3 : x8_1 < (l0.length : Int)
   ·rw [if_pos c3] at H
    have c3b0 := decide_eq_true c3
    clear c3
    by_cases c4 : 0 ≤ x8_1
    ·rw [if_pos c4] at H
     have c4b0 := decide_eq_true c4
     clear c4
     by_cases c5 : x8_1 < (l0.length : Int)
     ·rw [if_pos c5] at H
      have c5b0 := decide_eq_true c5
      clear c5
      replace H := Option.bind_eq_some_iff.mp H
      obtain ⟨t402, A60, H⟩ := H
      replace H : (if t402 = true then (some x8_1) else (slices_IndexFunc_string_string_118.l0 k1 l0 (l0.length : Int) (wrap64 (x8_1 + 1)) a1_0)) = some r := H
      have A6 := Aside0.mk A60
      clear A60
      by_cases c7 : t402 = true
      ·subst c7
       have H1 : (some x8_1) = some r := by rw [if_pos rfl] at H; exact H
       clear H
       have H := H1
       clear H1
       obtain rfl := Option.some.inj H
       have p401 : 0 ≤ (x8_1 : Int) := dt
       have q401 : x8_1 < (l0.length : Int) := dt
       obtain ⟨ad401, e401, hx401_0⟩ := Kd.at_string HR0.out x8_1 p401 q401
       cases e401
       replace hx401_0 := hcB HB.out hx401_0
       replace p401 := eq_true p401
       replace q401 := eq_true q401
       go_wp2_with (first | ((with_reducible refine gate_value rfl ?_); refine goesV_ (some 16) rfl rfl Tryd.func118 (by kernel_rfl) rfl #[.string (rdOf ByteArray.empty l0 x8_1), .pointer (some ⟨b1_0, 0, none⟩)] rfl rfl (by (try simp only [List.map_toArray, List.map_cons, List.map_nil]); first | done | rfl | (simp only [List.length_drop, List.length_take]; rfl)) ?_; (with_reducible refine (runs_reader_word_1.calls (rdOf ByteArray.empty l0 x8_1) b1_0 a1_0 true _ ?side1 A6.out).mono ?_); (case side1 => exact bU BK400.out); rintro e w8 ⟨rfl, hb⟩; refine ⟨_, rfl, ?_⟩; have n_ := aC (blk_below (bU BK400.out) hb) (aE (bs hb)); clear BK400 HB; obtain ⟨BK400, HB⟩ := n_; (try clear hb)))
       go_ret
       exact ⟨re, bl⟩
      ·replace c7 := Bool.eq_false_iff.mpr c7
       subst c7
       have H1 : (slices_IndexFunc_string_string_118.l0 k1 l0 (l0.length : Int) (wrap64 (x8_1 + 1)) a1_0) = some r := by rw [if_neg (show ¬ (false = true) by decide)] at H; exact H
       clear H
       have H := H1
       clear H1
       have H' := Aside0.mk H
       clear H
       have p401 : 0 ≤ (x8_1 : Int) := dt
       have q401 : x8_1 < (l0.length : Int) := dt
       obtain ⟨ad401, e401, hx401_0⟩ := Kd.at_string HR0.out x8_1 p401 q401
       cases e401
       replace hx401_0 := hcB HB.out hx401_0
       replace p401 := eq_true p401
       replace q401 := eq_true q401
       go_wp2_with (first | ((with_reducible refine gate_value rfl ?_); refine goesV_ (some 16) rfl rfl Tryd.func118 (by kernel_rfl) rfl #[.string (rdOf ByteArray.empty l0 x8_1), .pointer (some ⟨b1_0, 0, none⟩)] rfl rfl (by (try simp only [List.map_toArray, List.map_cons, List.map_nil]); first | done | rfl | (simp only [List.length_drop, List.length_take]; rfl)) ?_; (with_reducible refine (runs_reader_word_1.calls (rdOf ByteArray.empty l0 x8_1) b1_0 a1_0 false _ ?side1 A6.out).mono ?_); (case side1 => exact bU BK400.out); rintro e w9 ⟨rfl, hb⟩; refine ⟨_, rfl, ?_⟩; have n_ := aC (blk_below (bU BK400.out) hb) (aE (bs hb)); clear BK400 HB; obtain ⟨BK400, HB⟩ := n_; (try clear hb)))
       go_roundg k1
       case measure => have := HK1.out; omega
       case rel => exact ⟨(wrap64 (x8_1 + 1)), rq, H', ⟨by have := HK1.out; omega⟩, ⟨bU BK400.out⟩, ⟨bl⟩⟩
     ·rw [if_neg c5] at H
      exact absurd H (by simp)
    ·rw [if_neg c4] at H
     exact absurd H (by simp)
   ·rw [if_neg c3] at H
    have c3b0 := decide_eq_false c3
    clear c3
    obtain rfl := Option.some.inj H
    go_wp2
    go_ret
    exact ⟨re, bl⟩

/-! ### slices_ContainsFunc_string_string_118: function 117 -/
def slices_ContainsFunc_string_string_118.f (k : Nat) (l0 : List ByteArray) (a1_0 : ByteArray) : Option (Bool) := (slices_IndexFunc_string_string_118.f k l0 a1_0).bind fun t404 => (some (decide (t404 ≥ 0)))
theorem slices_ContainsFunc_string_string_118.mono : ∀ a0 a1 k, LeO (slices_ContainsFunc_string_string_118.f k a0 a1) (slices_ContainsFunc_string_string_118.f (k + 1) a0 a1) := by
 intro a0 a1 k
 unfold slices_ContainsFunc_string_string_118.f
 repeat' first
   | (with_reducible exact slices_IndexFunc_string_string_118.mono _ _ _)
   | (with_reducible first | exact LeO.refl _ | exact LeO.none _ | refine LeO.ite ?_ ?_ | refine LeO.bind ?_ (fun _ => ?_))
   | exact slices_IndexFunc_string_string_118.mono _ _ _
   | exact LeO.none _ | refine LeO.ite ?_ ?_ | refine LeO.bind ?_ (fun _ => ?_)
set_option maxHeartbeats 8000000 in
set_option maxRecDepth 100000 in
theorem slices_ContainsFunc_string_string_118.calls (k : Nat) (A0 : Option Addr) (c0 : Nat) (l0 : List ByteArray) (b1_0 : Nat) (a1_0 : ByteArray) (r : Bool) (w : World) (hr0 : Kd.C Kd.string w A0 l0.length l0) (hc0 : l0.length ≤ c0) (hbx1_0 : w.heap[b1_0]? = some (.cells #[.string a1_0] 9 (0, 0))) (h : slices_ContainsFunc_string_string_118.f k l0 a1_0 = some r) :
  Calls Tryd.prog 117 #[.slice A0 l0.length c0, .func (.func 118) #[] #[.pointer (some ⟨b1_0, 0, none⟩)]] w fun e w' => e = .returned (.bool r) ∧ Below w.heap.size w w' := by
 have HR0 := Aside0.mk hr0
 have HC0 := Aside0.mk hc0
 clear hr0 hc0
 have BK403 := Aside0.mk hbx1_0
 clear hbx1_0
 have HB := Aside0.mk (Below.refl w.heap.size w)
 have H : ((slices_IndexFunc_string_string_118.f k l0 a1_0).bind fun t404 => (some (decide (t404 ≥ 0)))) = some r := h
 clear h
 replace H := Option.bind_eq_some_iff.mp H
 obtain ⟨t404, A30, H⟩ := H
 replace H : (some (decide (t404 ≥ 0))) = some r := H
 have A3 := Aside0.mk A30
 clear A30
 obtain rfl := Option.some.inj H
 go_enter Tryd.func117, Tryd.ntmps117
 go_wp2_with (first | ((with_reducible refine gf 130 rfl ?_); refine gL (some 7) rfl rfl Tryd.func130 rfl #[.slice A0 l0.length c0, .func (.func 118) #[] #[.pointer (some ⟨b1_0, 0, none⟩)]] rfl ?_; (with_reducible refine (slices_IndexFunc_string_string_118.calls k _ _ l0 b1_0 a1_0 t404 _ ?side1 ?side2 ?side3 A3.out).mono ?_); (case side1 => exact cU HR0.out); (case side2 => exact HC0.out); (case side3 => exact bU BK403.out); rintro e w4 ⟨rfl, hb⟩; refine ⟨_, rfl, ?_⟩; have n_ := aC (blk_below (bU BK403.out) hb) (aE (bs hb)); clear BK403 HB; obtain ⟨BK403, HB⟩ := n_; (try clear hb)))
 go_ret
 exact ⟨re, bl⟩

/-! ### runs_reader_word: function 102 -/
mutual
def runs_reader_word.l0 : Nat → List ByteArray → List Int → Int → Bool → ByteArray → Option (Int × Int × Int × Bool)
 | 0, _, _, _, _, _ => none
 | k + 1, x1, x1000, x1001, x1002, x406000 => (slices_Index_string_string.f k x1 x406000).bind fun t406 => (if t406 ≥ 0 then (runs_reader_word.j1 k x1 t406 (x406000.toList != ([] : List UInt8)) x1000 x1001 x1002 x406000) else (runs_reader_word.j1 k x1 t406 false x1000 x1001 x1002 x406000))
def runs_reader_word.j1 : Nat → List ByteArray → Int → Bool → List Int → Int → Bool → ByteArray → Option (Int × Int × Int × Bool)
 | 0, _, _, _, _, _, _, _ => none
 | k + 1, x1, x7, x18, x1000, x1001, x1002, x406000 => if x18 = true then (some (x7, 0, x1001, x1002)) else ((slices_ContainsFunc_string_string_118.f k x1 x406000).bind fun t407 => (if t407 = true then ((bits_Reader_Bits.f k x1000 x1001 x1002 1).bind fun bt408 => (if bt408.2.1 = 0 then (if x406000.size + (Utf8.encode (wrap32 (48 + (wrap32 (bt408.1))))).size ≤ 9223372036854775807 then (runs_reader_word.l0 k x1 x1000 bt408.2.2.1 bt408.2.2.2 (x406000 ++ (Utf8.encode (wrap32 (48 + (wrap32 (bt408.1))))))) else (none)) else (some (0, bt408.2.1, bt408.2.2.1, bt408.2.2.2)))) else (some (0, 3, x1001, x1002))))
end
def runs_reader_word.f (k : Nat) (s0_0 : List Int) (s0_1 : Int) (s0_2 : Bool) (l1 : List ByteArray) : Option (Int × Int × Int × Bool) := runs_reader_word.l0 k l1 s0_0 s0_1 s0_2 (⟨#[]⟩ : ByteArray)
theorem runs_reader_word.mono_l : ∀ k, (∀ y0 y1 y2 y3 y4, LeO (runs_reader_word.l0 k y0 y1 y2 y3 y4) (runs_reader_word.l0 (k + 1) y0 y1 y2 y3 y4)) ∧ (∀ y0 y1 y2 y3 y4 y5 y6, LeO (runs_reader_word.j1 k y0 y1 y2 y3 y4 y5 y6) (runs_reader_word.j1 (k + 1) y0 y1 y2 y3 y4 y5 y6))
 | 0 => ⟨fun _ _ _ _ _ r h => by simp [runs_reader_word.l0] at h, fun _ _ _ _ _ _ _ r h => by simp [runs_reader_word.j1] at h⟩
 | k + 1 => by
  obtain ⟨ih0, ih1⟩ := runs_reader_word.mono_l k
  refine ⟨?_, ?_⟩
  ·intro y0 y1 y2 y3 y4
   unfold runs_reader_word.l0
   repeat' first
   | (with_reducible exact ih0 _ _ _ _ _)
   | (with_reducible exact ih1 _ _ _ _ _ _ _)
   | (with_reducible exact bits_Reader_Bits.mono _ _ _ _ _)
   | (with_reducible exact slices_ContainsFunc_string_string_118.mono _ _ _)
   | (with_reducible exact slices_Index_string_string.mono _ _ _)
   | (with_reducible first | exact LeO.refl _ | exact LeO.none _ | refine LeO.ite ?_ ?_ | refine LeO.bind ?_ (fun _ => ?_))
   | exact ih0 _ _ _ _ _
   | exact ih1 _ _ _ _ _ _ _
   | exact bits_Reader_Bits.mono _ _ _ _ _
   | exact slices_ContainsFunc_string_string_118.mono _ _ _
   | exact slices_Index_string_string.mono _ _ _
   | exact LeO.none _ | refine LeO.ite ?_ ?_ | refine LeO.bind ?_ (fun _ => ?_)
  ·intro y0 y1 y2 y3 y4 y5 y6
   unfold runs_reader_word.j1
   repeat' first
   | (with_reducible exact ih0 _ _ _ _ _)
   | (with_reducible exact ih1 _ _ _ _ _ _ _)
   | (with_reducible exact bits_Reader_Bits.mono _ _ _ _ _)
   | (with_reducible exact slices_ContainsFunc_string_string_118.mono _ _ _)
   | (with_reducible exact slices_Index_string_string.mono _ _ _)
   | (with_reducible first | exact LeO.refl _ | exact LeO.none _ | refine LeO.ite ?_ ?_ | refine LeO.bind ?_ (fun _ => ?_))
   | exact ih0 _ _ _ _ _
   | exact ih1 _ _ _ _ _ _ _
   | exact bits_Reader_Bits.mono _ _ _ _ _
   | exact slices_ContainsFunc_string_string_118.mono _ _ _
   | exact slices_Index_string_string.mono _ _ _
   | exact LeO.none _ | refine LeO.ite ?_ ?_ | refine LeO.bind ?_ (fun _ => ?_)
theorem runs_reader_word.mono : ∀ a0 a1 a2 a3 k, LeO (runs_reader_word.f k a0 a1 a2 a3) (runs_reader_word.f (k + 1) a0 a1 a2 a3) := by
 intro a0 a1 a2 a3 k
 obtain ⟨ih0, ih1⟩ := runs_reader_word.mono_l k
 unfold runs_reader_word.f
 repeat' first
   | (with_reducible exact ih0 _ _ _ _ _)
   | (with_reducible exact ih1 _ _ _ _ _ _ _)
   | (with_reducible exact bits_Reader_Bits.mono _ _ _ _ _)
   | (with_reducible exact slices_ContainsFunc_string_string_118.mono _ _ _)
   | (with_reducible exact slices_Index_string_string.mono _ _ _)
   | (with_reducible first | exact LeO.refl _ | exact LeO.none _ | refine LeO.ite ?_ ?_ | refine LeO.bind ?_ (fun _ => ?_))
   | exact ih0 _ _ _ _ _
   | exact ih1 _ _ _ _ _ _ _
   | exact bits_Reader_Bits.mono _ _ _ _ _
   | exact slices_ContainsFunc_string_string_118.mono _ _ _
   | exact slices_Index_string_string.mono _ _ _
   | exact LeO.none _ | refine LeO.ite ?_ ?_ | refine LeO.bind ?_ (fun _ => ?_)
set_option maxHeartbeats 8000000 in
set_option maxRecDepth 100000 in
theorem runs_reader_word.calls (k : Nat) (g : Nat) (s0_0 : List Int) (s0_1 : Int) (s0_2 : Bool) (A1 : Option Addr) (c1 : Nat) (l1 : List ByteArray) (r1 : Int) (r2 : Int) (r3 : Int) (r4 : Bool) (w0 w : World) (hI : IsS140 w0 w g s0_0 s0_1 s0_2) (hB : Below w0.heap.size w0 w) (hr1 : Kd.C Kd.string w A1 l1.length l1) (hc1 : l1.length ≤ c1) (hf1 : ∀ ad, A1 = some ad → 0 < l1.length → ad.block ≠ g) (gx : Nat) (hXk : ∀ W_ : World, KeepBut w W_ g none → W_.cell? ⟨gx, 0, none⟩ = some (.pointer (some ⟨g, 0, none⟩))) (h : runs_reader_word.f k s0_0 s0_1 s0_2 l1 = some (r1, r2, r3, r4)) :
  Calls Tryd.prog 102 #[.pointer (some ⟨gx, 0, none⟩), .slice A1 l1.length c1] w fun e w' => e = .returned (.tuple #[.int .i64 r1, .int .i64 r2]) ∧ IsS140 w0 w' g s0_0 r3 r4 ∧ Below w0.heap.size w0 w' ∧ KeepBut w w' g none := by
 have hu110 := Tryd.underlying110
 have HR1 := Aside0.mk hr1
 have HC1 := Aside0.mk hc1
 clear hr1 hc1
 have HI0 := Aside0.mk hI
 have HK := Aside0.mk (KeepBut.refl w g none)
 have HL := Aside0.mk hB.size
 clear hI
 have HW0 := Aside0.mk hB.size
 have HB := Aside0.mk hB
 clear hB
 have H : (runs_reader_word.l0 k l1 s0_0 s0_1 s0_2 (⟨#[]⟩ : ByteArray)) = some (r1, r2, r3, r4) := h
 clear h
 have H' := Aside0.mk H
 clear H
 go_enter Tryd.func102, Tryd.ntmps102
 have hX_ := hXk _ HK.out
 go_wp2_with (first | ((with_reducible refine gd 6 rfl ?_); refine bx 6 #[.string (⟨#[]⟩ : ByteArray)] 9 rfl rfl ?_; intro gb405 hg w3 hbox hb; have n_ := aC (IsS140.below (by repeat (first | (with_reducible first | exact HI0.out | apply IsS140.alloc | apply IsS140.drewN | apply IsS140.drew | apply IsS140.set_1 | apply IsS140.set_2) | exact HI0.out)) hb) (aC (KeepBut.trans (by repeat (first | (with_reducible first | exact HK.out | apply KeepBut.set_ | apply keep_drewN | apply keep_drew | apply keep_alloc) | exact HK.out)) (KeepBut.of_below hb g none) (.inl rfl)) (aC (below_step (by repeat (first | (with_reducible first | exact HB.out | apply below_alloc | apply pw_below_drewN | apply below_drew1 | refine below_set ?_ (IsS140.ge HI0.out)) | exact HB.out)) hb) (aC hbox (aC ((by rw [hg]; exact (keep_size (w := w) (g := g) (row := none) (by repeat (first | (with_reducible first | exact HK.out | apply KeepBut.set_ | apply keep_drewN | apply keep_drew | apply keep_alloc) | exact HK.out))) : w.heap.size ≤ gb405)) (aC ((Nat.le_trans HW0.out (by rw [hg]; exact (keep_size (w := w) (g := g) (row := none) (by repeat (first | (with_reducible first | exact HK.out | apply KeepBut.set_ | apply keep_drewN | apply keep_drew | apply keep_alloc) | exact HK.out))) : w.heap.size ≤ gb405) : w0.heap.size ≤ gb405)) (aC ((by rw [hg]; exact Nat.ne_of_lt (IsS140.lt (show IsS140 w0 _ g s0_0 s0_1 s0_2 from by repeat (first | (with_reducible first | exact HI0.out | apply IsS140.alloc | apply IsS140.drewN | apply IsS140.drew | apply IsS140.set_1 | apply IsS140.set_2) | exact HI0.out))) : g ≠ gb405)) (aE ((by rw [hg]; exact Nat.ne_of_gt (IsS140.lt (show IsS140 w0 _ g s0_0 s0_1 s0_2 from by repeat (first | (with_reducible first | exact HI0.out | apply IsS140.alloc | apply IsS140.drewN | apply IsS140.drew | apply IsS140.set_1 | apply IsS140.set_2) | exact HI0.out))) : gb405 ≠ g))))))))); clear HI0 HK HB; obtain ⟨HI0, HK, HB, BK405, GW405, GE405, NB0_405, NB405_0⟩ := n_; clear hb hbox hg; have hnb4 := NB405_0.out; have hnc4 := NB0_405.out; obtain ⟨hcz5_0, hfz5_0⟩ := cz1f BK405.out; have hX_ := hXk _ HK.out))
 go_loopg [] k (fun kq w' => ∃ (x1001_1 : Int) (x1002_1 : Bool) (x406000_1 : ByteArray), Aside0 (runs_reader_word.l0 kq l1 s0_0 x1001_1 x1002_1 x406000_1 = some (r1, r2, r3, r4)) ∧ Aside0 (kq ≤ k) ∧ Aside0 (w'.heap[gb405]? = some (.cells #[.string x406000_1] 9 (0, 0))) ∧ Aside0 (IsS140 w0 w' g s0_0 x1001_1 x1002_1) ∧ Aside0 (KeepBut w w' g none) ∧ Aside0 (Below w0.heap.size w0 w'))
 case atStart => exact ⟨(s0_1), (s0_2), ((⟨#[]⟩ : ByteArray)), H', ⟨Nat.le_refl _⟩, ⟨by (with_reducible repeat (first | refine blk_drewN ?_ _ | refine blk_drew ?_ | refine blk_alloc ?_ _)); refine blk_put (cs := #[.string (⟨#[]⟩ : ByteArray)]) ?_ 0 _ rfl; (with_reducible repeat (first | refine blk_drewN ?_ _ | refine blk_drew ?_ | refine blk_alloc ?_ _)); exact BK405.out⟩, ⟨by repeat (first | (with_reducible first | exact HI0.out | apply IsS140.alloc | apply IsS140.drewN | apply IsS140.drew | apply IsS140.set_1 | apply IsS140.set_2 | refine IsS140.far ?_ NB0_405.out _) | exact HI0.out)⟩, ⟨by repeat (first | (with_reducible first | exact HK.out | apply KeepBut.set_ | apply keep_drewN | apply keep_drew | apply keep_alloc | refine keep_far ?_ GW405.out _) | exact HK.out)⟩, ⟨by repeat (first | (with_reducible first | exact HB.out | apply below_alloc | apply pw_below_drewN | apply below_drew1 | refine below_set ?_ (IsS140.ge HI0.out) | refine below_set ?_ GE405.out) | exact HB.out)⟩⟩
 case round =>
  clear H'
  try clear c1
  obtain ⟨x1001_1, x1002_1, x406000_1, HA, HK1, BK405, HI0, HK, HB⟩ := hrel
  cases gk with
  | zero => exact absurd HA.out (by simp [runs_reader_word.l0])
  | succ k1 =>
   have H := HA.out
   clear HA
   simp only [runs_reader_word.l0] at H
   replace H := Option.bind_eq_some_iff.mp H
   obtain ⟨t406, A60, H⟩ := H
   replace H : (if t406 ≥ 0 then (runs_reader_word.j1 k1 l1 t406 (x406000_1.toList != ([] : List UInt8)) s0_0 x1001_1 x1002_1 x406000_1) else (runs_reader_word.j1 k1 l1 t406 false s0_0 x1001_1 x1002_1 x406000_1)) = some (r1, r2, r3, r4) := H
   have A6 := Aside0.mk A60
   clear A60
   have HC7 := Aside0.mk H
   clear H
   have hnb8 := NB405_0.out
   have hnc8 := NB0_405.out
   obtain ⟨hcz9_0, hfz9_0⟩ := cz1f BK405.out
   have hX_ := hXk _ HK.out
   go_upto_region 3 with (first | ((with_reducible refine gf 116 rfl ?_); refine gL (some 12) rfl rfl Tryd.func116 rfl #[.slice A1 l1.length c1, .string x406000_1] rfl ?_; (with_reducible refine (slices_Index_string_string.calls k1 _ _ l1 x406000_1 t406 _ ?side1 ?side2 A6.out).mono ?_); (case side1 => exact Kd.C_keep (⟨#[]⟩ : ByteArray) HR1.out (by repeat (first | (with_reducible first | exact HK.out | apply KeepBut.set_ | apply keep_drewN | apply keep_drew | apply keep_alloc | refine keep_far ?_ GW405.out _) | exact HK.out)) hf1); (case side2 => exact HC1.out); rintro e w' ⟨rfl, ⟨nd, rfl⟩⟩; refine ⟨_, rfl, ?_⟩))
   (try simp only [Act.put, List.setIfInBounds_toArray, List.set_cons_zero, List.set_cons_succ])
   go_cut [18] (fun v18 wc => ∃ (kq : Nat) (x18_6 : Bool), v18 = .bool x18_6 ∧ Aside0 (runs_reader_word.j1 kq l1 t406 x18_6 s0_0 x1001_1 x1002_1 x406000_1 = some (r1, r2, r3, r4)) ∧ Aside0 (kq ≤ k1) ∧ Aside0 (wc.heap[gb405]? = some (.cells #[.string x406000_1] 9 (0, 0))) ∧ Aside0 (IsS140 w0 wc g s0_0 x1001_1 x1002_1) ∧ Aside0 (KeepBut w wc g none) ∧ Aside0 (Below w0.heap.size w0 wc))
   case first =>
    have H := HC7.out
    clear HC7
    by_cases c10 : t406 ≥ 0
    ·rw [if_pos c10] at H
     have c10b0 := decide_eq_true c10
     clear c10
     (first | rw [c10b0] | (simp only [i64_w, i32_w]; rw [c10b0]) | skip)
     have H' := Aside0.mk H
     clear H
     have hnb11 := NB405_0.out
     have hnc11 := NB0_405.out
     obtain ⟨hcz12_0, hfz12_0⟩ := cz1f BK405.out
     have hX_ := hXk _ HK.out
     go_wp2
     go_meet
     case rel => exact ⟨_, ((x406000_1.toList != ([] : List UInt8))), rq, H', ⟨by have := HK1.out; first | omega | exact Nat.le_refl _⟩, ⟨bU BK405.out⟩, ⟨by repeat (first | (with_reducible first | exact HI0.out | apply IsS140.alloc | apply IsS140.drewN | apply IsS140.drew | apply IsS140.set_1 | apply IsS140.set_2 | refine IsS140.far ?_ NB0_405.out _) | exact HI0.out)⟩, ⟨by repeat (first | (with_reducible first | exact HK.out | apply KeepBut.set_ | apply keep_drewN | apply keep_drew | apply keep_alloc | refine keep_far ?_ GW405.out _) | exact HK.out)⟩, ⟨by repeat (first | (with_reducible first | exact HB.out | apply below_alloc | apply pw_below_drewN | apply below_drew1 | refine below_set ?_ (IsS140.ge HI0.out) | refine below_set ?_ GE405.out) | exact HB.out)⟩⟩
    ·rw [if_neg c10] at H
     have c10b0 := decide_eq_false c10
     clear c10
     (first | rw [c10b0] | (simp only [i64_w, i32_w]; rw [c10b0]) | skip)
     have H' := Aside0.mk H
     clear H
     have hX_ := hXk _ HK.out
     go_wp2
     go_meet
     case rel => exact ⟨_, (false), rq, H', ⟨by have := HK1.out; first | omega | exact Nat.le_refl _⟩, ⟨bU BK405.out⟩, ⟨by repeat (first | (with_reducible first | exact HI0.out | apply IsS140.alloc | apply IsS140.drewN | apply IsS140.drew | apply IsS140.set_1 | apply IsS140.set_2 | refine IsS140.far ?_ NB0_405.out _) | exact HI0.out)⟩, ⟨by repeat (first | (with_reducible first | exact HK.out | apply KeepBut.set_ | apply keep_drewN | apply keep_drew | apply keep_alloc | refine keep_far ?_ GW405.out _) | exact HK.out)⟩, ⟨by repeat (first | (with_reducible first | exact HB.out | apply below_alloc | apply pw_below_drewN | apply below_drew1 | refine below_set ?_ (IsS140.ge HI0.out) | refine below_set ?_ GE405.out) | exact HB.out)⟩⟩
   case rest =>
    clear HC7
    try clear c1
    obtain ⟨kq, x18_6, rfl, HA, HJ6, BK405, HI0, HK, HB⟩ := hcut
    cases kq with
    | zero => exact absurd HA.out (by simp [runs_reader_word.j1])
    | succ kj6 =>
     have H := HA.out
     clear HA
     simp only [runs_reader_word.j1] at H
     by_cases c13 : x18_6 = true
     ·subst c13
      have H1 : (some (t406, 0, x1001_1, x1002_1)) = some (r1, r2, r3, r4) := by rw [if_pos rfl] at H; exact H
      clear H
      have H := H1
      clear H1
      simp only [Option.some.injEq, Prod.mk.injEq] at H
      obtain ⟨rfl, rfl, rfl, rfl⟩ := H
      have hX_ := hXk _ HK.out
      go_wp2
      go_ret2
      exact ⟨re, by repeat (first | (with_reducible first | exact HI0.out | apply IsS140.alloc | apply IsS140.drewN | apply IsS140.drew | apply IsS140.set_1 | apply IsS140.set_2 | refine IsS140.far ?_ NB0_405.out _) | exact HI0.out), by repeat (first | (with_reducible first | exact HB.out | apply below_alloc | apply pw_below_drewN | apply below_drew1 | refine below_set ?_ (IsS140.ge HI0.out) | refine below_set ?_ GE405.out) | exact HB.out), by repeat (first | (with_reducible first | exact HK.out | apply KeepBut.set_ | apply keep_drewN | apply keep_drew | apply keep_alloc | refine keep_far ?_ GW405.out _) | exact HK.out)⟩
     ·replace c13 := Bool.eq_false_iff.mpr c13
      subst c13
      have H1 : ((slices_ContainsFunc_string_string_118.f kj6 l1 x406000_1).bind fun t407 => (if t407 = true then ((bits_Reader_Bits.f kj6 s0_0 x1001_1 x1002_1 1).bind fun bt408 => (if bt408.2.1 = 0 then (if x406000_1.size + (Utf8.encode (wrap32 (48 + (wrap32 (bt408.1))))).size ≤ 9223372036854775807 then (runs_reader_word.l0 kj6 l1 s0_0 bt408.2.2.1 bt408.2.2.2 (x406000_1 ++ (Utf8.encode (wrap32 (48 + (wrap32 (bt408.1))))))) else (none)) else (some (0, bt408.2.1, bt408.2.2.1, bt408.2.2.2)))) else (some (0, 3, x1001_1, x1002_1)))) = some (r1, r2, r3, r4) := by rw [if_neg (show ¬ (false = true) by decide)] at H; exact H
      clear H
      have H := H1
      clear H1
      replace H := Option.bind_eq_some_iff.mp H
      obtain ⟨t407, A140, H⟩ := H
      replace H : (if t407 = true then ((bits_Reader_Bits.f kj6 s0_0 x1001_1 x1002_1 1).bind fun bt408 => (if bt408.2.1 = 0 then (if x406000_1.size + (Utf8.encode (wrap32 (48 + (wrap32 (bt408.1))))).size ≤ 9223372036854775807 then (runs_reader_word.l0 kj6 l1 s0_0 bt408.2.2.1 bt408.2.2.2 (x406000_1 ++ (Utf8.encode (wrap32 (48 + (wrap32 (bt408.1))))))) else (none)) else (some (0, bt408.2.1, bt408.2.2.1, bt408.2.2.2)))) else (some (0, 3, x1001_1, x1002_1))) = some (r1, r2, r3, r4) := H
      have A14 := Aside0.mk A140
      clear A140
      by_cases c15 : t407 = true
      ·subst c15
       have H1 : ((bits_Reader_Bits.f kj6 s0_0 x1001_1 x1002_1 1).bind fun bt408 => (if bt408.2.1 = 0 then (if x406000_1.size + (Utf8.encode (wrap32 (48 + (wrap32 (bt408.1))))).size ≤ 9223372036854775807 then (runs_reader_word.l0 kj6 l1 s0_0 bt408.2.2.1 bt408.2.2.2 (x406000_1 ++ (Utf8.encode (wrap32 (48 + (wrap32 (bt408.1))))))) else (none)) else (some (0, bt408.2.1, bt408.2.2.1, bt408.2.2.2)))) = some (r1, r2, r3, r4) := by rw [if_pos rfl] at H; exact H
       clear H
       have H := H1
       clear H1
       replace H := Option.bind_eq_some_iff.mp H
       obtain ⟨⟨t408, t409, t410, t411⟩, A160, H⟩ := H
       replace H : (if t409 = 0 then (if x406000_1.size + (Utf8.encode (wrap32 (48 + (wrap32 (t408))))).size ≤ 9223372036854775807 then (runs_reader_word.l0 kj6 l1 s0_0 t410 t411 (x406000_1 ++ (Utf8.encode (wrap32 (48 + (wrap32 (t408))))))) else (none)) else (some (0, t409, t410, t411))) = some (r1, r2, r3, r4) := H
       have A16 := Aside0.mk A160
       clear A160
       by_cases c17 : t409 = 0
       ·rw [if_pos c17] at H
        have c17b0 := beq_iff_eq.mpr c17
        have c17b1 := bne_eq_false_iff_eq.mpr c17
        clear c17
        by_cases c18 : x406000_1.size + (Utf8.encode (wrap32 (48 + (wrap32 (t408))))).size ≤ 9223372036854775807
        ·rw [if_pos c18] at H
         have c18b0 := eq_true c18
         have c18b1 := decide_eq_true c18
         try have c18b2 : (9223372036854775807 < x406000_1.size + (Utf8.encode (wrap32 (48 + (wrap32 (t408))))).size) = False := eq_false (Nat.not_lt.2 c18)
         have H' := Aside0.mk H
         clear H
         have hX_ := hXk _ HK.out
         go_wp2_with (first | ((with_reducible refine gf 117 rfl ?_); refine gL (some 22) rfl rfl Tryd.func117 rfl #[.slice A1 l1.length c1, .func (.func 118) #[] #[.pointer (some ⟨gb405, 0, none⟩)]] rfl ?_; (with_reducible refine (slices_ContainsFunc_string_string_118.calls kj6 _ _ l1 gb405 x406000_1 true _ ?side1 ?side2 ?side3 A14.out).mono ?_); (case side1 => exact Kd.C_keep (⟨#[]⟩ : ByteArray) HR1.out (by repeat (first | (with_reducible first | exact HK.out | apply KeepBut.set_ | apply keep_drewN | apply keep_drew | apply keep_alloc | refine keep_far ?_ GW405.out _) | exact HK.out)) hf1); (case side2 => exact HC1.out); (case side3 => exact bU BK405.out); rintro e w19 ⟨rfl, hb⟩; refine ⟨_, rfl, ?_⟩; have n_ := aC (blk_below (bU BK405.out) hb) (aC (IsS140.below (by repeat (first | (with_reducible first | exact HI0.out | apply IsS140.alloc | apply IsS140.drewN | apply IsS140.drew | apply IsS140.set_1 | apply IsS140.set_2 | refine IsS140.far ?_ NB0_405.out _) | exact HI0.out)) hb) (aC (KeepBut.trans (by repeat (first | (with_reducible first | exact HK.out | apply KeepBut.set_ | apply keep_drewN | apply keep_drew | apply keep_alloc | refine keep_far ?_ GW405.out _) | exact HK.out)) (KeepBut.of_below hb g none) (.inl rfl)) (aE (below_step (by repeat (first | (with_reducible first | exact HB.out | apply below_alloc | apply pw_below_drewN | apply below_drew1 | refine below_set ?_ (IsS140.ge HI0.out) | refine below_set ?_ GE405.out) | exact HB.out)) hb)))); clear BK405 HI0 HK HB; obtain ⟨BK405, HI0, HK, HB⟩ := n_; (try clear hb); have hX_ := hXk _ HK.out) | ((with_reducible refine gf 114 rfl ?_); refine gL (some 29) rfl rfl Tryd.func114 rfl #[.pointer (some ⟨g, 0, none⟩), .int .i64 1] rfl ?_; (with_reducible refine (bits_Reader_Bits.calls kj6 g s0_0 x1001_1 x1002_1 1 t408 t409 t410 t411 w0 _ ?side1 ?side2 A16.out).mono ?_); (case side1 => repeat (first | (with_reducible first | exact HI0.out | apply IsS140.alloc | apply IsS140.drewN | apply IsS140.drew | apply IsS140.set_1 | apply IsS140.set_2 | refine IsS140.far ?_ NB0_405.out _) | exact HI0.out)); (case side2 => repeat (first | (with_reducible first | exact HB.out | apply below_alloc | apply pw_below_drewN | apply below_drew1 | refine below_set ?_ (IsS140.ge HI0.out) | refine below_set ?_ GE405.out) | exact HB.out)); rintro e w20 ⟨rfl, hi, hb, hk⟩; refine ⟨_, rfl, ?_⟩; have n_ := aC (KeepBut.blk hk (g' := gb405) (o := .cells #[.string x406000_1] 9 (0, 0)) (bU BK405.out) NB405_0.out (by simp)) (aC (KeepBut.trans (by repeat (first | (with_reducible first | exact HK.out | apply KeepBut.set_ | apply keep_drewN | apply keep_drew | apply keep_alloc | refine keep_far ?_ GW405.out _) | exact HK.out)) hk (.inl rfl)) (aC hb (aE hi))); clear BK405 HK HB HI0; obtain ⟨BK405, HK, HB, HI0⟩ := n_; (try clear hb); have hnb21 := NB405_0.out; have hnc21 := NB0_405.out; obtain ⟨hcz22_0, hfz22_0⟩ := cz1f BK405.out; have hX_ := hXk _ HK.out))
         go_roundg kj6
         case measure => have := HK1.out; have := HJ6.out; omega
         case rel => exact ⟨(t410), (t411), (x406000_1 ++ (Utf8.encode (wrap32 (48 + (wrap32 (t408)))))), H', ⟨by have := HK1.out; have := HJ6.out; omega⟩, ⟨by (with_reducible repeat (first | refine blk_drewN ?_ _ | refine blk_drew ?_ | refine blk_alloc ?_ _)); refine blk_put (cs := #[.string x406000_1]) ?_ 0 _ rfl; (with_reducible repeat (first | refine blk_drewN ?_ _ | refine blk_drew ?_ | refine blk_alloc ?_ _)); exact BK405.out⟩, ⟨by repeat (first | (with_reducible first | exact HI0.out | apply IsS140.alloc | apply IsS140.drewN | apply IsS140.drew | apply IsS140.set_1 | apply IsS140.set_2 | refine IsS140.far ?_ NB0_405.out _) | exact HI0.out)⟩, ⟨by repeat (first | (with_reducible first | exact HK.out | apply KeepBut.set_ | apply keep_drewN | apply keep_drew | apply keep_alloc | refine keep_far ?_ GW405.out _) | exact HK.out)⟩, ⟨by repeat (first | (with_reducible first | exact HB.out | apply below_alloc | apply pw_below_drewN | apply below_drew1 | refine below_set ?_ (IsS140.ge HI0.out) | refine below_set ?_ GE405.out) | exact HB.out)⟩⟩
        ·rw [if_neg c18] at H
         exact absurd H (by simp)
       ·rw [if_neg c17] at H
        have c17b0 := beq_eq_false_iff_ne.mpr c17
        have c17b1 := bne_iff_ne.mpr c17
        simp only [Option.some.injEq, Prod.mk.injEq] at H
        obtain ⟨rfl, rfl, rfl, rfl⟩ := H
        have hX_ := hXk _ HK.out
        go_wp2_with (first | ((with_reducible refine gf 117 rfl ?_); refine gL (some 22) rfl rfl Tryd.func117 rfl #[.slice A1 l1.length c1, .func (.func 118) #[] #[.pointer (some ⟨gb405, 0, none⟩)]] rfl ?_; (with_reducible refine (slices_ContainsFunc_string_string_118.calls kj6 _ _ l1 gb405 x406000_1 true _ ?side1 ?side2 ?side3 A14.out).mono ?_); (case side1 => exact Kd.C_keep (⟨#[]⟩ : ByteArray) HR1.out (by repeat (first | (with_reducible first | exact HK.out | apply KeepBut.set_ | apply keep_drewN | apply keep_drew | apply keep_alloc | refine keep_far ?_ GW405.out _) | exact HK.out)) hf1); (case side2 => exact HC1.out); (case side3 => exact bU BK405.out); rintro e w23 ⟨rfl, hb⟩; refine ⟨_, rfl, ?_⟩; have n_ := aC (blk_below (bU BK405.out) hb) (aC (IsS140.below (by repeat (first | (with_reducible first | exact HI0.out | apply IsS140.alloc | apply IsS140.drewN | apply IsS140.drew | apply IsS140.set_1 | apply IsS140.set_2 | refine IsS140.far ?_ NB0_405.out _) | exact HI0.out)) hb) (aC (KeepBut.trans (by repeat (first | (with_reducible first | exact HK.out | apply KeepBut.set_ | apply keep_drewN | apply keep_drew | apply keep_alloc | refine keep_far ?_ GW405.out _) | exact HK.out)) (KeepBut.of_below hb g none) (.inl rfl)) (aE (below_step (by repeat (first | (with_reducible first | exact HB.out | apply below_alloc | apply pw_below_drewN | apply below_drew1 | refine below_set ?_ (IsS140.ge HI0.out) | refine below_set ?_ GE405.out) | exact HB.out)) hb)))); clear BK405 HI0 HK HB; obtain ⟨BK405, HI0, HK, HB⟩ := n_; (try clear hb); have hX_ := hXk _ HK.out) | ((with_reducible refine gf 114 rfl ?_); refine gL (some 29) rfl rfl Tryd.func114 rfl #[.pointer (some ⟨g, 0, none⟩), .int .i64 1] rfl ?_; (with_reducible refine (bits_Reader_Bits.calls kj6 g s0_0 x1001_1 x1002_1 1 t408 t409 t410 t411 w0 _ ?side1 ?side2 A16.out).mono ?_); (case side1 => repeat (first | (with_reducible first | exact HI0.out | apply IsS140.alloc | apply IsS140.drewN | apply IsS140.drew | apply IsS140.set_1 | apply IsS140.set_2 | refine IsS140.far ?_ NB0_405.out _) | exact HI0.out)); (case side2 => repeat (first | (with_reducible first | exact HB.out | apply below_alloc | apply pw_below_drewN | apply below_drew1 | refine below_set ?_ (IsS140.ge HI0.out) | refine below_set ?_ GE405.out) | exact HB.out)); rintro e w24 ⟨rfl, hi, hb, hk⟩; refine ⟨_, rfl, ?_⟩; have n_ := aC (KeepBut.blk hk (g' := gb405) (o := .cells #[.string x406000_1] 9 (0, 0)) (bU BK405.out) NB405_0.out (by simp)) (aC (KeepBut.trans (by repeat (first | (with_reducible first | exact HK.out | apply KeepBut.set_ | apply keep_drewN | apply keep_drew | apply keep_alloc | refine keep_far ?_ GW405.out _) | exact HK.out)) hk (.inl rfl)) (aC hb (aE hi))); clear BK405 HK HB HI0; obtain ⟨BK405, HK, HB, HI0⟩ := n_; (try clear hb); have hX_ := hXk _ HK.out))
        go_ret2
        exact ⟨re, by repeat (first | (with_reducible first | exact HI0.out | apply IsS140.alloc | apply IsS140.drewN | apply IsS140.drew | apply IsS140.set_1 | apply IsS140.set_2 | refine IsS140.far ?_ NB0_405.out _) | exact HI0.out), by repeat (first | (with_reducible first | exact HB.out | apply below_alloc | apply pw_below_drewN | apply below_drew1 | refine below_set ?_ (IsS140.ge HI0.out) | refine below_set ?_ GE405.out) | exact HB.out), by repeat (first | (with_reducible first | exact HK.out | apply KeepBut.set_ | apply keep_drewN | apply keep_drew | apply keep_alloc | refine keep_far ?_ GW405.out _) | exact HK.out)⟩
      ·replace c15 := Bool.eq_false_iff.mpr c15
       subst c15
       have H1 : (some (0, 3, x1001_1, x1002_1)) = some (r1, r2, r3, r4) := by rw [if_neg (show ¬ (false = true) by decide)] at H; exact H
       clear H
       have H := H1
       clear H1
       simp only [Option.some.injEq, Prod.mk.injEq] at H
       obtain ⟨rfl, rfl, rfl, rfl⟩ := H
       have hX_ := hXk _ HK.out
       go_wp2_with (first | ((with_reducible refine gf 117 rfl ?_); refine gL (some 22) rfl rfl Tryd.func117 rfl #[.slice A1 l1.length c1, .func (.func 118) #[] #[.pointer (some ⟨gb405, 0, none⟩)]] rfl ?_; (with_reducible refine (slices_ContainsFunc_string_string_118.calls kj6 _ _ l1 gb405 x406000_1 false _ ?side1 ?side2 ?side3 A14.out).mono ?_); (case side1 => exact Kd.C_keep (⟨#[]⟩ : ByteArray) HR1.out (by repeat (first | (with_reducible first | exact HK.out | apply KeepBut.set_ | apply keep_drewN | apply keep_drew | apply keep_alloc | refine keep_far ?_ GW405.out _) | exact HK.out)) hf1); (case side2 => exact HC1.out); (case side3 => exact bU BK405.out); rintro e w25 ⟨rfl, hb⟩; refine ⟨_, rfl, ?_⟩; have n_ := aC (blk_below (bU BK405.out) hb) (aC (IsS140.below (by repeat (first | (with_reducible first | exact HI0.out | apply IsS140.alloc | apply IsS140.drewN | apply IsS140.drew | apply IsS140.set_1 | apply IsS140.set_2 | refine IsS140.far ?_ NB0_405.out _) | exact HI0.out)) hb) (aC (KeepBut.trans (by repeat (first | (with_reducible first | exact HK.out | apply KeepBut.set_ | apply keep_drewN | apply keep_drew | apply keep_alloc | refine keep_far ?_ GW405.out _) | exact HK.out)) (KeepBut.of_below hb g none) (.inl rfl)) (aE (below_step (by repeat (first | (with_reducible first | exact HB.out | apply below_alloc | apply pw_below_drewN | apply below_drew1 | refine below_set ?_ (IsS140.ge HI0.out) | refine below_set ?_ GE405.out) | exact HB.out)) hb)))); clear BK405 HI0 HK HB; obtain ⟨BK405, HI0, HK, HB⟩ := n_; (try clear hb); have hX_ := hXk _ HK.out))
       go_ret2
       exact ⟨re, by repeat (first | (with_reducible first | exact HI0.out | apply IsS140.alloc | apply IsS140.drewN | apply IsS140.drew | apply IsS140.set_1 | apply IsS140.set_2 | refine IsS140.far ?_ NB0_405.out _) | exact HI0.out), by repeat (first | (with_reducible first | exact HB.out | apply below_alloc | apply pw_below_drewN | apply below_drew1 | refine below_set ?_ (IsS140.ge HI0.out) | refine below_set ?_ GE405.out) | exact HB.out), by repeat (first | (with_reducible first | exact HK.out | apply KeepBut.set_ | apply keep_drewN | apply keep_drew | apply keep_alloc | refine keep_far ?_ GW405.out _) | exact HK.out)⟩

/-! ### runs_reader_number: function 98 -/
def runs_reader_number.f (k : Nat) (s0_0 : List Int) (s0_1 : Int) (s0_2 : Bool) (l1_0 : List (S87)) (l1_1 : List ByteArray) : Option (Int × Int × Int × Bool) := (runs_reader_word.f k s0_0 s0_1 s0_2 l1_1).bind fun bt413 => (if bt413.2.1 = 0 then (if 0 ≤ bt413.1 then (if bt413.1 < (l1_0.length : Int) then ((bits_Reader_Bits.f k s0_0 bt413.2.2.1 bt413.2.2.2 ((rd_T87 l1_0 bt413.1).f1)).bind fun bt418 => (some (wrap64 (bt418.1 + ((rd_T87 l1_0 bt413.1).f2)), bt418.2.1, bt418.2.2.1, bt418.2.2.2))) else (none)) else (none)) else (some (0, bt413.2.1, bt413.2.2.1, bt413.2.2.2)))
theorem runs_reader_number.mono : ∀ a0 a1 a2 a3 a4 k, LeO (runs_reader_number.f k a0 a1 a2 a3 a4) (runs_reader_number.f (k + 1) a0 a1 a2 a3 a4) := by
 intro a0 a1 a2 a3 a4 k
 unfold runs_reader_number.f
 repeat' first
   | (with_reducible exact bits_Reader_Bits.mono _ _ _ _ _)
   | (with_reducible exact runs_reader_word.mono _ _ _ _ _)
   | (with_reducible first | exact LeO.refl _ | exact LeO.none _ | refine LeO.ite ?_ ?_ | refine LeO.bind ?_ (fun _ => ?_))
   | exact bits_Reader_Bits.mono _ _ _ _ _
   | exact runs_reader_word.mono _ _ _ _ _
   | exact LeO.none _ | refine LeO.ite ?_ ?_ | refine LeO.bind ?_ (fun _ => ?_)
def runs_reader_number.T4 : Bool × List (List Nat × List Nat) := (true, [([], []), ([0], [0]), ([1], [1]), ([2], [2]), ([], []), ([4], [4]), ([], []), ([5, 6], [5, 6]), ([7], [7]), ([8], [8]), ([3, 9], [3, 9]), ([10], [10]), ([11], [11]), ([11], [11]), ([12, 10, 0, 1, 2, 3, 4, 5, 6, 7, 8, 9, 10, 11, 12], [12]), ([13, 14, 0, 1, 2, 3, 4, 5, 6, 7, 8, 9, 10, 11, 12, 13, 14], [13])])
def runs_reader_number.B4 : List Nat := [0, 1, 3, 7, 0, 16, 0, 112, 240, 496, 1023, 2047, 4095, 4095, 8191, 32767]
theorem runs_reader_number.tab4 : rtab .any (opsOf Tryd.f98 4) = runs_reader_number.T4 := by kernel_rfl
theorem runs_reader_number.bits4 : waitsOk runs_reader_number.T4.2 runs_reader_number.B4 = true := by kernel_rfl
set_option maxHeartbeats 8000000 in
set_option maxRecDepth 100000 in
theorem runs_reader_number.calls (k : Nat) (g : Nat) (s0_0 : List Int) (s0_1 : Int) (s0_2 : Bool) (A1_0 : Option Addr) (c1_0 : Nat) (l1_0 : List (S87)) (A1_1 : Option Addr) (c1_1 : Nat) (l1_1 : List ByteArray) (r1 : Int) (r2 : Int) (r3 : Int) (r4 : Bool) (w0 w : World) (hI : IsS140 w0 w g s0_0 s0_1 s0_2) (hB : Below w0.heap.size w0 w) (hr1_0 : ∀ W_, KeepBut w W_ g none → Kd.C k87 W_ A1_0 l1_0.length l1_0) (hc1_0 : l1_0.length ≤ c1_0) (hr1_1 : Kd.C Kd.string w A1_1 l1_1.length l1_1) (hc1_1 : l1_1.length ≤ c1_1) (hf1_1 : ∀ ad, A1_1 = some ad → 0 < l1_1.length → ad.block ≠ g) (gx : Nat) (hXk : ∀ W_ : World, KeepBut w W_ g none → W_.cell? ⟨gx, 0, none⟩ = some (.pointer (some ⟨g, 0, none⟩))) (h : runs_reader_number.f k s0_0 s0_1 s0_2 l1_0 l1_1 = some (r1, r2, r3, r4)) :
  Calls Tryd.prog 98 #[.pointer (some ⟨gx, 0, none⟩), .agg #[.slice A1_0 l1_0.length c1_0, .slice A1_1 l1_1.length c1_1]] w fun e w' => e = .returned (.tuple #[.int .i64 r1, .int .i64 r2]) ∧ IsS140 w0 w' g s0_0 r3 r4 ∧ Below w0.heap.size w0 w' ∧ KeepBut w w' g none := by
 have hu110 := Tryd.underlying110
 have hu107 := Tryd.underlying107
 have HR1_0 := Aside0.mk hr1_0
 have HC1_0 := Aside0.mk hc1_0
 clear hr1_0 hc1_0
 have HR1_1 := Aside0.mk hr1_1
 have HC1_1 := Aside0.mk hc1_1
 clear hr1_1 hc1_1
 have HI0 := Aside0.mk hI
 have HK := Aside0.mk (KeepBut.refl w g none)
 have HL := Aside0.mk hB.size
 clear hI
 have HW0 := Aside0.mk hB.size
 have HB := Aside0.mk hB
 clear hB
 have H : ((runs_reader_word.f k s0_0 s0_1 s0_2 l1_1).bind fun bt413 => (if bt413.2.1 = 0 then (if 0 ≤ bt413.1 then (if bt413.1 < (l1_0.length : Int) then ((bits_Reader_Bits.f k s0_0 bt413.2.2.1 bt413.2.2.2 ((rd_T87 l1_0 bt413.1).f1)).bind fun bt418 => (some (wrap64 (bt418.1 + ((rd_T87 l1_0 bt413.1).f2)), bt418.2.1, bt418.2.2.1, bt418.2.2.2))) else (none)) else (none)) else (some (0, bt413.2.1, bt413.2.2.1, bt413.2.2.2)))) = some (r1, r2, r3, r4) := h
 clear h
 replace H := Option.bind_eq_some_iff.mp H
 obtain ⟨⟨t413, t414, t415, t416⟩, A30, H⟩ := H
 replace H : (if t414 = 0 then (if 0 ≤ t413 then (if t413 < (l1_0.length : Int) then ((bits_Reader_Bits.f k s0_0 t415 t416 ((rd_T87 l1_0 t413).f1)).bind fun bt418 => (some (wrap64 (bt418.1 + ((rd_T87 l1_0 t413).f2)), bt418.2.1, bt418.2.2.1, bt418.2.2.2))) else (none)) else (none)) else (some (0, t414, t415, t416))) = some (r1, r2, r3, r4) := H
 have A3 := Aside0.mk A30
 clear A30
 by_cases c4 : t414 = 0
 ·rw [if_pos c4] at H
  have c4b0 := beq_iff_eq.mpr c4
  have c4b1 := bne_eq_false_iff_eq.mpr c4
  clear c4
  by_cases c5 : 0 ≤ t413
  ·rw [if_pos c5] at H
   have c5b0 := decide_eq_true c5
   clear c5
   by_cases c6 : t413 < (l1_0.length : Int)
   ·rw [if_pos c6] at H
    have c6b0 := decide_eq_true c6
    clear c6
    replace H := Option.bind_eq_some_iff.mp H
    obtain ⟨⟨t418, t419, t420, t421⟩, A70, H⟩ := H
    replace H : (some (wrap64 (t418 + ((rd_T87 l1_0 t413).f2)), t419, t420, t421)) = some (r1, r2, r3, r4) := H
    have A7 := Aside0.mk A70
    clear A70
    simp only [Option.some.injEq, Prod.mk.injEq] at H
    obtain ⟨rfl, rfl, rfl, rfl⟩ := H
    go_enter Tryd.func98, Tryd.ntmps98
    have hX_ := hXk _ HK.out
    try go_wp2_with (first | ((with_reducible refine gd 3 rfl ?_); refine bx 3 #[.slice A1_0 l1_0.length c1_0, .slice A1_1 l1_1.length c1_1] 107 rfl rfl ?_; intro gb412 hg w8 hbox hb; have n_ := aC (IsS140.below (by repeat (first | (with_reducible first | exact HI0.out | apply IsS140.alloc | apply IsS140.drewN | apply IsS140.drew | apply IsS140.set_1 | apply IsS140.set_2) | exact HI0.out)) hb) (aC (KeepBut.trans (by repeat (first | (with_reducible first | exact HK.out | apply KeepBut.set_ | apply keep_drewN | apply keep_drew | apply keep_alloc) | exact HK.out)) (KeepBut.of_below hb g none) (.inl rfl)) (aC (below_step (by repeat (first | (with_reducible first | exact HB.out | apply below_alloc | apply pw_below_drewN | apply below_drew1 | refine below_set ?_ (IsS140.ge HI0.out)) | exact HB.out)) hb) (aC hbox (aC ((by rw [hg]; exact (keep_size (w := w) (g := g) (row := none) (by repeat (first | (with_reducible first | exact HK.out | apply KeepBut.set_ | apply keep_drewN | apply keep_drew | apply keep_alloc) | exact HK.out))) : w.heap.size ≤ gb412)) (aC ((Nat.le_trans HW0.out (by rw [hg]; exact (keep_size (w := w) (g := g) (row := none) (by repeat (first | (with_reducible first | exact HK.out | apply KeepBut.set_ | apply keep_drewN | apply keep_drew | apply keep_alloc) | exact HK.out))) : w.heap.size ≤ gb412) : w0.heap.size ≤ gb412)) (aC ((by rw [hg]; exact Nat.ne_of_lt (IsS140.lt (show IsS140 w0 _ g s0_0 s0_1 s0_2 from by repeat (first | (with_reducible first | exact HI0.out | apply IsS140.alloc | apply IsS140.drewN | apply IsS140.drew | apply IsS140.set_1 | apply IsS140.set_2) | exact HI0.out))) : g ≠ gb412)) (aE ((by rw [hg]; exact Nat.ne_of_gt (IsS140.lt (show IsS140 w0 _ g s0_0 s0_1 s0_2 from by repeat (first | (with_reducible first | exact HI0.out | apply IsS140.alloc | apply IsS140.drewN | apply IsS140.drew | apply IsS140.set_1 | apply IsS140.set_2) | exact HI0.out))) : gb412 ≠ g))))))))); clear HI0 HK HB; obtain ⟨HI0, HK, HB, BK412, GW412, GE412, NB0_412, NB412_0⟩ := n_; clear hb hbox hg; have hnb9 := NB412_0.out; have hnc9 := NB0_412.out; obtain ⟨hcz10_0, hcz10_1, hfz10_0, hfz10_1⟩ := cz2f BK412.out; have hX_ := hXk _ HK.out) | ((with_reducible refine gf 102 rfl ?_); refine gL (some 13) rfl rfl Tryd.func102 rfl #[.pointer (some ⟨gx, 0, none⟩), .slice A1_1 l1_1.length c1_1] rfl ?_; (with_reducible refine (runs_reader_word.calls k g s0_0 s0_1 s0_2 _ _ l1_1 t413 t414 t415 t416 w0 _ ?side1 ?side2 ?side3 ?side4 ?side5 gx (fun W_ h_ => hXk W_ (KeepBut.trans (by repeat (first | (with_reducible first | exact HK.out | apply KeepBut.set_ | apply keep_drewN | apply keep_drew | apply keep_alloc | refine keep_far ?_ GW412.out _) | exact HK.out)) h_ (.inl rfl))) A3.out).mono ?_); (case side1 => repeat (first | (with_reducible first | exact HI0.out | apply IsS140.alloc | apply IsS140.drewN | apply IsS140.drew | apply IsS140.set_1 | apply IsS140.set_2 | refine IsS140.far ?_ NB0_412.out _) | exact HI0.out)); (case side2 => repeat (first | (with_reducible first | exact HB.out | apply below_alloc | apply pw_below_drewN | apply below_drew1 | refine below_set ?_ (IsS140.ge HI0.out) | refine below_set ?_ GE412.out) | exact HB.out)); (case side3 => exact Kd.C_keep (⟨#[]⟩ : ByteArray) HR1_1.out (by repeat (first | (with_reducible first | exact HK.out | apply KeepBut.set_ | apply keep_drewN | apply keep_drew | apply keep_alloc | refine keep_far ?_ GW412.out _) | exact HK.out)) hf1_1); (case side4 => exact HC1_1.out); (case side5 => exact hf1_1); rintro e w11 ⟨rfl, hi, hb, hk⟩; refine ⟨_, rfl, ?_⟩; have n_ := aC (KeepBut.blk hk (g' := gb412) (o := .cells #[.slice A1_0 l1_0.length c1_0, .slice A1_1 l1_1.length c1_1] 107 (0, 0)) (bU BK412.out) NB412_0.out (by simp)) (aC (KeepBut.trans (by repeat (first | (with_reducible first | exact HK.out | apply KeepBut.set_ | apply keep_drewN | apply keep_drew | apply keep_alloc | refine keep_far ?_ GW412.out _) | exact HK.out)) hk (.inl rfl)) (aC hb (aE hi))); clear BK412 HK HB HI0; obtain ⟨BK412, HK, HB, HI0⟩ := n_; (try clear hb); have hX_ := hXk _ HK.out))
    have n_ := aC (blk_drew BK412.out) (aC (IsS140.drew HI0.out) (aC (keep_drew HK.out) (aE (below_drew1 HB.out))))
    clear BK412 HI0 HK HB
    obtain ⟨BK412, HI0, HK, HB⟩ := n_
    have p417 : 0 ≤ (t413 : Int) := dt
    have q417 : t413 < (l1_0.length : Int) := dt
    obtain ⟨ad417, e417, hx417_0, hx417_1, hx417_2, hx417_3⟩ := at_T87 (Kd.C_foot_now HR1_0.out HK.out) t413 p417 q417
    have hw417_3 := hx417_3
    have hw417_2 := hx417_2
    have hw417_1 := hx417_1
    have hw417_0 := hx417_0
    cases e417
    have hne417_3 := (show (⟨(ad417.add ((t413).toNat * 4)).block, (ad417.add ((t413).toNat * 4)).off + 3, none⟩ : Addr).block ≠ g from by first | (rw [add_block]; exact Kd.foot_ne HR1_0.out (by omega) (by decide)) | (show (Addr.add _ _).block ≠ _; rw [add_block]; exact Kd.foot_ne HR1_0.out (by omega) (by decide)) | exact Kd.foot_ne HR1_0.out (by omega) (by decide) | (dsimp only; exact Kd.foot_ne HR1_0.out (by omega) (by decide)))
    have hlt417_3 := (Kd.foot_lt HR1_0.out (by omega) (by decide))
    have hne417_2 := (show (⟨(ad417.add ((t413).toNat * 4)).block, (ad417.add ((t413).toNat * 4)).off + 2, none⟩ : Addr).block ≠ g from by first | (rw [add_block]; exact Kd.foot_ne HR1_0.out (by omega) (by decide)) | (show (Addr.add _ _).block ≠ _; rw [add_block]; exact Kd.foot_ne HR1_0.out (by omega) (by decide)) | exact Kd.foot_ne HR1_0.out (by omega) (by decide) | (dsimp only; exact Kd.foot_ne HR1_0.out (by omega) (by decide)))
    have hlt417_2 := (Kd.foot_lt HR1_0.out (by omega) (by decide))
    have hne417_1 := (show (⟨(ad417.add ((t413).toNat * 4)).block, (ad417.add ((t413).toNat * 4)).off + 1, none⟩ : Addr).block ≠ g from by first | (rw [add_block]; exact Kd.foot_ne HR1_0.out (by omega) (by decide)) | (show (Addr.add _ _).block ≠ _; rw [add_block]; exact Kd.foot_ne HR1_0.out (by omega) (by decide)) | exact Kd.foot_ne HR1_0.out (by omega) (by decide) | (dsimp only; exact Kd.foot_ne HR1_0.out (by omega) (by decide)))
    have hlt417_1 := (Kd.foot_lt HR1_0.out (by omega) (by decide))
    have hne417_0 := (show ((ad417.add ((t413).toNat * 4)) : Addr).block ≠ g from by first | (rw [add_block]; exact Kd.foot_ne HR1_0.out (by omega) (by decide)) | (show (Addr.add _ _).block ≠ _; rw [add_block]; exact Kd.foot_ne HR1_0.out (by omega) (by decide)) | exact Kd.foot_ne HR1_0.out (by omega) (by decide) | (dsimp only; exact Kd.foot_ne HR1_0.out (by omega) (by decide)))
    have hlt417_0 := (Kd.foot_lt HR1_0.out (by omega) (by decide))
    replace p417 := eq_true p417
    replace q417 := eq_true q417
    refine st 16 (fun w' => w'.cell? ⟨gb412, 0, none⟩ = some (.slice (some ad417) l1_0.length c1_0) ∧ w'.cell? ⟨gb412, 1, none⟩ = some (.slice A1_1 l1_1.length c1_1) ∧ w'.cell? (ad417.add ((t413).toNat * 4)) = some (.int .i64 ((rd_T87 l1_0 t413).f0)) ∧ w'.cell? ⟨(ad417.add ((t413).toNat * 4)).block, (ad417.add ((t413).toNat * 4)).off + 1, none⟩ = some (.int .i64 ((rd_T87 l1_0 t413).f1)) ∧ w'.cell? ⟨(ad417.add ((t413).toNat * 4)).block, (ad417.add ((t413).toNat * 4)).off + 2, none⟩ = some (.int .i64 ((rd_T87 l1_0 t413).f2)) ∧ w'.cell? ⟨(ad417.add ((t413).toNat * 4)).block, (ad417.add ((t413).toNat * 4)).off + 3, none⟩ = some (.int .i64 ((rd_T87 l1_0 t413).f3)) ∧ w'.cell? ⟨gx, 0, none⟩ = some (.pointer (some ⟨g, 0, none⟩))) [] (bv 16 0) runs_reader_number.tab4 runs_reader_number.bits4 ⟨kc0 BK412.out, kc1 BK412.out, hx417_0, hx417_1, hx417_2, hx417_3, (hXk _ HK.out)⟩ (fun hHeld HT_ HW_ => ?_)
    generalize w11.drew = w12 at BK412 HI0 HK HB hx417_0 hx417_1 hx417_2 hx417_3 hHeld ⊢
    refine pu 0 20 (bv 16 1) HT_ rfl rfl ?_
    refine pu 1 21 (bv 16 3) HT_ rfl rfl ?_
    refine pu 2 22 (bv 16 7) HT_ rfl rfl ?_
    refine pu 4 24 (bv 16 23) HT_ rfl rfl ?_
    refine pu 6 26 (bv 16 87) HT_ rfl rfl ?_
    refine tk 3 23 (bv 16 95) HT_ HW_ hHeld rfl rfl (by rintro w' ⟨s0, s1, s2, s3, s4, s5, s99⟩; exact yl) ?_
    refine tk 5 25 (bv 16 127) HT_ HW_ hHeld rfl rfl (by rintro w' ⟨s0, s1, s2, s3, s4, s5, s99⟩; exact yl) ?_
    refine pu 7 27 (bv 16 255) HT_ rfl rfl ?_
    refine pu 8 28 (bv 16 511) HT_ rfl rfl ?_
    refine tk 9 29 (bv 16 1023) HT_ HW_ hHeld rfl rfl (by rintro w' ⟨s0, s1, s2, s3, s4, s5, s99⟩; exact yl) ?_
    refine one_ (i := 10) (N := some 30) (bv 16 2047) rfl rfl (one_of HT_.out (by kernel_rfl)) (by decide) (fun K hK => ?_)
    refine gK Tryd.func114 rfl #[.pointer (some ⟨g, 0, none⟩), .int .i64 ((rd_T87 l1_0 t413).f1)] rfl rfl ?_
    with_reducible refine (bits_Reader_Bits.calls k g s0_0 t415 t416 ((rd_T87 l1_0 t413).f1) t418 t419 t420 t421 w0 _ ?side1 ?side2 A7.out).mono ?_
    (case side1 => repeat (first | (with_reducible first | exact HI0.out | apply IsS140.alloc | apply IsS140.drewN | apply IsS140.drew | apply IsS140.set_1 | apply IsS140.set_2 | refine IsS140.far ?_ NB0_412.out _) | exact HI0.out))
    (case side2 => repeat (first | (with_reducible first | exact HB.out | apply below_alloc | apply pw_below_drewN | apply below_drew1 | refine below_set ?_ (IsS140.ge HI0.out) | refine below_set ?_ GE412.out) | exact HB.out))
    rintro e w13 ⟨rfl, hi, hb, hk⟩
    have HS2_ := keep_cell hk (hHeld.2.2.1) (by first | (rw [add_block]; exact hne417_0) | (show (Addr.add _ _).block ≠ _; rw [add_block]; exact hne417_0) | exact hne417_0)
    have HS3_ := keep_cell hk (hHeld.2.2.2.1) (by first | (rw [add_block]; exact hne417_1) | (show (Addr.add _ _).block ≠ _; rw [add_block]; exact hne417_1) | exact hne417_1)
    have HS4_ := keep_cell hk (hHeld.2.2.2.2.1) (by first | (rw [add_block]; exact hne417_2) | (show (Addr.add _ _).block ≠ _; rw [add_block]; exact hne417_2) | exact hne417_2)
    have HS5_ := keep_cell hk (hHeld.2.2.2.2.2.1) (by first | (rw [add_block]; exact hne417_3) | (show (Addr.add _ _).block ≠ _; rw [add_block]; exact hne417_3) | exact hne417_3)
    refine ⟨_, rfl, ?_⟩
    have n_ := aC (KeepBut.blk hk (g' := gb412) (o := .cells #[.slice (some ad417) l1_0.length c1_0, .slice A1_1 l1_1.length c1_1] 107 (0, 0)) (bU BK412.out) NB412_0.out (by simp)) (aC (KeepBut.trans (by repeat (first | (with_reducible first | exact HK.out | apply KeepBut.set_ | apply keep_drewN | apply keep_drew | apply keep_alloc | refine keep_far ?_ GW412.out _) | exact HK.out)) hk (.inl rfl)) (aC hb (aE hi)))
    clear BK412 HK HB HI0
    obtain ⟨BK412, HK, HB, HI0⟩ := n_
    (try clear hb)
    (try clear hb2)
    (try clear hk)
    (try clear hi)
    refine hK.out _ _ ⟨kc0 BK412.out, kc1 BK412.out, HS2_, HS3_, HS4_, HS5_, (hXk _ HK.out)⟩ (fun hHeld => ?_)
    clear hK K
    refine nm (some 30) ?_
    refine pu 11 19 (bv 16 4095) HT_ rfl rfl ?_
    refine pu 12 31 (bv 16 8191) HT_ rfl rfl ?_
    refine pu 13 32 (bv 16 16383) HT_ rfl rfl ?_
    refine pu 14 8 (bv 16 32767) HT_ rfl rfl ?_
    refine pu 15 7 (bv 16 65535) HT_ rfl rfl ?_
    refine done_ (done_of HT_.out (by kernel_rfl)) ?_
    obtain ⟨hcz14_0, hcz14_1, hfz14_0, hfz14_1⟩ := cz2f BK412.out
    have p422 : 0 ≤ (t413 : Int) := dt
    have q422 : t413 < (l1_0.length : Int) := dt
    obtain ⟨ad422, e422, hx422_0, hx422_1, hx422_2, hx422_3⟩ := at_T87 (Kd.C_foot_now HR1_0.out HK.out) t413 p422 q422
    obtain rfl : ad417 = ad422 := (by injection e422)
    replace p422 := eq_true p422
    replace q422 := eq_true q422
    have hX_ := hXk _ HK.out
    try go_wp2
    go_ret2
    exact ⟨re, by repeat (first | (with_reducible first | exact HI0.out | apply IsS140.alloc | apply IsS140.drewN | apply IsS140.drew | apply IsS140.set_1 | apply IsS140.set_2 | refine IsS140.far ?_ NB0_412.out _) | exact HI0.out), by repeat (first | (with_reducible first | exact HB.out | apply below_alloc | apply pw_below_drewN | apply below_drew1 | refine below_set ?_ (IsS140.ge HI0.out) | refine below_set ?_ GE412.out) | exact HB.out), by repeat (first | (with_reducible first | exact HK.out | apply KeepBut.set_ | apply keep_drewN | apply keep_drew | apply keep_alloc | refine keep_far ?_ GW412.out _) | exact HK.out)⟩
   ·rw [if_neg c6] at H
    exact absurd H (by simp)
  ·rw [if_neg c5] at H
   exact absurd H (by simp)
 ·rw [if_neg c4] at H
  have c4b0 := beq_eq_false_iff_ne.mpr c4
  have c4b1 := bne_iff_ne.mpr c4
  simp only [Option.some.injEq, Prod.mk.injEq] at H
  obtain ⟨rfl, rfl, rfl, rfl⟩ := H
  go_enter Tryd.func98, Tryd.ntmps98
  have hX_ := hXk _ HK.out
  go_wp2_with (first | ((with_reducible refine gd 3 rfl ?_); refine bx 3 #[.slice A1_0 l1_0.length c1_0, .slice A1_1 l1_1.length c1_1] 107 rfl rfl ?_; intro gb412 hg w15 hbox hb; have n_ := aC (IsS140.below (by repeat (first | (with_reducible first | exact HI0.out | apply IsS140.alloc | apply IsS140.drewN | apply IsS140.drew | apply IsS140.set_1 | apply IsS140.set_2) | exact HI0.out)) hb) (aC (KeepBut.trans (by repeat (first | (with_reducible first | exact HK.out | apply KeepBut.set_ | apply keep_drewN | apply keep_drew | apply keep_alloc) | exact HK.out)) (KeepBut.of_below hb g none) (.inl rfl)) (aC (below_step (by repeat (first | (with_reducible first | exact HB.out | apply below_alloc | apply pw_below_drewN | apply below_drew1 | refine below_set ?_ (IsS140.ge HI0.out)) | exact HB.out)) hb) (aC hbox (aC ((by rw [hg]; exact (keep_size (w := w) (g := g) (row := none) (by repeat (first | (with_reducible first | exact HK.out | apply KeepBut.set_ | apply keep_drewN | apply keep_drew | apply keep_alloc) | exact HK.out))) : w.heap.size ≤ gb412)) (aC ((Nat.le_trans HW0.out (by rw [hg]; exact (keep_size (w := w) (g := g) (row := none) (by repeat (first | (with_reducible first | exact HK.out | apply KeepBut.set_ | apply keep_drewN | apply keep_drew | apply keep_alloc) | exact HK.out))) : w.heap.size ≤ gb412) : w0.heap.size ≤ gb412)) (aC ((by rw [hg]; exact Nat.ne_of_lt (IsS140.lt (show IsS140 w0 _ g s0_0 s0_1 s0_2 from by repeat (first | (with_reducible first | exact HI0.out | apply IsS140.alloc | apply IsS140.drewN | apply IsS140.drew | apply IsS140.set_1 | apply IsS140.set_2) | exact HI0.out))) : g ≠ gb412)) (aE ((by rw [hg]; exact Nat.ne_of_gt (IsS140.lt (show IsS140 w0 _ g s0_0 s0_1 s0_2 from by repeat (first | (with_reducible first | exact HI0.out | apply IsS140.alloc | apply IsS140.drewN | apply IsS140.drew | apply IsS140.set_1 | apply IsS140.set_2) | exact HI0.out))) : gb412 ≠ g))))))))); clear HI0 HK HB; obtain ⟨HI0, HK, HB, BK412, GW412, GE412, NB0_412, NB412_0⟩ := n_; clear hb hbox hg; have hnb16 := NB412_0.out; have hnc16 := NB0_412.out; obtain ⟨hcz17_0, hcz17_1, hfz17_0, hfz17_1⟩ := cz2f BK412.out; have hX_ := hXk _ HK.out) | ((with_reducible refine gf 102 rfl ?_); refine gL (some 13) rfl rfl Tryd.func102 rfl #[.pointer (some ⟨gx, 0, none⟩), .slice A1_1 l1_1.length c1_1] rfl ?_; (with_reducible refine (runs_reader_word.calls k g s0_0 s0_1 s0_2 _ _ l1_1 t413 t414 t415 t416 w0 _ ?side1 ?side2 ?side3 ?side4 ?side5 gx (fun W_ h_ => hXk W_ (KeepBut.trans (by repeat (first | (with_reducible first | exact HK.out | apply KeepBut.set_ | apply keep_drewN | apply keep_drew | apply keep_alloc | refine keep_far ?_ GW412.out _) | exact HK.out)) h_ (.inl rfl))) A3.out).mono ?_); (case side1 => repeat (first | (with_reducible first | exact HI0.out | apply IsS140.alloc | apply IsS140.drewN | apply IsS140.drew | apply IsS140.set_1 | apply IsS140.set_2 | refine IsS140.far ?_ NB0_412.out _) | exact HI0.out)); (case side2 => repeat (first | (with_reducible first | exact HB.out | apply below_alloc | apply pw_below_drewN | apply below_drew1 | refine below_set ?_ (IsS140.ge HI0.out) | refine below_set ?_ GE412.out) | exact HB.out)); (case side3 => exact Kd.C_keep (⟨#[]⟩ : ByteArray) HR1_1.out (by repeat (first | (with_reducible first | exact HK.out | apply KeepBut.set_ | apply keep_drewN | apply keep_drew | apply keep_alloc | refine keep_far ?_ GW412.out _) | exact HK.out)) hf1_1); (case side4 => exact HC1_1.out); (case side5 => exact hf1_1); rintro e w18 ⟨rfl, hi, hb, hk⟩; refine ⟨_, rfl, ?_⟩; have n_ := aC (KeepBut.blk hk (g' := gb412) (o := .cells #[.slice A1_0 l1_0.length c1_0, .slice A1_1 l1_1.length c1_1] 107 (0, 0)) (bU BK412.out) NB412_0.out (by simp)) (aC (KeepBut.trans (by repeat (first | (with_reducible first | exact HK.out | apply KeepBut.set_ | apply keep_drewN | apply keep_drew | apply keep_alloc | refine keep_far ?_ GW412.out _) | exact HK.out)) hk (.inl rfl)) (aC hb (aE hi))); clear BK412 HK HB HI0; obtain ⟨BK412, HK, HB, HI0⟩ := n_; (try clear hb); have hX_ := hXk _ HK.out))
  go_ret2
  exact ⟨re, by repeat (first | (with_reducible first | exact HI0.out | apply IsS140.alloc | apply IsS140.drewN | apply IsS140.drew | apply IsS140.set_1 | apply IsS140.set_2 | refine IsS140.far ?_ NB0_412.out _) | exact HI0.out), by repeat (first | (with_reducible first | exact HB.out | apply below_alloc | apply pw_below_drewN | apply below_drew1 | refine below_set ?_ (IsS140.ge HI0.out) | refine below_set ?_ GE412.out) | exact HB.out), by repeat (first | (with_reducible first | exact HK.out | apply KeepBut.set_ | apply keep_drewN | apply keep_drew | apply keep_alloc | refine keep_far ?_ GW412.out _) | exact HK.out)⟩

/-! ### runs_reader_run: function 81 (by hand) -/
/-- What a reader of runs holds beside its bits: its tables and words; they stay, whatever the bits' block comes to hold. -/
def Xok (g gx : Nat) (U C0 C1 : List S87 × List ByteArray) (ws : List ByteArray) (w : World) : Prop :=
 ∃ (a1 a2 a3 a4 a5 a6 a7 : Option Addr) (c1 c2 c3 c4 c5 c6 c7 : Nat),
  (U.1.length ≤ c1 ∧ U.2.length ≤ c2 ∧ C0.1.length ≤ c3 ∧ C0.2.length ≤ c4 ∧ C1.1.length ≤ c5 ∧ C1.2.length ≤ c6 ∧ ws.length ≤ c7) ∧
  ((∀ ad, a2 = some ad → 0 < U.2.length → ad.block ≠ g) ∧ (∀ ad, a4 = some ad → 0 < C0.2.length → ad.block ≠ g) ∧ (∀ ad, a6 = some ad → 0 < C1.2.length → ad.block ≠ g) ∧ (∀ ad, a7 = some ad → 0 < ws.length → ad.block ≠ g)) ∧
  ∀ W_ : World, KeepBut w W_ g none →
   W_.heap[gx]? = some (.cells #[.pointer (some ⟨g, 0, none⟩), .slice a1 U.1.length c1, .slice a2 U.2.length c2, .slice a3 C0.1.length c3, .slice a4 C0.2.length c4, .slice a5 C1.1.length c5, .slice a6 C1.2.length c6, .slice a7 ws.length c7] 110 (0, 0)) ∧
   Kd.C k87 W_ a1 U.1.length U.1 ∧ Kd.C Kd.string W_ a2 U.2.length U.2 ∧ Kd.C k87 W_ a3 C0.1.length C0.1 ∧ Kd.C Kd.string W_ a4 C0.2.length C0.2 ∧ Kd.C k87 W_ a5 C1.1.length C1.1 ∧ Kd.C Kd.string W_ a6 C1.2.length C1.2 ∧ Kd.C Kd.string W_ a7 ws.length ws
theorem Xok.keep {g gx : Nat} {U C0 C1 : List S87 × List ByteArray} {ws : List ByteArray} {w w' : World} (h : Xok g gx U C0 C1 ws w) (k : KeepBut w w' g none) : Xok g gx U C0 C1 ws w' := by
 obtain ⟨a1, a2, a3, a4, a5, a6, a7, c1, c2, c3, c4, c5, c6, c7, hl, hf, hW⟩ := h
 exact ⟨a1, a2, a3, a4, a5, a6, a7, c1, c2, c3, c4, c5, c6, c7, hl, hf, fun W_ q => hW W_ (k.trans q (.inl rfl))⟩
def runs_reader_runG.f (k : Nat) (U C0 C1 : List S87 × List ByteArray) (s0_0 : List Int) (s0_1 : Int) (s0_2 : Bool) (c : Int) : Option (Int × Int × Int × Bool) :=
 (runs_reader_number.f k s0_0 s0_1 s0_2 U.1 U.2).bind fun n => (if n.2.1 = 0 then
  ((runs_reader_number.f k s0_0 n.2.2.1 n.2.2.2 (if c = 0 then C0.1 else C1.1) (if c = 0 then C0.2 else C1.2)).bind fun m => (if m.2.1 = 0 then
   (if m.1 ≥ 64 then some (0, 3, m.2.2.1, m.2.2.2) else some (wrap64 (wrap64 (n.1 * 64) + m.1), 0, m.2.2.1, m.2.2.2)) else some (0, m.2.1, m.2.2.1, m.2.2.2)))
  else some (0, n.2.1, n.2.2.1, n.2.2.2))
set_option maxHeartbeats 8000000 in
set_option maxRecDepth 100000 in
theorem runs_reader_runG.calls (k : Nat) (g gx : Nat) (U C0 C1 : List S87 × List ByteArray) (ws : List ByteArray) (s0_0 : List Int) (s0_1 : Int) (s0_2 : Bool) (c : Int) (hc : c = 0 ∨ c = 1) (r1 r2 r3 : Int) (r4 : Bool) (w0 w : World) (hI : IsS140 w0 w g s0_0 s0_1 s0_2) (hB : Below w0.heap.size w0 w) (hX : Xok g gx U C0 C1 ws w)
  (h : runs_reader_runG.f k U C0 C1 s0_0 s0_1 s0_2 c = some (r1, r2, r3, r4)) :
  Calls Tryd.prog 81 #[.pointer (some ⟨gx, 0, none⟩), .int .i64 c] w fun e w' => e = .returned (.tuple #[.int .i64 r1, .int .i64 r2]) ∧ IsS140 w0 w' g s0_0 r3 r4 ∧ Below w0.heap.size w0 w' ∧ KeepBut w w' g none := by
 have hu110 := Tryd.underlying110
 have hu107 := Tryd.underlying107
 have hu108 := Tryd.underlying108
 unfold runs_reader_runG.f at h
 obtain ⟨⟨n1, n2, n3, n4⟩, A1, h⟩ := Option.bind_eq_some_iff.mp h
 replace h : (if n2 = 0 then _ else _) = some (r1, r2, r3, r4) := h
 obtain ⟨a1, a2, a3, a4, a5, a6, a7, c1, c2, c3, c4, c5, c6, c7, ⟨l1, l2, l3, l4, l5, l6, l7⟩, ⟨f2, f4, f6, f7⟩, hW⟩ := hX
 have HW := Aside0.mk hW
 clear hW
 have cells : ∀ W_ : World, KeepBut w W_ g none → _ := fun W_ q => cz8f (HW.out W_ q).1
 have CL := Aside0.mk cells
 clear cells
 have A1' := Aside0.mk A1
 clear A1
 have HH := Aside0.mk h
 clear h
 obtain ⟨hx0, hx1, hx2, hx3, hx4, hx5, hx6, hx7, _⟩ := CL.out w (KeepBut.refl w g none)
 have n2z : n2 = 0 ∨ n2 ≠ 0 := by omega
 rcases n2z with z | z
 ·subst z
  have hh := HH.out
  rw [if_pos rfl] at hh
  clear HH
  obtain ⟨⟨m1, m2, m3, m4⟩, A2, hh⟩ := Option.bind_eq_some_iff.mp hh
  replace hh : (if m2 = 0 then (if m1 ≥ 64 then some (0, 3, m3, m4) else some (wrap64 (wrap64 (n1 * 64) + m1), 0, m3, m4)) else some (0, m2, m3, m4)) = some (r1, r2, r3, r4) := hh
  have HH := Aside0.mk hh
  clear hh
  have A2' := Aside0.mk A2
  clear A2
  have step1 : ∀ w1 : World, KeepBut w w1 g none → IsS140 w0 w1 g s0_0 n3 n4 → Below w0.heap.size w0 w1 → ∀ (a : Option Addr) (cc : Nat) (b : Option Addr) (cb : Nat) (x : List S87) (y : List ByteArray), x.length ≤ cc → y.length ≤ cb → (∀ ad, b = some ad → 0 < y.length → ad.block ≠ g) → (∀ W_ : World, KeepBut w W_ g none → Kd.C k87 W_ a x.length x ∧ Kd.C Kd.string W_ b y.length y) →
    runs_reader_number.f k s0_0 n3 n4 x y = some (m1, m2, m3, m4) →
    Calls Tryd.prog 98 #[.pointer (some ⟨gx, 0, none⟩), .agg #[.slice a x.length cc, .slice b y.length cb]] w1 fun e w' => e = .returned (.tuple #[.int .i64 m1, .int .i64 m2]) ∧ IsS140 w0 w' g s0_0 m3 m4 ∧ Below w0.heap.size w0 w' ∧ KeepBut w w' g none := by
   intro w1 hk hi hb a cc b cb x y hx hy hbf hR hA
   refine (runs_reader_number.calls k g s0_0 n3 n4 _ _ x _ _ y m1 m2 m3 m4 w0 _ hi hb (fun W_ q => (hR W_ (hk.trans q (.inl rfl))).1) hx (hR w1 hk).2 hy hbf gx (fun W_ q => (CL.out W_ (hk.trans q (.inl rfl))).1) hA).mono ?_
   rintro e w2 ⟨h1, h2, h3, h4⟩
   exact ⟨h1, h2, h3, hk.trans h4 (.inl rfl)⟩
  have S1 := Aside0.mk step1
  clear step1
  rcases hc with z | z
  ·subst z
   have A3 := Aside0.mk (show runs_reader_number.f k s0_0 n3 n4 C0.1 C0.2 = some (m1, m2, m3, m4) from A2'.out)
   clear A2'
   by_cases q2 : m2 = 0
   ·subst q2
    have hh := HH.out
    rw [if_pos rfl] at hh
    clear HH
    by_cases q3 : m1 ≥ 64
    ·rw [if_pos q3] at hh
     have q3b : decide (64 ≤ m1) = true := decide_eq_true q3
     simp only [Option.some.injEq, Prod.mk.injEq] at hh
     obtain ⟨rfl, rfl, rfl, rfl⟩ := hh
     go_enter Tryd.func81, Tryd.ntmps81
     go_wp2_with (first | ((with_reducible refine gf 98 rfl ?_); refine gL (some 15) rfl rfl Tryd.func98 rfl #[.pointer (some ⟨gx, 0, none⟩), .agg #[.slice a1 U.1.length c1, .slice a2 U.2.length c2]] rfl ?_; (with_reducible refine (runs_reader_number.calls k g s0_0 s0_1 s0_2 _ _ U.1 _ _ U.2 n1 0 n3 n4 w0 _ hI hB (fun W_ q => (HW.out W_ q).2.1) l1 (HW.out _ (KeepBut.refl _ g none)).2.2.1 l2 f2 gx (fun W_ q => (CL.out W_ q).1) A1'.out).mono ?_); rintro e w1 ⟨rfl, hi, hb, hk⟩; refine ⟨_, rfl, ?_⟩; obtain ⟨hy0, hy1, hy2, hy3, hy4, hy5, hy6, hy7, _⟩ := CL.out w1 hk) | ((with_reducible refine gf 98 rfl ?_); refine gL (some 29) rfl rfl Tryd.func98 rfl #[.pointer (some ⟨gx, 0, none⟩), .agg #[.slice a3 C0.1.length c3, .slice a4 C0.2.length c4]] rfl ?_; (with_reducible refine (S1.out _ hk hi hb a3 c3 a4 c4 C0.1 C0.2 l3 l4 f4 (fun W_ q => ⟨(HW.out W_ q).2.2.2.1, (HW.out W_ q).2.2.2.2.1⟩) A3.out).mono ?_); rintro e w2 ⟨rfl, hi2, hb2, hk2⟩; refine ⟨_, rfl, ?_⟩))
     go_ret2
     exact ⟨re, hi2, hb2, hk2⟩
    ·rw [if_neg q3] at hh
     have q3b : decide (64 ≤ m1) = false := decide_eq_false q3
     simp only [Option.some.injEq, Prod.mk.injEq] at hh
     obtain ⟨rfl, rfl, rfl, rfl⟩ := hh
     go_enter Tryd.func81, Tryd.ntmps81
     go_wp2_with (first | ((with_reducible refine gf 98 rfl ?_); refine gL (some 15) rfl rfl Tryd.func98 rfl #[.pointer (some ⟨gx, 0, none⟩), .agg #[.slice a1 U.1.length c1, .slice a2 U.2.length c2]] rfl ?_; (with_reducible refine (runs_reader_number.calls k g s0_0 s0_1 s0_2 _ _ U.1 _ _ U.2 n1 0 n3 n4 w0 _ hI hB (fun W_ q => (HW.out W_ q).2.1) l1 (HW.out _ (KeepBut.refl _ g none)).2.2.1 l2 f2 gx (fun W_ q => (CL.out W_ q).1) A1'.out).mono ?_); rintro e w1 ⟨rfl, hi, hb, hk⟩; refine ⟨_, rfl, ?_⟩; obtain ⟨hy0, hy1, hy2, hy3, hy4, hy5, hy6, hy7, _⟩ := CL.out w1 hk) | ((with_reducible refine gf 98 rfl ?_); refine gL (some 29) rfl rfl Tryd.func98 rfl #[.pointer (some ⟨gx, 0, none⟩), .agg #[.slice a3 C0.1.length c3, .slice a4 C0.2.length c4]] rfl ?_; (with_reducible refine (S1.out _ hk hi hb a3 c3 a4 c4 C0.1 C0.2 l3 l4 f4 (fun W_ q => ⟨(HW.out W_ q).2.2.2.1, (HW.out W_ q).2.2.2.2.1⟩) A3.out).mono ?_); rintro e w2 ⟨rfl, hi2, hb2, hk2⟩; refine ⟨_, rfl, ?_⟩))
     go_ret2
     exact ⟨re, hi2, hb2, hk2⟩
   ·have hh := HH.out
    rw [if_neg q2] at hh
    have q2b : (m2 != 0) = true := by simpa using q2
    clear HH
    simp only [Option.some.injEq, Prod.mk.injEq] at hh
    obtain ⟨rfl, rfl, rfl, rfl⟩ := hh
    go_enter Tryd.func81, Tryd.ntmps81
    go_wp2_with (first | ((with_reducible refine gf 98 rfl ?_); refine gL (some 15) rfl rfl Tryd.func98 rfl #[.pointer (some ⟨gx, 0, none⟩), .agg #[.slice a1 U.1.length c1, .slice a2 U.2.length c2]] rfl ?_; (with_reducible refine (runs_reader_number.calls k g s0_0 s0_1 s0_2 _ _ U.1 _ _ U.2 n1 0 n3 n4 w0 _ hI hB (fun W_ q => (HW.out W_ q).2.1) l1 (HW.out _ (KeepBut.refl _ g none)).2.2.1 l2 f2 gx (fun W_ q => (CL.out W_ q).1) A1'.out).mono ?_); rintro e w1 ⟨rfl, hi, hb, hk⟩; refine ⟨_, rfl, ?_⟩; obtain ⟨hy0, hy1, hy2, hy3, hy4, hy5, hy6, hy7, _⟩ := CL.out w1 hk) | ((with_reducible refine gf 98 rfl ?_); refine gL (some 29) rfl rfl Tryd.func98 rfl #[.pointer (some ⟨gx, 0, none⟩), .agg #[.slice a3 C0.1.length c3, .slice a4 C0.2.length c4]] rfl ?_; (with_reducible refine (S1.out _ hk hi hb a3 c3 a4 c4 C0.1 C0.2 l3 l4 f4 (fun W_ q => ⟨(HW.out W_ q).2.2.2.1, (HW.out W_ q).2.2.2.2.1⟩) A3.out).mono ?_); rintro e w2 ⟨rfl, hi2, hb2, hk2⟩; refine ⟨_, rfl, ?_⟩))
    go_ret2
    exact ⟨re, hi2, hb2, hk2⟩
  ·subst z
   have A3 := Aside0.mk (show runs_reader_number.f k s0_0 n3 n4 C1.1 C1.2 = some (m1, m2, m3, m4) from A2'.out)
   clear A2'
   by_cases q2 : m2 = 0
   ·subst q2
    have hh := HH.out
    rw [if_pos rfl] at hh
    clear HH
    by_cases q3 : m1 ≥ 64
    ·rw [if_pos q3] at hh
     have q3b : decide (64 ≤ m1) = true := decide_eq_true q3
     simp only [Option.some.injEq, Prod.mk.injEq] at hh
     obtain ⟨rfl, rfl, rfl, rfl⟩ := hh
     go_enter Tryd.func81, Tryd.ntmps81
     go_wp2_with (first | ((with_reducible refine gf 98 rfl ?_); refine gL (some 15) rfl rfl Tryd.func98 rfl #[.pointer (some ⟨gx, 0, none⟩), .agg #[.slice a1 U.1.length c1, .slice a2 U.2.length c2]] rfl ?_; (with_reducible refine (runs_reader_number.calls k g s0_0 s0_1 s0_2 _ _ U.1 _ _ U.2 n1 0 n3 n4 w0 _ hI hB (fun W_ q => (HW.out W_ q).2.1) l1 (HW.out _ (KeepBut.refl _ g none)).2.2.1 l2 f2 gx (fun W_ q => (CL.out W_ q).1) A1'.out).mono ?_); rintro e w1 ⟨rfl, hi, hb, hk⟩; refine ⟨_, rfl, ?_⟩; obtain ⟨hy0, hy1, hy2, hy3, hy4, hy5, hy6, hy7, _⟩ := CL.out w1 hk) | ((with_reducible refine gf 98 rfl ?_); refine gL (some 29) rfl rfl Tryd.func98 rfl #[.pointer (some ⟨gx, 0, none⟩), .agg #[.slice a5 C1.1.length c5, .slice a6 C1.2.length c6]] rfl ?_; (with_reducible refine (S1.out _ hk hi hb a5 c5 a6 c6 C1.1 C1.2 l5 l6 f6 (fun W_ q => ⟨(HW.out W_ q).2.2.2.2.2.1, (HW.out W_ q).2.2.2.2.2.2.1⟩) A3.out).mono ?_); rintro e w2 ⟨rfl, hi2, hb2, hk2⟩; refine ⟨_, rfl, ?_⟩))
     go_ret2
     exact ⟨re, hi2, hb2, hk2⟩
    ·rw [if_neg q3] at hh
     have q3b : decide (64 ≤ m1) = false := decide_eq_false q3
     simp only [Option.some.injEq, Prod.mk.injEq] at hh
     obtain ⟨rfl, rfl, rfl, rfl⟩ := hh
     go_enter Tryd.func81, Tryd.ntmps81
     go_wp2_with (first | ((with_reducible refine gf 98 rfl ?_); refine gL (some 15) rfl rfl Tryd.func98 rfl #[.pointer (some ⟨gx, 0, none⟩), .agg #[.slice a1 U.1.length c1, .slice a2 U.2.length c2]] rfl ?_; (with_reducible refine (runs_reader_number.calls k g s0_0 s0_1 s0_2 _ _ U.1 _ _ U.2 n1 0 n3 n4 w0 _ hI hB (fun W_ q => (HW.out W_ q).2.1) l1 (HW.out _ (KeepBut.refl _ g none)).2.2.1 l2 f2 gx (fun W_ q => (CL.out W_ q).1) A1'.out).mono ?_); rintro e w1 ⟨rfl, hi, hb, hk⟩; refine ⟨_, rfl, ?_⟩; obtain ⟨hy0, hy1, hy2, hy3, hy4, hy5, hy6, hy7, _⟩ := CL.out w1 hk) | ((with_reducible refine gf 98 rfl ?_); refine gL (some 29) rfl rfl Tryd.func98 rfl #[.pointer (some ⟨gx, 0, none⟩), .agg #[.slice a5 C1.1.length c5, .slice a6 C1.2.length c6]] rfl ?_; (with_reducible refine (S1.out _ hk hi hb a5 c5 a6 c6 C1.1 C1.2 l5 l6 f6 (fun W_ q => ⟨(HW.out W_ q).2.2.2.2.2.1, (HW.out W_ q).2.2.2.2.2.2.1⟩) A3.out).mono ?_); rintro e w2 ⟨rfl, hi2, hb2, hk2⟩; refine ⟨_, rfl, ?_⟩))
     go_ret2
     exact ⟨re, hi2, hb2, hk2⟩
   ·have hh := HH.out
    rw [if_neg q2] at hh
    have q2b : (m2 != 0) = true := by simpa using q2
    clear HH
    simp only [Option.some.injEq, Prod.mk.injEq] at hh
    obtain ⟨rfl, rfl, rfl, rfl⟩ := hh
    go_enter Tryd.func81, Tryd.ntmps81
    go_wp2_with (first | ((with_reducible refine gf 98 rfl ?_); refine gL (some 15) rfl rfl Tryd.func98 rfl #[.pointer (some ⟨gx, 0, none⟩), .agg #[.slice a1 U.1.length c1, .slice a2 U.2.length c2]] rfl ?_; (with_reducible refine (runs_reader_number.calls k g s0_0 s0_1 s0_2 _ _ U.1 _ _ U.2 n1 0 n3 n4 w0 _ hI hB (fun W_ q => (HW.out W_ q).2.1) l1 (HW.out _ (KeepBut.refl _ g none)).2.2.1 l2 f2 gx (fun W_ q => (CL.out W_ q).1) A1'.out).mono ?_); rintro e w1 ⟨rfl, hi, hb, hk⟩; refine ⟨_, rfl, ?_⟩; obtain ⟨hy0, hy1, hy2, hy3, hy4, hy5, hy6, hy7, _⟩ := CL.out w1 hk) | ((with_reducible refine gf 98 rfl ?_); refine gL (some 29) rfl rfl Tryd.func98 rfl #[.pointer (some ⟨gx, 0, none⟩), .agg #[.slice a5 C1.1.length c5, .slice a6 C1.2.length c6]] rfl ?_; (with_reducible refine (S1.out _ hk hi hb a5 c5 a6 c6 C1.1 C1.2 l5 l6 f6 (fun W_ q => ⟨(HW.out W_ q).2.2.2.2.2.1, (HW.out W_ q).2.2.2.2.2.2.1⟩) A3.out).mono ?_); rintro e w2 ⟨rfl, hi2, hb2, hk2⟩; refine ⟨_, rfl, ?_⟩))
    go_ret2
    exact ⟨re, hi2, hb2, hk2⟩
 ·have q : (n2 != 0) = true := by simpa using z
  have hh := HH.out
  rw [if_neg z] at hh
  simp only [Option.some.injEq, Prod.mk.injEq] at hh
  obtain ⟨rfl, rfl, rfl, rfl⟩ := hh
  clear HH
  go_enter Tryd.func81, Tryd.ntmps81
  go_wp2_with (first | ((with_reducible refine gf 98 rfl ?_); refine gL (some 15) rfl rfl Tryd.func98 rfl #[.pointer (some ⟨gx, 0, none⟩), .agg #[.slice a1 U.1.length c1, .slice a2 U.2.length c2]] rfl ?_; (with_reducible refine (runs_reader_number.calls k g s0_0 s0_1 s0_2 _ _ U.1 _ _ U.2 n1 n2 n3 n4 w0 _ hI hB (fun W_ q => (HW.out W_ q).2.1) l1 (HW.out _ (KeepBut.refl _ g none)).2.2.1 l2 f2 gx (fun W_ q => (CL.out W_ q).1) A1'.out).mono ?_); rintro e w1 ⟨rfl, hi, hb, hk⟩; refine ⟨_, rfl, ?_⟩))
  go_ret2
  exact ⟨re, hi, hb, hk⟩
/-- The reader's tables: units, what is left of a white run and of a black one, and the words of modes. -/
def tU : List S87 × List ByteArray := ([⟨1, 0, 0, 0⟩, ⟨2, 1, 1, 0⟩, ⟨3, 3, 3, 0⟩, ⟨4, 5, 11, 0⟩, ⟨5, 8, 43, 0⟩, ⟨5, 20, 299, 0⟩], [⟨#[48]⟩, ⟨#[49, 48]⟩, ⟨#[49, 49, 48]⟩, ⟨#[49, 49, 49, 48]⟩, ⟨#[49, 49, 49, 49, 48]⟩, ⟨#[49, 49, 49, 49, 49]⟩])
def tC0 : List S87 × List ByteArray := ([⟨2, 2, 0, 0⟩, ⟨2, 3, 4, 0⟩, ⟨2, 4, 12, 0⟩, ⟨2, 6, 28, 0⟩], [⟨#[48, 48]⟩, ⟨#[48, 49]⟩, ⟨#[49, 48]⟩, ⟨#[49, 49]⟩])
def tC1 : List S87 × List ByteArray := ([⟨1, 1, 0, 0⟩, ⟨2, 1, 2, 0⟩, ⟨3, 2, 4, 0⟩, ⟨3, 6, 8, 0⟩], [⟨#[48]⟩, ⟨#[49, 48]⟩, ⟨#[49, 49, 48]⟩, ⟨#[49, 49, 49]⟩])
def tW : List ByteArray := [⟨#[48, 48, 48, 49]⟩, ⟨#[48, 48, 49]⟩, ⟨#[48, 48, 48, 48, 48, 49, 48]⟩, ⟨#[48, 48, 48, 48, 49, 48]⟩, ⟨#[48, 49, 48]⟩, ⟨#[49]⟩, ⟨#[48, 49, 49]⟩, ⟨#[48, 48, 48, 48, 49, 49]⟩, ⟨#[48, 48, 48, 48, 48, 49, 49]⟩]
def runs_reader_run.f (k : Nat) (s0_0 : List Int) (s0_1 : Int) (s0_2 : Bool) (a1 : Int) : Option (Int × Int × Int × Bool) :=
 if a1 = 0 ∨ a1 = 1 then runs_reader_runG.f k tU tC0 tC1 s0_0 s0_1 s0_2 a1 else none
theorem runs_reader_run.mono : ∀ a0 a1 a2 a3 k, LeO (runs_reader_run.f k a0 a1 a2 a3) (runs_reader_run.f (k + 1) a0 a1 a2 a3) := by
 intro a0 a1 a2 a3 k
 unfold runs_reader_run.f
 refine LeO.ite ?_ (LeO.refl _)
 unfold runs_reader_runG.f
 refine LeO.bind (runs_reader_number.mono _ _ _ _ _ k) (fun n => ?_)
 refine LeO.ite ?_ (LeO.refl _)
 exact LeO.bind (runs_reader_number.mono _ _ _ _ _ k) (fun m => LeO.refl _)
theorem runs_reader_run.calls (k : Nat) (g : Nat) (s0_0 : List Int) (s0_1 : Int) (s0_2 : Bool) (a1 : Int) (r1 r2 r3 : Int) (r4 : Bool) (w0 w : World) (hI : IsS140 w0 w g s0_0 s0_1 s0_2) (hB : Below w0.heap.size w0 w) (gx : Nat) (hX : Xok g gx tU tC0 tC1 tW w) (h : runs_reader_run.f k s0_0 s0_1 s0_2 a1 = some (r1, r2, r3, r4)) :
  Calls Tryd.prog 81 #[.pointer (some ⟨gx, 0, none⟩), .int .i64 a1] w fun e w' => e = .returned (.tuple #[.int .i64 r1, .int .i64 r2]) ∧ IsS140 w0 w' g s0_0 r3 r4 ∧ Below w0.heap.size w0 w' ∧ KeepBut w w' g none := by
 unfold runs_reader_run.f at h
 by_cases hc : a1 = 0 ∨ a1 = 1
 ·rw [if_pos hc] at h
  exact runs_reader_runG.calls k g gx tU tC0 tC1 tW s0_0 s0_1 s0_2 a1 hc r1 r2 r3 r4 w0 w hI hB hX h
 ·rw [if_neg hc] at h
  exact absurd h (by simp)

end Go.Proofs.YtknclbodinfbeaaDoor.PRunsAgain
