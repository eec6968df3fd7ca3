-- printed (wip/tools/myprint.py)
import Derived.Test.YtidgpjcgoocpeaaDoorPTopRunsx0
import Derived.Test.YtidgpjcgoocpeaaDoorPTopRunsx11
namespace Go.Proofs.YtidgpjcgoocpeaaDoor.PTopRuns
open Go.RowKit Go.Proofs.YtidgpjcgoocpeaaDoorW.PrintWords Go.Proofs.YtidgpjcgoocpeaaDoorW.PrintLast Go.Proofs.YtidgpjcgoocpeaaDoorW.PrintMore
attribute [local go_sem] max2_int min2_int max_two min_two max_three min_three max_four min_four
set_option linter.unusedVariables false
set_option linter.unusedSimpArgs false
def slices_Index_string_string.l0 : Nat → List ByteArray → ByteArray → Int → Int → Option (Int)
 | 0, _, _, _, _ => none
 | k + 1, x0, x1, x7, x8 => if x8 < x7 then (if 0 ≤ x8 then (if x8 < (x0.length : Int) then (if x1.toList = (rdOf ByteArray.empty x0 x8).toList then (some x8) else (slices_Index_string_string.l0 k x0 x1 x7 (wrap64 (x8 + 1)))) else (none)) else (none)) else (some (-1))
def slices_Index_string_string.f (k : Nat) (l0 : List ByteArray) (a1 : ByteArray) : Option (Int) := slices_Index_string_string.l0 k l0 a1 (l0.length : Int) 0
theorem slices_Index_string_string.mono_l : ∀ k, (∀ y0 y1 y2 y3, LeO (slices_Index_string_string.l0 k y0 y1 y2 y3) (slices_Index_string_string.l0 (k + 1) y0 y1 y2 y3))
 | 0 => fun _ _ _ _ r h => by simp [slices_Index_string_string.l0] at h
 | k + 1 => by
  have ih0 := slices_Index_string_string.mono_l k
  ·intro y0 y1 y2 y3
   unfold slices_Index_string_string.l0
   repeat' first
   | (with_reducible exact ih0 _ _ _ _)
   | (with_reducible first | exact LeO.refl _ | exact LeO.none _ | refine LeO.ite ?_ ?_ | refine LeO.bind ?_ (fun _ => ?_))
theorem slices_Index_string_string.mono : ∀ a0 a1 k, LeO (slices_Index_string_string.f k a0 a1) (slices_Index_string_string.f (k + 1) a0 a1) := by
 intro a0 a1 k
 have ih0 := slices_Index_string_string.mono_l k
 unfold slices_Index_string_string.f
 repeat' first
   | (with_reducible exact ih0 _ _ _ _)
   | (with_reducible first | exact LeO.refl _ | exact LeO.none _ | refine LeO.ite ?_ ?_ | refine LeO.bind ?_ (fun _ => ?_))
set_option maxHeartbeats 8000000 in
set_option maxRecDepth 100000 in
theorem slices_Index_string_string.calls (k : Nat) (A0 : Option Addr) (c0 : Nat) (l0 : List ByteArray) (a1 : ByteArray) (r : Int) (w : World) (hr0 : Kd.C Kd.string w A0 l0.length l0) (hc0 : l0.length ≤ c0) (h : slices_Index_string_string.f k l0 a1 = some r) :
  Calls Tryd.prog 73 #[.slice A0 l0.length c0, .string a1] w fun e w' => e = .returned (.int .i64 r) ∧ Drawn0 w w' := by
 have HR0 := Aside0.mk hr0
 have HC0 := Aside0.mk hc0
 clear hr0 hc0
 have H : (slices_Index_string_string.l0 k l0 a1 (l0.length : Int) 0) = some r := h
 clear h
 have H' := Aside0.mk H
 clear H
 go_enter Tryd.func73, Tryd.ntmps73
 go_wp2
 go_loopg [8] k (fun kq v8 w' => ∃ (x8_1 : Int), v8 = .int .i64 x8_1 ∧ Aside0 (slices_Index_string_string.l0 kq l0 a1 (l0.length : Int) x8_1 = some r) ∧ Aside0 (kq ≤ k) ∧ Drawn0 w w')
 case atStart => exact ⟨(0), rq, H', ⟨Nat.le_refl _⟩, by repeat (first | exact Drawn0.refl _ | apply Drawn0.step)⟩
 case round =>
  clear H'
  obtain ⟨x8_1, rfl, HA, HK1, ⟨m1, rfl⟩⟩ := hrel
  cases gk with
  | zero => exact absurd HA.out (by simp [slices_Index_string_string.l0])
  | succ k1 =>
   have H := HA.out
   clear HA
   simp only [slices_Index_string_string.l0] at H
   rcases iL H with H1 | H1 <;> clear H <;> obtain ⟨H, c3b0⟩ := H1
   ·by_cases c4 : 0 ≤ x8_1
    ·rw [if_pos c4] at H
     have c4b0 := decide_eq_true c4
     clear c4
     by_cases c5 : x8_1 < (l0.length : Int)
     ·rw [if_pos c5] at H
      have c5b0 := decide_eq_true c5
      clear c5
      rcases iE H with H1 | H1 <;> clear H <;> obtain ⟨H, c6b0, c6b1, c6⟩ := H1
      ·obtain rfl := Option.some.inj H
       have p457 : 0 ≤ (x8_1 : Int) := dt
       have q457 : x8_1 < (l0.length : Int) := dt
       obtain ⟨ad457, e457, hx457_0⟩ := Kd.at_string HR0.out x8_1 p457 q457
       cases e457
       replace p457 := eq_true p457
       replace q457 := eq_true q457
       go_wp2
       go_ret
       exact ⟨by first | rfl | (simp; done) | (simp [*]; done), by repeat (first | exact Drawn0.refl _ | apply Drawn0.step)⟩
      ·have H' := Aside0.mk H
       clear H
       have p457 : 0 ≤ (x8_1 : Int) := dt
       have q457 : x8_1 < (l0.length : Int) := dt
       obtain ⟨ad457, e457, hx457_0⟩ := Kd.at_string HR0.out x8_1 p457 q457
       cases e457
       replace p457 := eq_true p457
       replace q457 := eq_true q457
       go_wp2
       go_roundg k1
       case measure => have := HK1.out; omega
       case rel => exact ⟨(wrap64 (x8_1 + 1)), rq, H', ⟨by have := HK1.out; omega⟩, by repeat (first | exact Drawn0.refl _ | apply Drawn0.step)⟩
     ·rw [if_neg c5] at H
      exact absurd H (by simp)
    ·rw [if_neg c4] at H
     exact absurd H (by simp)
   ·obtain rfl := Option.some.inj H
    go_wp2
    go_ret
    exact ⟨by first | rfl | (simp; done) | (simp [*]; done), by repeat (first | exact Drawn0.refl _ | apply Drawn0.step)⟩
def stringslite_HasPrefix.f (a0 : ByteArray) (a1 : ByteArray) : Option (Bool) := if (a0.size : Int) ≥ (a1.size : Int) then (if 0 ≤ (a1.size : Int) then (if (a1.size : Int) ≤ (a0.size : Int) then (some ((a0.extract 0 ((a1.size : Int) : Int).toNat).toList == a1.toList)) else (none)) else (none)) else (some false)
set_option maxHeartbeats 8000000 in
set_option maxRecDepth 100000 in
theorem stringslite_HasPrefix.calls (a0 : ByteArray) (a1 : ByteArray) (r : Bool) (w : World) (h : stringslite_HasPrefix.f a0 a1 = some r) :
  Calls Tryd.prog 84 #[.string a0, .string a1] w fun e w' => e = .returned (.bool r) ∧ Drawn0 w w' := by
 have H := h
 unfold stringslite_HasPrefix.f at H
 clear h
 by_cases c3 : (a0.size : Int) ≥ (a1.size : Int)
 ·rw [if_pos c3] at H
  have c3b0 := decide_eq_true c3
  have c3b1 : decide (a1.size ≤ a0.size) = true := decide_eq_true (Int.ofNat_le.mp c3)
  clear c3
  by_cases c4 : 0 ≤ (a1.size : Int)
  ·rw [if_pos c4] at H
   have c4b0 := eq_true c4
   have c4b1 := decide_eq_true c4
   clear c4
   by_cases c5 : (a1.size : Int) ≤ (a0.size : Int)
   ·rw [if_pos c5] at H
    have c5b0 := eq_true c5
    have c5b1 := decide_eq_true c5
    clear c5
    obtain rfl := Option.some.inj H
    go_enter Tryd.func84, Tryd.ntmps84
    go_wp2
    go_ret
    exact ⟨by first | rfl | (simp; done) | (simp [*]; done), by repeat (first | exact Drawn0.refl _ | apply Drawn0.step)⟩
   ·rw [if_neg c5] at H
    exact absurd H (by simp)
  ·rw [if_neg c4] at H
   exact absurd H (by simp)
 ·rw [if_neg c3] at H
  have c3b0 := decide_eq_false c3
  have c3b1 : decide (a1.size ≤ a0.size) = false := decide_eq_false (fun h => c3 (Int.ofNat_le.mpr h))
  clear c3
  obtain rfl := Option.some.inj H
  go_enter Tryd.func84, Tryd.ntmps84
  go_wp2
  go_ret
  exact ⟨by first | rfl | (simp; done) | (simp [*]; done), by repeat (first | exact Drawn0.refl _ | apply Drawn0.step)⟩
def strings_HasPrefix.f (a0 : ByteArray) (a1 : ByteArray) : Option (Bool) := (stringslite_HasPrefix.f a0 a1).bind fun t458 => (some t458)
set_option maxHeartbeats 8000000 in
set_option maxRecDepth 100000 in
theorem strings_HasPrefix.calls (a0 : ByteArray) (a1 : ByteArray) (r : Bool) (w : World) (h : strings_HasPrefix.f a0 a1 = some r) :
  Calls Tryd.prog 76 #[.string a0, .string a1] w fun e w' => e = .returned (.bool r) ∧ Drawn0 w w' := by
 have H : ((stringslite_HasPrefix.f a0 a1).bind fun t458 => (some t458)) = some r := h
 clear h
 obtain ⟨t458, A3, H⟩ := oB H
 try dsimp only at H
 obtain rfl := Option.some.inj H
 go_enter Tryd.func76, Tryd.ntmps76
 go_wp2_with (first | (refine gF 84 7 Tryd.func84 #[.string a0, .string a1] rfl rfl ?_; (with_reducible refine (stringslite_HasPrefix.calls a0 a1 t458 _ A3.out).mono ?_); rintro e w' ⟨rfl, ⟨nd, rfl⟩⟩; refine ⟨_, rfl, ?_⟩))
 go_ret
 exact ⟨by first | rfl | (simp; done) | (simp [*]; done), by repeat (first | exact Drawn0.refl _ | apply Drawn0.step)⟩
def runs_reader_word_1.f (a0 : ByteArray) (a1_0 : ByteArray) : Option (Bool) := (strings_HasPrefix.f a0 a1_0).bind fun t460 => (some t460)
set_option maxHeartbeats 8000000 in
set_option maxRecDepth 100000 in
theorem runs_reader_word_1.calls (a0 : ByteArray) (b1_0 : Nat) (a1_0 : ByteArray) (r : Bool) (w : World) (hbx1_0 : w.heap[b1_0]? = some (.cells #[.string a1_0] 9 (0, 0))) (h : runs_reader_word_1.f a0 a1_0 = some r) :
  Calls Tryd.prog 75 #[.string a0, .pointer (some ⟨b1_0, 0, none⟩)] w fun e w' => e = .returned (.bool r) ∧ Below w.heap.size w w' := by
 have BK459 := Aside0.mk hbx1_0
 clear hbx1_0
 have HB := Aside0.mk (Below.refl w.heap.size w)
 have H : ((strings_HasPrefix.f a0 a1_0).bind fun t460 => (some t460)) = some r := h
 clear h
 obtain ⟨t460, A3, H⟩ := oB H
 try dsimp only at H
 obtain rfl := Option.some.inj H
 obtain ⟨hcz4_0, hfz4_0⟩ := cz1f BK459.out
 go_enter Tryd.func75, Tryd.ntmps75
 go_wp2_with (first | (refine gF 76 6 Tryd.func76 #[.string a0, .string a1_0] rfl rfl ?_; (with_reducible refine (strings_HasPrefix.calls a0 a1_0 t460 _ A3.out).mono ?_); rintro e w' ⟨rfl, ⟨nd, rfl⟩⟩; refine ⟨_, rfl, ?_⟩))
 go_ret
 exact ⟨re, bl⟩
def slices_IndexFunc_string_string_75.l0 : Nat → List ByteArray → Int → Int → ByteArray → Option (Int)
 | 0, _, _, _, _ => none
 | k + 1, x0, x7, x8, x462000 => if x8 < x7 then (if 0 ≤ x8 then (if x8 < (x0.length : Int) then ((runs_reader_word_1.f (rdOf ByteArray.empty x0 x8) x462000).bind fun t463 => (if t463 = true then (some x8) else (slices_IndexFunc_string_string_75.l0 k x0 x7 (wrap64 (x8 + 1)) x462000))) else (none)) else (none)) else (some (-1))
def slices_IndexFunc_string_string_75.f (k : Nat) (l0 : List ByteArray) (a1_0 : ByteArray) : Option (Int) := slices_IndexFunc_string_string_75.l0 k l0 (l0.length : Int) 0 a1_0
theorem slices_IndexFunc_string_string_75.mono_l : ∀ k, (∀ y0 y1 y2 y3, LeO (slices_IndexFunc_string_string_75.l0 k y0 y1 y2 y3) (slices_IndexFunc_string_string_75.l0 (k + 1) y0 y1 y2 y3))
 | 0 => fun _ _ _ _ r h => by simp [slices_IndexFunc_string_string_75.l0] at h
 | k + 1 => by
  have ih0 := slices_IndexFunc_string_string_75.mono_l k
  ·intro y0 y1 y2 y3
   unfold slices_IndexFunc_string_string_75.l0
   repeat' first
   | (with_reducible exact ih0 _ _ _ _)
   | (with_reducible first | exact LeO.refl _ | exact LeO.none _ | refine LeO.ite ?_ ?_ | refine LeO.bind ?_ (fun _ => ?_))
theorem slices_IndexFunc_string_string_75.mono : ∀ a0 a1 k, LeO (slices_IndexFunc_string_string_75.f k a0 a1) (slices_IndexFunc_string_string_75.f (k + 1) a0 a1) := by
 intro a0 a1 k
 have ih0 := slices_IndexFunc_string_string_75.mono_l k
 unfold slices_IndexFunc_string_string_75.f
 repeat' first
   | (with_reducible exact ih0 _ _ _ _)
   | (with_reducible first | exact LeO.refl _ | exact LeO.none _ | refine LeO.ite ?_ ?_ | refine LeO.bind ?_ (fun _ => ?_))
set_option maxHeartbeats 8000000 in
set_option maxRecDepth 100000 in
theorem slices_IndexFunc_string_string_75.calls (k : Nat) (A0 : Option Addr) (c0 : Nat) (l0 : List ByteArray) (b1_0 : Nat) (a1_0 : ByteArray) (r : Int) (w : World) (hr0 : Kd.C Kd.string w A0 l0.length l0) (hc0 : l0.length ≤ c0) (hbx1_0 : w.heap[b1_0]? = some (.cells #[.string a1_0] 9 (0, 0))) (h : slices_IndexFunc_string_string_75.f k l0 a1_0 = some r) :
  Calls Tryd.prog 83 #[.slice A0 l0.length c0, .func (.func 75) #[] #[.pointer (some ⟨b1_0, 0, none⟩)]] w fun e w' => e = .returned (.int .i64 r) ∧ Below w.heap.size w w' := by
 have HR0 := Aside0.mk hr0
 have HC0 := Aside0.mk hc0
 clear hr0 hc0
 have BK461 := Aside0.mk hbx1_0
 clear hbx1_0
 have HB := Aside0.mk (Below.refl w.heap.size w)
 have H : (slices_IndexFunc_string_string_75.l0 k l0 (l0.length : Int) 0 a1_0) = some r := h
 clear h
 have H' := Aside0.mk H
 clear H
 go_enter Tryd.func83, Tryd.ntmps83
 go_wp2
 go_loopg [8] k (fun kq v8 w' => ∃ (x8_1 : Int), v8 = .int .i64 x8_1 ∧ Aside0 (slices_IndexFunc_string_string_75.l0 kq l0 (l0.length : Int) x8_1 a1_0 = some r) ∧ Aside0 (kq ≤ k) ∧ Aside0 (w'.heap[b1_0]? = some (.cells #[.string a1_0] 9 (0, 0))) ∧ Aside0 (Below w.heap.size w w'))
 case atStart => exact ⟨(0), rq, H', ⟨Nat.le_refl _⟩, ⟨bU BK461.out⟩, ⟨bl⟩⟩
 case round =>
  clear H'
  obtain ⟨x8_1, rfl, HA, HK1, BK461, HB⟩ := hrel
  cases gk with
  | zero => exact absurd HA.out (by simp [slices_IndexFunc_string_string_75.l0])
  | succ k1 =>
   have H := HA.out
   clear HA
   simp only [slices_IndexFunc_string_string_75.l0] at H
   rcases iL H with H1 | H1 <;> clear H <;> obtain ⟨H, c3b0⟩ := H1
   ·by_cases c4 : 0 ≤ x8_1
    ·rw [if_pos c4] at H
     have c4b0 := decide_eq_true c4
     clear c4
     by_cases c5 : x8_1 < (l0.length : Int)
     ·rw [if_pos c5] at H
      have c5b0 := decide_eq_true c5
      clear c5
      obtain ⟨t463, A6, H⟩ := oB H
      try dsimp only at H
      by_cases c7 : t463 = true
      ·subst c7
       rw [if_pos rfl] at H
       obtain rfl := Option.some.inj H
       have p462 : 0 ≤ (x8_1 : Int) := dt
       have q462 : x8_1 < (l0.length : Int) := dt
       obtain ⟨ad462, e462, hx462_0⟩ := Kd.at_string HR0.out x8_1 p462 q462
       cases e462
       replace hx462_0 := hcB HB.out hx462_0
       replace p462 := eq_true p462
       replace q462 := eq_true q462
       go_wp2_with (first | ((with_reducible refine gate_value rfl ?_); refine goesV_ (some 16) rfl rfl Tryd.func75 (by kernel_rfl) rfl #[.string (rdOf ByteArray.empty l0 x8_1), .pointer (some ⟨b1_0, 0, none⟩)] rfl rfl (by (try simp only [List.map_toArray, List.map_cons, List.map_nil]); first | done | rfl | (simp only [List.length_drop, List.length_take]; rfl)) ?_; (with_reducible refine (runs_reader_word_1.calls (rdOf ByteArray.empty l0 x8_1) b1_0 a1_0 true _ ?side1 A6.out).mono ?_); (case side1 => exact bU BK461.out); rintro e w8 ⟨rfl, hb⟩; refine ⟨_, rfl, ?_⟩; have n_ := aC (blk_below (bU BK461.out) hb) (aE (bs hb)); clear BK461 HB; obtain ⟨BK461, HB⟩ := n_))
       go_ret
       exact ⟨re, bl⟩
      ·replace c7 := Bool.eq_false_iff.mpr c7
       subst c7
       rw [if_neg Bool.false_ne_true] at H
       have H' := Aside0.mk H
       clear H
       have p462 : 0 ≤ (x8_1 : Int) := dt
       have q462 : x8_1 < (l0.length : Int) := dt
       obtain ⟨ad462, e462, hx462_0⟩ := Kd.at_string HR0.out x8_1 p462 q462
       cases e462
       replace hx462_0 := hcB HB.out hx462_0
       replace p462 := eq_true p462
       replace q462 := eq_true q462
       go_wp2_with (first | ((with_reducible refine gate_value rfl ?_); refine goesV_ (some 16) rfl rfl Tryd.func75 (by kernel_rfl) rfl #[.string (rdOf ByteArray.empty l0 x8_1), .pointer (some ⟨b1_0, 0, none⟩)] rfl rfl (by (try simp only [List.map_toArray, List.map_cons, List.map_nil]); first | done | rfl | (simp only [List.length_drop, List.length_take]; rfl)) ?_; (with_reducible refine (runs_reader_word_1.calls (rdOf ByteArray.empty l0 x8_1) b1_0 a1_0 false _ ?side1 A6.out).mono ?_); (case side1 => exact bU BK461.out); rintro e w9 ⟨rfl, hb⟩; refine ⟨_, rfl, ?_⟩; have n_ := aC (blk_below (bU BK461.out) hb) (aE (bs hb)); clear BK461 HB; obtain ⟨BK461, HB⟩ := n_))
       go_roundg k1
       case measure => have := HK1.out; omega
       case rel => exact ⟨(wrap64 (x8_1 + 1)), rq, H', ⟨by have := HK1.out; omega⟩, ⟨bU BK461.out⟩, ⟨bl⟩⟩
     ·rw [if_neg c5] at H
      exact absurd H (by simp)
    ·rw [if_neg c4] at H
     exact absurd H (by simp)
   ·obtain rfl := Option.some.inj H
    go_wp2
    go_ret
    exact ⟨re, bl⟩
def slices_ContainsFunc_string_string_75.f (k : Nat) (l0 : List ByteArray) (a1_0 : ByteArray) : Option (Bool) := (slices_IndexFunc_string_string_75.f k l0 a1_0).bind fun t465 => (some (decide (t465 ≥ 0)))
theorem slices_ContainsFunc_string_string_75.mono : ∀ a0 a1 k, LeO (slices_ContainsFunc_string_string_75.f k a0 a1) (slices_ContainsFunc_string_string_75.f (k + 1) a0 a1) := by
 intro a0 a1 k
 unfold slices_ContainsFunc_string_string_75.f
 repeat' first
   | (with_reducible exact slices_IndexFunc_string_string_75.mono _ _ _)
   | (with_reducible first | exact LeO.refl _ | exact LeO.none _ | refine LeO.ite ?_ ?_ | refine LeO.bind ?_ (fun _ => ?_))
set_option maxHeartbeats 8000000 in
set_option maxRecDepth 100000 in
theorem slices_ContainsFunc_string_string_75.calls (k : Nat) (A0 : Option Addr) (c0 : Nat) (l0 : List ByteArray) (b1_0 : Nat) (a1_0 : ByteArray) (r : Bool) (w : World) (hr0 : Kd.C Kd.string w A0 l0.length l0) (hc0 : l0.length ≤ c0) (hbx1_0 : w.heap[b1_0]? = some (.cells #[.string a1_0] 9 (0, 0))) (h : slices_ContainsFunc_string_string_75.f k l0 a1_0 = some r) :
  Calls Tryd.prog 74 #[.slice A0 l0.length c0, .func (.func 75) #[] #[.pointer (some ⟨b1_0, 0, none⟩)]] w fun e w' => e = .returned (.bool r) ∧ Below w.heap.size w w' := by
 have HR0 := Aside0.mk hr0
 have HC0 := Aside0.mk hc0
 clear hr0 hc0
 have BK464 := Aside0.mk hbx1_0
 clear hbx1_0
 have HB := Aside0.mk (Below.refl w.heap.size w)
 have H : ((slices_IndexFunc_string_string_75.f k l0 a1_0).bind fun t465 => (some (decide (t465 ≥ 0)))) = some r := h
 clear h
 obtain ⟨t465, A3, H⟩ := oB H
 try dsimp only at H
 obtain rfl := Option.some.inj H
 go_enter Tryd.func74, Tryd.ntmps74
 go_wp2_with (first | (refine gF 83 7 Tryd.func83 #[.slice A0 l0.length c0, .func (.func 75) #[] #[.pointer (some ⟨b1_0, 0, none⟩)]] rfl rfl ?_; (with_reducible refine (slices_IndexFunc_string_string_75.calls k _ _ l0 b1_0 a1_0 t465 _ ?side1 ?side2 ?side3 A3.out).mono ?_); (case side1 => exact cU HR0.out); (case side2 => exact HC0.out); (case side3 => exact bU BK464.out); rintro e w4 ⟨rfl, hb⟩; refine ⟨_, rfl, ?_⟩; have n_ := aC (blk_below (bU BK464.out) hb) (aE (bs hb)); clear BK464 HB; obtain ⟨BK464, HB⟩ := n_))
 go_ret
 exact ⟨re, bl⟩
mutual
def runs_reader_word.l0 : Nat → List ByteArray → List Int → Int → Bool → ByteArray → Option (Int × Int × Int × Bool)
 | 0, _, _, _, _, _ => none
 | k + 1, x1, x1000, x1001, x1002, x467000 => (slices_Index_string_string.f k x1 x467000).bind fun t467 => (if t467 ≥ 0 then (runs_reader_word.j1 k x1 t467 (x467000.toList != ([] : List UInt8)) x1000 x1001 x1002 x467000) else (runs_reader_word.j1 k x1 t467 false x1000 x1001 x1002 x467000))
def runs_reader_word.j1 : Nat → List ByteArray → Int → Bool → List Int → Int → Bool → ByteArray → Option (Int × Int × Int × Bool)
 | 0, _, _, _, _, _, _, _ => none
 | k + 1, x1, x7, x18, x1000, x1001, x1002, x467000 => if x18 = true then (some (x7, 0, x1001, x1002)) else ((slices_ContainsFunc_string_string_75.f k x1 x467000).bind fun t468 => (if t468 = true then ((bits_Reader_Bits.f k x1000 x1001 x1002 1).bind fun bt469 => (if bt469.2.1 = 0 then (if x467000.size + (Utf8.encode (wrap32 (48 + (wrap32 (bt469.1))))).size ≤ 9223372036854775807 then (runs_reader_word.l0 k x1 x1000 bt469.2.2.1 bt469.2.2.2 (x467000 ++ (Utf8.encode (wrap32 (48 + (wrap32 (bt469.1))))))) else (none)) else (some (0, bt469.2.1, bt469.2.2.1, bt469.2.2.2)))) else (some (0, 3, x1001, x1002))))
end
def runs_reader_word.f (k : Nat) (s0_0 : List Int) (s0_1 : Int) (s0_2 : Bool) (l1 : List ByteArray) : Option (Int × Int × Int × Bool) := runs_reader_word.l0 k l1 s0_0 s0_1 s0_2 (⟨#[]⟩ : ByteArray)
theorem runs_reader_word.mono_l : ∀ k, (∀ y0 y1 y2 y3 y4, LeO (runs_reader_word.l0 k y0 y1 y2 y3 y4) (runs_reader_word.l0 (k + 1) y0 y1 y2 y3 y4)) ∧ (∀ y0 y1 y2 y3 y4 y5 y6, LeO (runs_reader_word.j1 k y0 y1 y2 y3 y4 y5 y6) (runs_reader_word.j1 (k + 1) y0 y1 y2 y3 y4 y5 y6))
 | 0 => ⟨fun _ _ _ _ _ r h => by simp [runs_reader_word.l0] at h, fun _ _ _ _ _ _ _ r h => by simp [runs_reader_word.j1] at h⟩
 | k + 1 => by
  obtain ⟨ih0, ih1⟩ := runs_reader_word.mono_l k
  refine ⟨?_, ?_⟩
  ·intro y0 y1 y2 y3 y4
   unfold runs_reader_word.l0
   repeat' first
   | (with_reducible exact ih0 _ _ _ _ _)
   | (with_reducible exact ih1 _ _ _ _ _ _ _)
   | (with_reducible exact bits_Reader_Bits.mono _ _ _ _ _)
   | (with_reducible exact slices_ContainsFunc_string_string_75.mono _ _ _)
   | (with_reducible exact slices_Index_string_string.mono _ _ _)
   | (with_reducible first | exact LeO.refl _ | exact LeO.none _ | refine LeO.ite ?_ ?_ | refine LeO.bind ?_ (fun _ => ?_))
  ·intro y0 y1 y2 y3 y4 y5 y6
   unfold runs_reader_word.j1
   repeat' first
   | (with_reducible exact ih0 _ _ _ _ _)
   | (with_reducible exact ih1 _ _ _ _ _ _ _)
   | (with_reducible exact bits_Reader_Bits.mono _ _ _ _ _)
   | (with_reducible exact slices_ContainsFunc_string_string_75.mono _ _ _)
   | (with_reducible exact slices_Index_string_string.mono _ _ _)
   | (with_reducible first | exact LeO.refl _ | exact LeO.none _ | refine LeO.ite ?_ ?_ | refine LeO.bind ?_ (fun _ => ?_))
theorem runs_reader_word.mono : ∀ a0 a1 a2 a3 k, LeO (runs_reader_word.f k a0 a1 a2 a3) (runs_reader_word.f (k + 1) a0 a1 a2 a3) := by
 intro a0 a1 a2 a3 k
 obtain ⟨ih0, ih1⟩ := runs_reader_word.mono_l k
 unfold runs_reader_word.f
 repeat' first
   | (with_reducible exact ih0 _ _ _ _ _)
   | (with_reducible exact ih1 _ _ _ _ _ _ _)
   | (with_reducible exact bits_Reader_Bits.mono _ _ _ _ _)
   | (with_reducible exact slices_ContainsFunc_string_string_75.mono _ _ _)
   | (with_reducible exact slices_Index_string_string.mono _ _ _)
   | (with_reducible first | exact LeO.refl _ | exact LeO.none _ | refine LeO.ite ?_ ?_ | refine LeO.bind ?_ (fun _ => ?_))
set_option maxHeartbeats 8000000 in
set_option maxRecDepth 100000 in
theorem runs_reader_word.calls (k : Nat) (g : Nat) (s0_0 : List Int) (s0_1 : Int) (s0_2 : Bool) (A1 : Option Addr) (c1 : Nat) (l1 : List ByteArray) (r1 : Int) (r2 : Int) (r3 : Int) (r4 : Bool) (w0 w : World) (hI : IsS107 w0 w g s0_0 s0_1 s0_2) (hB : Below w0.heap.size w0 w) (hr1 : Kd.C Kd.string w A1 l1.length l1) (hc1 : l1.length ≤ c1) (hf1 : ∀ ad, A1 = some ad → 0 < l1.length → ad.block ≠ g) (gx : Nat) (hXk : ∀ W_ : World, KeepBut w W_ g none → W_.cell? ⟨gx, 0, none⟩ = some (.pointer (some ⟨g, 0, none⟩))) (h : runs_reader_word.f k s0_0 s0_1 s0_2 l1 = some (r1, r2, r3, r4)) :
  Calls Tryd.prog 61 #[.pointer (some ⟨gx, 0, none⟩), .slice A1 l1.length c1] w fun e w' => e = .returned (.tuple #[.int .i64 r1, .int .i64 r2]) ∧ IsS107 w0 w' g s0_0 r3 r4 ∧ Below w0.heap.size w0 w' ∧ KeepBut w w' g none := by
 have hu86 := Tryd.underlying86
 have HR1 := Aside0.mk hr1
 have HC1 := Aside0.mk hc1
 clear hr1 hc1
 have HI0 := Aside0.mk hI
 have HK := Aside0.mk (KeepBut.refl w g none)
 have HL := Aside0.mk hB.size
 clear hI
 have HW0 := Aside0.mk hB.size
 have HB := Aside0.mk hB
 clear hB
 have H : (runs_reader_word.l0 k l1 s0_0 s0_1 s0_2 (⟨#[]⟩ : ByteArray)) = some (r1, r2, r3, r4) := h
 clear h
 have H' := Aside0.mk H
 clear H
 go_enter Tryd.func61, Tryd.ntmps61
 have hX_ := hXk _ HK.out
 go_wp2_with (first | ((with_reducible refine gd 6 rfl ?_); refine bx 6 #[.string (⟨#[]⟩ : ByteArray)] 9 rfl rfl ?_; intro gb466 hg w3 hbox hb; have n_ := aC (IsS107.below (by repeat (first | (with_reducible first | exact HI0.out | apply IsS107.alloc | apply IsS107.drewN | apply IsS107.drew | apply IsS107.set_1 | apply IsS107.set_2) | exact HI0.out)) hb) (aC (KeepBut.trans (by repeat (first | (with_reducible first | exact HK.out | apply KeepBut.set_ | apply keep_drewN | apply keep_drew | apply keep_alloc) | exact HK.out)) (KeepBut.of_below hb g none) (.inl rfl)) (aC (below_step (by repeat (first | (with_reducible first | exact HB.out | apply below_alloc | apply pw_below_drewN | apply below_drew1 | refine below_set ?_ (IsS107.ge HI0.out)) | exact HB.out)) hb) (aC hbox (aC ((by rw [hg]; exact (keep_size (w := w) (g := g) (row := none) (by repeat (first | (with_reducible first | exact HK.out | apply KeepBut.set_ | apply keep_drewN | apply keep_drew | apply keep_alloc) | exact HK.out))) : w.heap.size ≤ gb466)) (aC ((Nat.le_trans HW0.out (by rw [hg]; exact (keep_size (w := w) (g := g) (row := none) (by repeat (first | (with_reducible first | exact HK.out | apply KeepBut.set_ | apply keep_drewN | apply keep_drew | apply keep_alloc) | exact HK.out))) : w.heap.size ≤ gb466) : w0.heap.size ≤ gb466)) (aC ((by rw [hg]; exact Nat.ne_of_lt (IsS107.lt (show IsS107 w0 _ g s0_0 s0_1 s0_2 from by repeat (first | (with_reducible first | exact HI0.out | apply IsS107.alloc | apply IsS107.drewN | apply IsS107.drew | apply IsS107.set_1 | apply IsS107.set_2) | exact HI0.out))) : g ≠ gb466)) (aE ((by rw [hg]; exact Nat.ne_of_gt (IsS107.lt (show IsS107 w0 _ g s0_0 s0_1 s0_2 from by repeat (first | (with_reducible first | exact HI0.out | apply IsS107.alloc | apply IsS107.drewN | apply IsS107.drew | apply IsS107.set_1 | apply IsS107.set_2) | exact HI0.out))) : gb466 ≠ g))))))))); clear HI0 HK HB; obtain ⟨HI0, HK, HB, BK466, GW466, GE466, NB0_466, NB466_0⟩ := n_; clear hb hbox hg; have hnb4 := NB466_0.out; have hnc4 := NB0_466.out; obtain ⟨hcz5_0, hfz5_0⟩ := cz1f BK466.out; have hX_ := hXk _ HK.out))
 go_loopg [] k (fun kq w' => ∃ (x1001_1 : Int) (x1002_1 : Bool) (x467000_1 : ByteArray), Aside0 (runs_reader_word.l0 kq l1 s0_0 x1001_1 x1002_1 x467000_1 = some (r1, r2, r3, r4)) ∧ Aside0 (kq ≤ k) ∧ Aside0 (w'.heap[gb466]? = some (.cells #[.string x467000_1] 9 (0, 0))) ∧ Aside0 (IsS107 w0 w' g s0_0 x1001_1 x1002_1) ∧ Aside0 (KeepBut w w' g none) ∧ Aside0 (Below w0.heap.size w0 w'))
 case atStart => exact ⟨(s0_1), (s0_2), ((⟨#[]⟩ : ByteArray)), H', ⟨Nat.le_refl _⟩, ⟨by (with_reducible repeat (first | refine blk_drewN ?_ _ | refine blk_drew ?_ | refine blk_alloc ?_ _)); refine blk_put (cs := #[.string (⟨#[]⟩ : ByteArray)]) ?_ 0 _ rfl; (with_reducible repeat (first | refine blk_drewN ?_ _ | refine blk_drew ?_ | refine blk_alloc ?_ _)); exact BK466.out⟩, ⟨by repeat (first | (with_reducible first | exact HI0.out | apply IsS107.alloc | apply IsS107.drewN | apply IsS107.drew | apply IsS107.set_1 | apply IsS107.set_2 | refine IsS107.far ?_ NB0_466.out _) | exact HI0.out)⟩, ⟨by repeat (first | (with_reducible first | exact HK.out | apply KeepBut.set_ | apply keep_drewN | apply keep_drew | apply keep_alloc | refine keep_far ?_ GW466.out _) | exact HK.out)⟩, ⟨by repeat (first | (with_reducible first | exact HB.out | apply below_alloc | apply pw_below_drewN | apply below_drew1 | refine below_set ?_ (IsS107.ge HI0.out) | refine below_set ?_ GE466.out) | exact HB.out)⟩⟩
 case round =>
  clear H'
  try clear c1
  obtain ⟨x1001_1, x1002_1, x467000_1, HA, HK1, BK466, HI0, HK, HB⟩ := hrel
  cases gk with
  | zero => exact absurd HA.out (by simp [runs_reader_word.l0])
  | succ k1 =>
   have H := HA.out
   clear HA
   simp only [runs_reader_word.l0] at H
   obtain ⟨t467, A6, H⟩ := oB H
   try dsimp only at H
   have HC7 := Aside0.mk H
   clear H
   have hnb8 := NB466_0.out
   have hnc8 := NB0_466.out
   obtain ⟨hcz9_0, hfz9_0⟩ := cz1f BK466.out
   have hX_ := hXk _ HK.out
   go_upto_region 3 with (first | (refine gF 73 12 Tryd.func73 #[.slice A1 l1.length c1, .string x467000_1] rfl rfl ?_; (with_reducible refine (slices_Index_string_string.calls k1 _ _ l1 x467000_1 t467 _ ?side1 ?side2 A6.out).mono ?_); (case side1 => exact Kd.C_keep (⟨#[]⟩ : ByteArray) HR1.out (by repeat (first | (with_reducible first | exact HK.out | apply KeepBut.set_ | apply keep_drewN | apply keep_drew | apply keep_alloc | refine keep_far ?_ GW466.out _) | exact HK.out)) hf1); (case side2 => exact HC1.out); rintro e w' ⟨rfl, ⟨nd, rfl⟩⟩; refine ⟨_, rfl, ?_⟩))
   (try simp only [Act.put, List.setIfInBounds_toArray, List.set_cons_zero, List.set_cons_succ])
   go_cut [18] (fun v18 wc => ∃ (kq : Nat) (x18_6 : Bool), v18 = .bool x18_6 ∧ Aside0 (runs_reader_word.j1 kq l1 t467 x18_6 s0_0 x1001_1 x1002_1 x467000_1 = some (r1, r2, r3, r4)) ∧ Aside0 (kq ≤ k1) ∧ Aside0 (wc.heap[gb466]? = some (.cells #[.string x467000_1] 9 (0, 0))) ∧ Aside0 (IsS107 w0 wc g s0_0 x1001_1 x1002_1) ∧ Aside0 (KeepBut w wc g none) ∧ Aside0 (Below w0.heap.size w0 wc))
   case first =>
    have H := HC7.out
    clear HC7
    rcases iL H with H1 | H1 <;> clear H <;> obtain ⟨H, c10b0⟩ := H1
    ·(first | rw [c10b0] | (simp only [i64_w, i32_w]; rw [c10b0]) | skip)
     have H' := Aside0.mk H
     clear H
     have hnb11 := NB466_0.out
     have hnc11 := NB0_466.out
     obtain ⟨hcz12_0, hfz12_0⟩ := cz1f BK466.out
     have hX_ := hXk _ HK.out
     go_wp2
     go_meet
     case rel => exact ⟨_, ((x467000_1.toList != ([] : List UInt8))), rq, H', ⟨by have := HK1.out; first | omega | exact Nat.le_refl _⟩, ⟨bU BK466.out⟩, ⟨by repeat (first | (with_reducible first | exact HI0.out | apply IsS107.alloc | apply IsS107.drewN | apply IsS107.drew | apply IsS107.set_1 | apply IsS107.set_2 | refine IsS107.far ?_ NB0_466.out _) | exact HI0.out)⟩, ⟨by repeat (first | (with_reducible first | exact HK.out | apply KeepBut.set_ | apply keep_drewN | apply keep_drew | apply keep_alloc | refine keep_far ?_ GW466.out _) | exact HK.out)⟩, ⟨by repeat (first | (with_reducible first | exact HB.out | apply below_alloc | apply pw_below_drewN | apply below_drew1 | refine below_set ?_ (IsS107.ge HI0.out) | refine below_set ?_ GE466.out) | exact HB.out)⟩⟩
    ·(first | rw [c10b0] | (simp only [i64_w, i32_w]; rw [c10b0]) | skip)
     have H' := Aside0.mk H
     clear H
     have hX_ := hXk _ HK.out
     go_wp2
     go_meet
     case rel => exact ⟨_, (false), rq, H', ⟨by have := HK1.out; first | omega | exact Nat.le_refl _⟩, ⟨bU BK466.out⟩, ⟨by repeat (first | (with_reducible first | exact HI0.out | apply IsS107.alloc | apply IsS107.drewN | apply IsS107.drew | apply IsS107.set_1 | apply IsS107.set_2 | refine IsS107.far ?_ NB0_466.out _) | exact HI0.out)⟩, ⟨by repeat (first | (with_reducible first | exact HK.out | apply KeepBut.set_ | apply keep_drewN | apply keep_drew | apply keep_alloc | refine keep_far ?_ GW466.out _) | exact HK.out)⟩, ⟨by repeat (first | (with_reducible first | exact HB.out | apply below_alloc | apply pw_below_drewN | apply below_drew1 | refine below_set ?_ (IsS107.ge HI0.out) | refine below_set ?_ GE466.out) | exact HB.out)⟩⟩
   case rest =>
    clear HC7
    try clear c1
    obtain ⟨kq, x18_6, rfl, HA, HJ6, BK466, HI0, HK, HB⟩ := hcut
    cases kq with
    | zero => exact absurd HA.out (by simp [runs_reader_word.j1])
    | succ kj6 =>
     have H := HA.out
     clear HA
     simp only [runs_reader_word.j1] at H
     by_cases c13 : x18_6 = true
     ·subst c13
      rw [if_pos rfl] at H
      simp only [Option.some.injEq, Prod.mk.injEq] at H
      obtain ⟨rfl, rfl, rfl, rfl⟩ := H
      have hX_ := hXk _ HK.out
      go_wp2
      go_ret2
      exact ⟨re, by repeat (first | (with_reducible first | exact HI0.out | apply IsS107.alloc | apply IsS107.drewN | apply IsS107.drew | apply IsS107.set_1 | apply IsS107.set_2 | refine IsS107.far ?_ NB0_466.out _) | exact HI0.out), by repeat (first | (with_reducible first | exact HB.out | apply below_alloc | apply pw_below_drewN | apply below_drew1 | refine below_set ?_ (IsS107.ge HI0.out) | refine below_set ?_ GE466.out) | exact HB.out), by repeat (first | (with_reducible first | exact HK.out | apply KeepBut.set_ | apply keep_drewN | apply keep_drew | apply keep_alloc | refine keep_far ?_ GW466.out _) | exact HK.out)⟩
     ·replace c13 := Bool.eq_false_iff.mpr c13
      subst c13
      rw [if_neg Bool.false_ne_true] at H
      obtain ⟨t468, A14, H⟩ := oB H
      try dsimp only at H
      by_cases c15 : t468 = true
      ·subst c15
       rw [if_pos rfl] at H
       obtain ⟨⟨t469, t470, t471, t472⟩, A16, H⟩ := oB H
       try dsimp only at H
       rcases iE H with H1 | H1 <;> clear H <;> obtain ⟨H, c17b0, c17b1, c17⟩ := H1
       ·by_cases c18 : x467000_1.size + (Utf8.encode (wrap32 (48 + (wrap32 (t469))))).size ≤ 9223372036854775807
        ·rw [if_pos c18] at H
         have c18b0 := eq_true c18
         have c18b1 := decide_eq_true c18
         try have c18b2 : (9223372036854775807 < x467000_1.size + (Utf8.encode (wrap32 (48 + (wrap32 (t469))))).size) = False := eq_false (Nat.not_lt.2 c18)
         have H' := Aside0.mk H
         clear H
         have hX_ := hXk _ HK.out
         go_wp2_with (first | (refine gF 74 22 Tryd.func74 #[.slice A1 l1.length c1, .func (.func 75) #[] #[.pointer (some ⟨gb466, 0, none⟩)]] rfl rfl ?_; (with_reducible refine (slices_ContainsFunc_string_string_75.calls kj6 _ _ l1 gb466 x467000_1 true _ ?side1 ?side2 ?side3 A14.out).mono ?_); (case side1 => exact Kd.C_keep (⟨#[]⟩ : ByteArray) HR1.out (by repeat (first | (with_reducible first | exact HK.out | apply KeepBut.set_ | apply keep_drewN | apply keep_drew | apply keep_alloc | refine keep_far ?_ GW466.out _) | exact HK.out)) hf1); (case side2 => exact HC1.out); (case side3 => exact bU BK466.out); rintro e w19 ⟨rfl, hb⟩; refine ⟨_, rfl, ?_⟩; have n_ := aC (blk_below (bU BK466.out) hb) (aC (IsS107.below (by repeat (first | (with_reducible first | exact HI0.out | apply IsS107.alloc | apply IsS107.drewN | apply IsS107.drew | apply IsS107.set_1 | apply IsS107.set_2 | refine IsS107.far ?_ NB0_466.out _) | exact HI0.out)) hb) (aC (KeepBut.trans (by repeat (first | (with_reducible first | exact HK.out | apply KeepBut.set_ | apply keep_drewN | apply keep_drew | apply keep_alloc | refine keep_far ?_ GW466.out _) | exact HK.out)) (KeepBut.of_below hb g none) (.inl rfl)) (aE (below_step (by repeat (first | (with_reducible first | exact HB.out | apply below_alloc | apply pw_below_drewN | apply below_drew1 | refine below_set ?_ (IsS107.ge HI0.out) | refine below_set ?_ GE466.out) | exact HB.out)) hb)))); clear BK466 HI0 HK HB; obtain ⟨BK466, HI0, HK, HB⟩ := n_; have hX_ := hXk _ HK.out) | (refine gF 70 29 Tryd.func70 #[.pointer (some ⟨g, 0, none⟩), .int .i64 1] rfl rfl ?_; (with_reducible refine (bits_Reader_Bits.calls kj6 g s0_0 x1001_1 x1002_1 1 t469 t470 t471 t472 w0 _ ?side1 ?side2 A16.out).mono ?_); (case side1 => repeat (first | (with_reducible first | exact HI0.out | apply IsS107.alloc | apply IsS107.drewN | apply IsS107.drew | apply IsS107.set_1 | apply IsS107.set_2 | refine IsS107.far ?_ NB0_466.out _) | exact HI0.out)); (case side2 => repeat (first | (with_reducible first | exact HB.out | apply below_alloc | apply pw_below_drewN | apply below_drew1 | refine below_set ?_ (IsS107.ge HI0.out) | refine below_set ?_ GE466.out) | exact HB.out)); rintro e w20 ⟨rfl, hi, hb, hk⟩; refine ⟨_, rfl, ?_⟩; have n_ := aC (KeepBut.blk hk (g' := gb466) (o := .cells #[.string x467000_1] 9 (0, 0)) (bU BK466.out) NB466_0.out (by simp)) (aC (KeepBut.trans (by repeat (first | (with_reducible first | exact HK.out | apply KeepBut.set_ | apply keep_drewN | apply keep_drew | apply keep_alloc | refine keep_far ?_ GW466.out _) | exact HK.out)) hk (.inl rfl)) (aC hb (aE hi))); clear BK466 HK HB HI0; obtain ⟨BK466, HK, HB, HI0⟩ := n_; have hnb21 := NB466_0.out; have hnc21 := NB0_466.out; obtain ⟨hcz22_0, hfz22_0⟩ := cz1f BK466.out; have hX_ := hXk _ HK.out))
         go_roundg kj6
         case measure => have := HK1.out; have := HJ6.out; omega
         case rel => exact ⟨(t471), (t472), (x467000_1 ++ (Utf8.encode (wrap32 (48 + (wrap32 (t469)))))), H', ⟨by have := HK1.out; have := HJ6.out; omega⟩, ⟨by (with_reducible repeat (first | refine blk_drewN ?_ _ | refine blk_drew ?_ | refine blk_alloc ?_ _)); refine blk_put (cs := #[.string x467000_1]) ?_ 0 _ rfl; (with_reducible repeat (first | refine blk_drewN ?_ _ | refine blk_drew ?_ | refine blk_alloc ?_ _)); exact BK466.out⟩, ⟨by repeat (first | (with_reducible first | exact HI0.out | apply IsS107.alloc | apply IsS107.drewN | apply IsS107.drew | apply IsS107.set_1 | apply IsS107.set_2 | refine IsS107.far ?_ NB0_466.out _) | exact HI0.out)⟩, ⟨by repeat (first | (with_reducible first | exact HK.out | apply KeepBut.set_ | apply keep_drewN | apply keep_drew | apply keep_alloc | refine keep_far ?_ GW466.out _) | exact HK.out)⟩, ⟨by repeat (first | (with_reducible first | exact HB.out | apply below_alloc | apply pw_below_drewN | apply below_drew1 | refine below_set ?_ (IsS107.ge HI0.out) | refine below_set ?_ GE466.out) | exact HB.out)⟩⟩
        ·rw [if_neg c18] at H
         exact absurd H (by simp)
       ·simp only [Option.some.injEq, Prod.mk.injEq] at H
        obtain ⟨rfl, rfl, rfl, rfl⟩ := H
        have hX_ := hXk _ HK.out
        go_wp2_with (first | (refine gF 74 22 Tryd.func74 #[.slice A1 l1.length c1, .func (.func 75) #[] #[.pointer (some ⟨gb466, 0, none⟩)]] rfl rfl ?_; (with_reducible refine (slices_ContainsFunc_string_string_75.calls kj6 _ _ l1 gb466 x467000_1 true _ ?side1 ?side2 ?side3 A14.out).mono ?_); (case side1 => exact Kd.C_keep (⟨#[]⟩ : ByteArray) HR1.out (by repeat (first | (with_reducible first | exact HK.out | apply KeepBut.set_ | apply keep_drewN | apply keep_drew | apply keep_alloc | refine keep_far ?_ GW466.out _) | exact HK.out)) hf1); (case side2 => exact HC1.out); (case side3 => exact bU BK466.out); rintro e w23 ⟨rfl, hb⟩; refine ⟨_, rfl, ?_⟩; have n_ := aC (blk_below (bU BK466.out) hb) (aC (IsS107.below (by repeat (first | (with_reducible first | exact HI0.out | apply IsS107.alloc | apply IsS107.drewN | apply IsS107.drew | apply IsS107.set_1 | apply IsS107.set_2 | refine IsS107.far ?_ NB0_466.out _) | exact HI0.out)) hb) (aC (KeepBut.trans (by repeat (first | (with_reducible first | exact HK.out | apply KeepBut.set_ | apply keep_drewN | apply keep_drew | apply keep_alloc | refine keep_far ?_ GW466.out _) | exact HK.out)) (KeepBut.of_below hb g none) (.inl rfl)) (aE (below_step (by repeat (first | (with_reducible first | exact HB.out | apply below_alloc | apply pw_below_drewN | apply below_drew1 | refine below_set ?_ (IsS107.ge HI0.out) | refine below_set ?_ GE466.out) | exact HB.out)) hb)))); clear BK466 HI0 HK HB; obtain ⟨BK466, HI0, HK, HB⟩ := n_; have hX_ := hXk _ HK.out) | (refine gF 70 29 Tryd.func70 #[.pointer (some ⟨g, 0, none⟩), .int .i64 1] rfl rfl ?_; (with_reducible refine (bits_Reader_Bits.calls kj6 g s0_0 x1001_1 x1002_1 1 t469 t470 t471 t472 w0 _ ?side1 ?side2 A16.out).mono ?_); (case side1 => repeat (first | (with_reducible first | exact HI0.out | apply IsS107.alloc | apply IsS107.drewN | apply IsS107.drew | apply IsS107.set_1 | apply IsS107.set_2 | refine IsS107.far ?_ NB0_466.out _) | exact HI0.out)); (case side2 => repeat (first | (with_reducible first | exact HB.out | apply below_alloc | apply pw_below_drewN | apply below_drew1 | refine below_set ?_ (IsS107.ge HI0.out) | refine below_set ?_ GE466.out) | exact HB.out)); rintro e w24 ⟨rfl, hi, hb, hk⟩; refine ⟨_, rfl, ?_⟩; have n_ := aC (KeepBut.blk hk (g' := gb466) (o := .cells #[.string x467000_1] 9 (0, 0)) (bU BK466.out) NB466_0.out (by simp)) (aC (KeepBut.trans (by repeat (first | (with_reducible first | exact HK.out | apply KeepBut.set_ | apply keep_drewN | apply keep_drew | apply keep_alloc | refine keep_far ?_ GW466.out _) | exact HK.out)) hk (.inl rfl)) (aC hb (aE hi))); clear BK466 HK HB HI0; obtain ⟨BK466, HK, HB, HI0⟩ := n_; have hX_ := hXk _ HK.out))
        go_ret2
        exact ⟨re, by repeat (first | (with_reducible first | exact HI0.out | apply IsS107.alloc | apply IsS107.drewN | apply IsS107.drew | apply IsS107.set_1 | apply IsS107.set_2 | refine IsS107.far ?_ NB0_466.out _) | exact HI0.out), by repeat (first | (with_reducible first | exact HB.out | apply below_alloc | apply pw_below_drewN | apply below_drew1 | refine below_set ?_ (IsS107.ge HI0.out) | refine below_set ?_ GE466.out) | exact HB.out), by repeat (first | (with_reducible first | exact HK.out | apply KeepBut.set_ | apply keep_drewN | apply keep_drew | apply keep_alloc | refine keep_far ?_ GW466.out _) | exact HK.out)⟩
      ·replace c15 := Bool.eq_false_iff.mpr c15
       subst c15
       rw [if_neg Bool.false_ne_true] at H
       simp only [Option.some.injEq, Prod.mk.injEq] at H
       obtain ⟨rfl, rfl, rfl, rfl⟩ := H
       have hX_ := hXk _ HK.out
       go_wp2_with (first | (refine gF 74 22 Tryd.func74 #[.slice A1 l1.length c1, .func (.func 75) #[] #[.pointer (some ⟨gb466, 0, none⟩)]] rfl rfl ?_; (with_reducible refine (slices_ContainsFunc_string_string_75.calls kj6 _ _ l1 gb466 x467000_1 false _ ?side1 ?side2 ?side3 A14.out).mono ?_); (case side1 => exact Kd.C_keep (⟨#[]⟩ : ByteArray) HR1.out (by repeat (first | (with_reducible first | exact HK.out | apply KeepBut.set_ | apply keep_drewN | apply keep_drew | apply keep_alloc | refine keep_far ?_ GW466.out _) | exact HK.out)) hf1); (case side2 => exact HC1.out); (case side3 => exact bU BK466.out); rintro e w25 ⟨rfl, hb⟩; refine ⟨_, rfl, ?_⟩; have n_ := aC (blk_below (bU BK466.out) hb) (aC (IsS107.below (by repeat (first | (with_reducible first | exact HI0.out | apply IsS107.alloc | apply IsS107.drewN | apply IsS107.drew | apply IsS107.set_1 | apply IsS107.set_2 | refine IsS107.far ?_ NB0_466.out _) | exact HI0.out)) hb) (aC (KeepBut.trans (by repeat (first | (with_reducible first | exact HK.out | apply KeepBut.set_ | apply keep_drewN | apply keep_drew | apply keep_alloc | refine keep_far ?_ GW466.out _) | exact HK.out)) (KeepBut.of_below hb g none) (.inl rfl)) (aE (below_step (by repeat (first | (with_reducible first | exact HB.out | apply below_alloc | apply pw_below_drewN | apply below_drew1 | refine below_set ?_ (IsS107.ge HI0.out) | refine below_set ?_ GE466.out) | exact HB.out)) hb)))); clear BK466 HI0 HK HB; obtain ⟨BK466, HI0, HK, HB⟩ := n_; have hX_ := hXk _ HK.out))
       go_ret2
       exact ⟨re, by repeat (first | (with_reducible first | exact HI0.out | apply IsS107.alloc | apply IsS107.drewN | apply IsS107.drew | apply IsS107.set_1 | apply IsS107.set_2 | refine IsS107.far ?_ NB0_466.out _) | exact HI0.out), by repeat (first | (with_reducible first | exact HB.out | apply below_alloc | apply pw_below_drewN | apply below_drew1 | refine below_set ?_ (IsS107.ge HI0.out) | refine below_set ?_ GE466.out) | exact HB.out), by repeat (first | (with_reducible first | exact HK.out | apply KeepBut.set_ | apply keep_drewN | apply keep_drew | apply keep_alloc | refine keep_far ?_ GW466.out _) | exact HK.out)⟩
end Go.Proofs.YtidgpjcgoocpeaaDoor.PTopRuns
