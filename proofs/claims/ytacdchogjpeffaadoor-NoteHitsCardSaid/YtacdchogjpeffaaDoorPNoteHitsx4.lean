-- printed (wip/tools/myprint.py)
import Derived.Test.YtacdchogjpeffaaDoorPNoteHitsx0
import Derived.Test.YtacdchogjpeffaaDoorPNoteHitsx1
import Derived.Test.YtacdchogjpeffaaDoorPNoteHitsx3
namespace Go.Proofs.YtacdchogjpeffaaDoor.PNoteHits
open Go.RowKit Go.Proofs.YtacdchogjpeffaaDoorW.PrintWords Go.Proofs.YtacdchogjpeffaaDoorW.PrintLast Go.Proofs.YtacdchogjpeffaaDoorW.PrintMore
attribute [local go_sem] max2_int min2_int max_two min_two max_three min_three max_four min_four
set_option linter.unusedVariables false
set_option linter.unusedSimpArgs false
def slices_IndexFunc_69.l0 : Nat → List (S33) → Int → Int → Option (Int)
 | 0, _, _, _ => none
 | k + 1, x0, x7, x8 => if x8 < x7 then (if 0 ≤ x8 then (if x8 < (x0.length : Int) then ((note_isNote_1.f ((rd_T33 x0 x8).f0) ((rd_T33 x0 x8).f1) ((rd_T33 x0 x8).f2) ((rd_T33 x0 x8).f3)).bind fun t137 => (if t137 = true then (some x8) else (slices_IndexFunc_69.l0 k x0 x7 (wrap64 (x8 + 1))))) else (none)) else (none)) else (some (-1))
def slices_IndexFunc_69.f (k : Nat) (l0 : List (S33))  : Option (Int) := slices_IndexFunc_69.l0 k l0 (l0.length : Int) 0
theorem slices_IndexFunc_69.mono_l : ∀ k, (∀ y0 y1 y2, LeO (slices_IndexFunc_69.l0 k y0 y1 y2) (slices_IndexFunc_69.l0 (k + 1) y0 y1 y2))
 | 0 => fun _ _ _ r h => by simp [slices_IndexFunc_69.l0] at h
 | k + 1 => by
  have ih0 := slices_IndexFunc_69.mono_l k
  ·intro y0 y1 y2
   unfold slices_IndexFunc_69.l0
   repeat' first
   | (with_reducible exact ih0 _ _ _)
   | (with_reducible first | exact LeO.refl _ | exact LeO.none _ | refine LeO.ite ?_ ?_ | refine LeO.bind ?_ (fun _ => ?_))
theorem slices_IndexFunc_69.mono : ∀ a0 k, LeO (slices_IndexFunc_69.f k a0) (slices_IndexFunc_69.f (k + 1) a0) := by
 intro a0 k
 have ih0 := slices_IndexFunc_69.mono_l k
 unfold slices_IndexFunc_69.f
 repeat' first
   | (with_reducible exact ih0 _ _ _)
   | (with_reducible first | exact LeO.refl _ | exact LeO.none _ | refine LeO.ite ?_ ?_ | refine LeO.bind ?_ (fun _ => ?_))
set_option maxHeartbeats 8000000 in
set_option maxRecDepth 100000 in
theorem slices_IndexFunc_69.calls (k : Nat) (A0 : Option Addr) (c0 : Nat) (l0 : List (S33))  (r : Int) (w : World) (hr0 : Kd.C k33 w A0 l0.length l0) (hc0 : l0.length ≤ c0) (h : slices_IndexFunc_69.f k l0 = some r) :
  Calls Tryd.prog 67 #[.slice A0 l0.length c0, .func (.func 69) #[] #[]] w fun e w' => e = .returned (.int .i64 r) ∧ Below w.heap.size w w' := by
 have hu33 := Tryd.underlying33
 have HR0 := Aside0.mk hr0
 have HC0 := Aside0.mk hc0
 clear hr0 hc0
 have HB := Aside0.mk (Below.refl w.heap.size w)
 have H : (slices_IndexFunc_69.l0 k l0 (l0.length : Int) 0) = some r := h
 clear h
 have H' := Aside0.mk H
 clear H
 go_enter Tryd.func67, Tryd.ntmps67
 go_wp2
 go_loopg [8] k (fun kq v8 w' => ∃ (x8_1 : Int), v8 = .int .i64 x8_1 ∧ Aside0 (slices_IndexFunc_69.l0 kq l0 (l0.length : Int) x8_1 = some r) ∧ Aside0 (kq ≤ k) ∧ Aside0 (Below w.heap.size w w'))
 case atStart => exact ⟨(0), rq, H', ⟨Nat.le_refl _⟩, ⟨bl⟩⟩
 case round =>
  clear H'
  obtain ⟨x8_1, rfl, HA, HK1, HB⟩ := hrel
  cases gk with
  | zero => exact absurd HA.out (by simp [slices_IndexFunc_69.l0])
  | succ k1 =>
   have H := HA.out
   clear HA
   simp only [slices_IndexFunc_69.l0] at H
   rcases iL H with H1 | H1 <;> clear H <;> obtain ⟨H, c3b0⟩ := H1
   ·by_cases c4 : 0 ≤ x8_1
    ·rw [if_pos c4] at H
     have c4b0 := decide_eq_true c4
     clear c4
     by_cases c5 : x8_1 < (l0.length : Int)
     ·rw [if_pos c5] at H
      have c5b0 := decide_eq_true c5
      clear c5
      obtain ⟨t137, A6, H⟩ := oB H
      try dsimp only at H
      by_cases c7 : t137 = true
      ·subst c7
       rw [if_pos rfl] at H
       obtain rfl := Option.some.inj H
       have p136 : 0 ≤ (x8_1 : Int) := dt
       have q136 : x8_1 < (l0.length : Int) := dt
       obtain ⟨ad136, A136_3, c136_3, e136, hx136_0, hx136_1, hx136_2, hx136_3, hl136_3, hi136_3⟩ := at_T33 HR0.out x8_1 p136 q136
       cases e136
       replace hx136_0 := hcB HB.out hx136_0
       replace hx136_1 := hcB HB.out hx136_1
       replace hx136_2 := hcB HB.out hx136_2
       replace hx136_3 := hcB HB.out hx136_3
       have HR136_3 := Aside0.mk hi136_3
       have HC136_3 := Aside0.mk hl136_3
       clear hi136_3 hl136_3
       replace p136 := eq_true p136
       replace q136 := eq_true q136
       go_wp2_with (first | ((with_reducible refine gate_value rfl ?_); refine goesV_ (some 16) rfl rfl Tryd.func69 (by kernel_rfl) rfl #[.agg #[.int .i64 ((rd_T33 l0 x8_1).f0), .string ((rd_T33 l0 x8_1).f1), .int .i64 ((rd_T33 l0 x8_1).f2), .slice A136_3 ((rd_T33 l0 x8_1).f3).length c136_3]] rfl rfl (by (try simp only [List.map_toArray, List.map_cons, List.map_nil]); first | done | rfl | (simp only [List.length_drop, List.length_take]; rfl)) ?_; (with_reducible refine (note_isNote_1.calls ((rd_T33 l0 x8_1).f0) ((rd_T33 l0 x8_1).f1) ((rd_T33 l0 x8_1).f2) _ _ ((rd_T33 l0 x8_1).f3) true _ ?side1 ?side2 A6.out).mono ?_); (case side1 => exact cU (Kd.C_below HR136_3.out HB.out)); (case side2 => exact HC136_3.out); rintro e w8 ⟨rfl, hb⟩; refine ⟨_, rfl, ?_⟩; have n_ := aE (bs hb); clear HB; have HB := n_; clear n_))
       go_ret
       exact ⟨re, bl⟩
      ·replace c7 := Bool.eq_false_iff.mpr c7
       subst c7
       rw [if_neg Bool.false_ne_true] at H
       have H' := Aside0.mk H
       clear H
       have p136 : 0 ≤ (x8_1 : Int) := dt
       have q136 : x8_1 < (l0.length : Int) := dt
       obtain ⟨ad136, A136_3, c136_3, e136, hx136_0, hx136_1, hx136_2, hx136_3, hl136_3, hi136_3⟩ := at_T33 HR0.out x8_1 p136 q136
       cases e136
       replace hx136_0 := hcB HB.out hx136_0
       replace hx136_1 := hcB HB.out hx136_1
       replace hx136_2 := hcB HB.out hx136_2
       replace hx136_3 := hcB HB.out hx136_3
       have HR136_3 := Aside0.mk hi136_3
       have HC136_3 := Aside0.mk hl136_3
       clear hi136_3 hl136_3
       replace p136 := eq_true p136
       replace q136 := eq_true q136
       go_wp2_with (first | ((with_reducible refine gate_value rfl ?_); refine goesV_ (some 16) rfl rfl Tryd.func69 (by kernel_rfl) rfl #[.agg #[.int .i64 ((rd_T33 l0 x8_1).f0), .string ((rd_T33 l0 x8_1).f1), .int .i64 ((rd_T33 l0 x8_1).f2), .slice A136_3 ((rd_T33 l0 x8_1).f3).length c136_3]] rfl rfl (by (try simp only [List.map_toArray, List.map_cons, List.map_nil]); first | done | rfl | (simp only [List.length_drop, List.length_take]; rfl)) ?_; (with_reducible refine (note_isNote_1.calls ((rd_T33 l0 x8_1).f0) ((rd_T33 l0 x8_1).f1) ((rd_T33 l0 x8_1).f2) _ _ ((rd_T33 l0 x8_1).f3) false _ ?side1 ?side2 A6.out).mono ?_); (case side1 => exact cU (Kd.C_below HR136_3.out HB.out)); (case side2 => exact HC136_3.out); rintro e w9 ⟨rfl, hb⟩; refine ⟨_, rfl, ?_⟩; have n_ := aE (bs hb); clear HB; have HB := n_; clear n_))
       go_roundg k1
       case measure => have := HK1.out; omega
       case rel => exact ⟨(wrap64 (x8_1 + 1)), rq, H', ⟨by have := HK1.out; omega⟩, ⟨bl⟩⟩
     ·rw [if_neg c5] at H
      exact absurd H (by simp)
    ·rw [if_neg c4] at H
     exact absurd H (by simp)
   ·obtain rfl := Option.some.inj H
    go_wp2
    go_ret
    exact ⟨re, bl⟩
def slices_ContainsFunc_69.f (k : Nat) (l0 : List (S33))  : Option (Bool) := (slices_IndexFunc_69.f k l0).bind fun t138 => (some (decide (t138 ≥ 0)))
theorem slices_ContainsFunc_69.mono : ∀ a0 k, LeO (slices_ContainsFunc_69.f k a0) (slices_ContainsFunc_69.f (k + 1) a0) := by
 intro a0 k
 unfold slices_ContainsFunc_69.f
 repeat' first
   | (with_reducible exact slices_IndexFunc_69.mono _ _)
   | (with_reducible first | exact LeO.refl _ | exact LeO.none _ | refine LeO.ite ?_ ?_ | refine LeO.bind ?_ (fun _ => ?_))
set_option maxHeartbeats 8000000 in
set_option maxRecDepth 100000 in
theorem slices_ContainsFunc_69.calls (k : Nat) (A0 : Option Addr) (c0 : Nat) (l0 : List (S33))  (r : Bool) (w : World) (hr0 : Kd.C k33 w A0 l0.length l0) (hc0 : l0.length ≤ c0) (h : slices_ContainsFunc_69.f k l0 = some r) :
  Calls Tryd.prog 44 #[.slice A0 l0.length c0, .func (.func 69) #[] #[]] w fun e w' => e = .returned (.bool r) ∧ Below w.heap.size w w' := by
 have HR0 := Aside0.mk hr0
 have HC0 := Aside0.mk hc0
 clear hr0 hc0
 have HB := Aside0.mk (Below.refl w.heap.size w)
 have H : ((slices_IndexFunc_69.f k l0).bind fun t138 => (some (decide (t138 ≥ 0)))) = some r := h
 clear h
 obtain ⟨t138, A3, H⟩ := oB H
 try dsimp only at H
 obtain rfl := Option.some.inj H
 go_enter Tryd.func44, Tryd.ntmps44
 go_wp2_with (first | (refine gF 67 7 Tryd.func67 #[.slice A0 l0.length c0, .func (.func 69) #[] #[]] rfl rfl ?_; (with_reducible refine (slices_IndexFunc_69.calls k _ _ l0  t138 _ ?side1 ?side2 A3.out).mono ?_); (case side1 => exact cU HR0.out); (case side2 => exact HC0.out); rintro e w4 ⟨rfl, hb⟩; refine ⟨_, rfl, ?_⟩; have n_ := aE (bs hb); clear HB; have HB := n_; clear n_))
 go_ret
 exact ⟨re, bl⟩
def note_isNote.f (k : Nat) (a0_0 : Int) (a0_1 : ByteArray) (a0_2 : Int) (l0_3 : List (S33)) : Option (Bool) := if a0_0 = 0 then (if (l0_3.length : Int) < 4 then (some false) else (if 0 < (l0_3.length : Int) then (if ((rd_T33 l0_3 0).f0) = 1 then (if ((rd_T33 l0_3 0).f1).toList = ([97, 114, 101, 97] : List UInt8) then (if 1 < (l0_3.length : Int) then (if ((rd_T33 l0_3 1).f0) = 3 then (if 2 < (l0_3.length : Int) then (if ((rd_T33 l0_3 2).f0) = 3 then (if 3 < (l0_3.length : Int) then ((note_isShape.f k ((rd_T33 l0_3 3).f0) ((rd_T33 l0_3 3).f1) ((rd_T33 l0_3 3).f2) ((rd_T33 l0_3 3).f3)).bind fun t145 => (if t145 = true then (if 4 ≤ (l0_3.length : Int) then ((slices_ContainsFunc_69.f k (l0_3.drop 4)).bind fun t150 => (some (!t150))) else (none)) else (some false))) else (none)) else (some false)) else (none)) else (some false)) else (none)) else (some false)) else (some false)) else (none))) else (some false)
theorem note_isNote.mono : ∀ a0 a1 a2 a3 k, LeO (note_isNote.f k a0 a1 a2 a3) (note_isNote.f (k + 1) a0 a1 a2 a3) := by
 intro a0 a1 a2 a3 k
 unfold note_isNote.f
 repeat' first
   | (with_reducible exact note_isShape.mono _ _ _ _ _)
   | (with_reducible exact slices_ContainsFunc_69.mono _ _)
   | (with_reducible first | exact LeO.refl _ | exact LeO.none _ | refine LeO.ite ?_ ?_ | refine LeO.bind ?_ (fun _ => ?_))
set_option maxHeartbeats 8000000 in
set_option maxRecDepth 100000 in
theorem note_isNote.calls (k : Nat) (a0_0 : Int) (a0_1 : ByteArray) (a0_2 : Int) (A0_3 : Option Addr) (c0_3 : Nat) (l0_3 : List (S33)) (r : Bool) (w : World) (hr0_3 : Kd.C k33 w A0_3 l0_3.length l0_3) (hc0_3 : l0_3.length ≤ c0_3) (h : note_isNote.f k a0_0 a0_1 a0_2 l0_3 = some r) :
  Calls Tryd.prog 46 #[.agg #[.int .i64 a0_0, .string a0_1, .int .i64 a0_2, .slice A0_3 l0_3.length c0_3]] w fun e w' => e = .returned (.bool r) ∧ Below w.heap.size w w' := by
 have hu33 := Tryd.underlying33
 have HR0_3 := Aside0.mk hr0_3
 have HC0_3 := Aside0.mk hc0_3
 clear hr0_3 hc0_3
 have HB := Aside0.mk (Below.refl w.heap.size w)
 have H := h
 unfold note_isNote.f at H
 clear h
 rcases iE H with H1 | H1 <;> clear H <;> obtain ⟨H, c2b0, c2b1, c2⟩ := H1
 ·by_cases c3 : (l0_3.length : Int) < 4
  ·rw [if_pos c3] at H
   have c3b0 := decide_eq_true c3
   have c3b1 : decide (l0_3.length < 4) = true := decide_eq_true (by omega)
   clear c3
   obtain rfl := Option.some.inj H
   go_enter Tryd.func46, Tryd.ntmps46
   go_wp2_with (first | ((with_reducible refine gd 1 rfl ?_); (try (refine gate_guard (by rfl) ?_; dsimp only)); refine bx 1 #[.int .i64 a0_0, .string a0_1, .int .i64 a0_2, .slice A0_3 l0_3.length c0_3] 33 rfl rfl ?_; intro gb139 hg w4 hbox hb; have n_ := aC (bs hb) (aC hbox (aC (gz hg) (aE (gz hg)))); clear HB; obtain ⟨HB, BK139, GW139, GE139⟩ := n_; clear hb hbox hg; obtain ⟨hcz5_0, hcz5_1, hcz5_2, hcz5_3, hfz5_0, hfz5_1, hfz5_2, hfz5_3⟩ := cz4f BK139.out))
   go_ret
   exact ⟨re, bl⟩
  ·rw [if_neg c3] at H
   have c3b0 := decide_eq_false c3
   have c3b1 : decide (l0_3.length < 4) = false := decide_eq_false (by omega)
   clear c3
   by_cases c6 : 0 < (l0_3.length : Int)
   ·rw [if_pos c6] at H
    have c6b0 := decide_eq_true c6
    have c6b1 : decide (0 < l0_3.length) = true := decide_eq_true (by omega)
    clear c6
    rcases iE H with H1 | H1 <;> clear H <;> obtain ⟨H, c7b0, c7b1, c7⟩ := H1
    ·rcases iE H with H1 | H1 <;> clear H <;> obtain ⟨H, c8b0, c8b1, c8⟩ := H1
     ·by_cases c9 : 1 < (l0_3.length : Int)
      ·rw [if_pos c9] at H
       have c9b0 := decide_eq_true c9
       have c9b1 : decide (1 < l0_3.length) = true := decide_eq_true (by omega)
       clear c9
       rcases iE H with H1 | H1 <;> clear H <;> obtain ⟨H, c10b0, c10b1, c10⟩ := H1
       ·by_cases c11 : 2 < (l0_3.length : Int)
        ·rw [if_pos c11] at H
         have c11b0 := decide_eq_true c11
         have c11b1 : decide (2 < l0_3.length) = true := decide_eq_true (by omega)
         clear c11
         rcases iE H with H1 | H1 <;> clear H <;> obtain ⟨H, c12b0, c12b1, c12⟩ := H1
         ·by_cases c13 : 3 < (l0_3.length : Int)
          ·rw [if_pos c13] at H
           have c13b0 := decide_eq_true c13
           have c13b1 : decide (3 < l0_3.length) = true := decide_eq_true (by omega)
           clear c13
           obtain ⟨t145, A14, H⟩ := oB H
           try dsimp only at H
           by_cases c15 : t145 = true
           ·subst c15
            rw [if_pos rfl] at H
            by_cases c16 : 4 ≤ (l0_3.length : Int)
            ·rw [if_pos c16] at H
             have c16b0 := eq_true c16
             have c16b1 := decide_eq_true c16
             clear c16
             obtain ⟨y146, hy_⟩ : ∃ y_ : List (S33), y_ = (l0_3.drop 4) := ⟨_, rfl⟩
             replace H : ((slices_ContainsFunc_69.f k y146).bind fun t150 => (some (!t150))) = some r := rh
             have Ny146 := aE hy_
             clear hy_
             obtain ⟨t150, A17, H⟩ := oB H
             try dsimp only at H
             obtain rfl := Option.some.inj H
             go_enter Tryd.func46, Tryd.ntmps46
             go_wp2_with (first | ((with_reducible refine gd 1 rfl ?_); (try (refine gate_guard (by rfl) ?_; dsimp only)); refine bx 1 #[.int .i64 a0_0, .string a0_1, .int .i64 a0_2, .slice A0_3 l0_3.length c0_3] 33 rfl rfl ?_; intro gb139 hg w18 hbox hb; have n_ := aC (bs hb) (aC hbox (aC (gz hg) (aE (gz hg)))); clear HB; obtain ⟨HB, BK139, GW139, GE139⟩ := n_; clear hb hbox hg; obtain ⟨hcz19_0, hcz19_1, hcz19_2, hcz19_3, hfz19_0, hfz19_1, hfz19_2, hfz19_3⟩ := cz4f BK139.out; have p140 : 0 ≤ (0 : Int) := (by omega); have q140 : 0 < (l0_3.length : Int) := dt; obtain ⟨ad140, A140_3, c140_3, e140, hx140_0, hx140_1, hx140_2, hx140_3, hl140_3, hi140_3⟩ := at_T33 HR0_3.out 0 p140 q140; cases e140; have qi140 : (0 < l0_3.length) = True := eq_true (by omega); (try rw [show ((0 : Int)).toNat = 0 from rfl] at hx140_0); (try rw [show 0 * 4 = 0 from rfl] at hx140_0); (try rw [Addr.add_zero'] at hx140_0); (try rw [show ((0 : Int)).toNat = 0 from rfl] at hx140_1); (try rw [show 0 * 4 = 0 from rfl] at hx140_1); (try rw [Addr.add_zero'] at hx140_1); (try rw [show ((0 : Int)).toNat = 0 from rfl] at hx140_2); (try rw [show 0 * 4 = 0 from rfl] at hx140_2); (try rw [Addr.add_zero'] at hx140_2); (try rw [show ((0 : Int)).toNat = 0 from rfl] at hx140_3); (try rw [show 0 * 4 = 0 from rfl] at hx140_3); (try rw [Addr.add_zero'] at hx140_3); replace hx140_0 := hcB HB.out hx140_0; replace hx140_1 := hcB HB.out hx140_1; replace hx140_2 := hcB HB.out hx140_2; replace hx140_3 := hcB HB.out hx140_3; have HR140_3 := Aside0.mk hi140_3; have HC140_3 := Aside0.mk hl140_3; clear hi140_3 hl140_3; replace p140 := eq_true p140; replace q140 := eq_true q140; have p141 : 0 ≤ (0 : Int) := (by omega); have q141 : 0 < (l0_3.length : Int) := dt; obtain ⟨ad141, A141_3, c141_3, e141, hx141_0, hx141_1, hx141_2, hx141_3, hl141_3, hi141_3⟩ := at_T33 HR0_3.out 0 p141 q141; obtain rfl : ad140 = ad141 := (by injection e141); have qi141 : (0 < l0_3.length) = True := eq_true (by omega); (try rw [show ((0 : Int)).toNat = 0 from rfl] at hx141_0); (try rw [show 0 * 4 = 0 from rfl] at hx141_0); (try rw [Addr.add_zero'] at hx141_0); (try rw [show ((0 : Int)).toNat = 0 from rfl] at hx141_1); (try rw [show 0 * 4 = 0 from rfl] at hx141_1); (try rw [Addr.add_zero'] at hx141_1); (try rw [show ((0 : Int)).toNat = 0 from rfl] at hx141_2); (try rw [show 0 * 4 = 0 from rfl] at hx141_2); (try rw [Addr.add_zero'] at hx141_2); (try rw [show ((0 : Int)).toNat = 0 from rfl] at hx141_3); (try rw [show 0 * 4 = 0 from rfl] at hx141_3); (try rw [Addr.add_zero'] at hx141_3); replace hx141_0 := hcB HB.out hx141_0; replace hx141_1 := hcB HB.out hx141_1; replace hx141_2 := hcB HB.out hx141_2; replace hx141_3 := hcB HB.out hx141_3; have HR141_3 := Aside0.mk hi141_3; have HC141_3 := Aside0.mk hl141_3; clear hi141_3 hl141_3; replace p141 := eq_true p141; replace q141 := eq_true q141; have ea_ := Option.some.inj (hx140_3.symm.trans hx141_3); injection ea_ with ea_ en_ ec_; subst ea_; subst ec_; clear en_; have p142 : 0 ≤ (1 : Int) := (by omega); have q142 : 1 < (l0_3.length : Int) := dt; obtain ⟨ad142, A142_3, c142_3, e142, hx142_0, hx142_1, hx142_2, hx142_3, hl142_3, hi142_3⟩ := at_T33 HR0_3.out 1 p142 q142; obtain rfl : ad140 = ad142 := (by injection e142); (try simp only [show (1 : Int).toNat = 1 from rfl, Nat.reduceMul, Nat.reduceEqDiff, Go.Addr.add, ↓reduceIte] at hx142_0); (try simp only [show (1 : Int).toNat = 1 from rfl, Nat.reduceMul, Nat.reduceEqDiff, Go.Addr.add, ↓reduceIte] at hx142_1); (try simp only [show (1 : Int).toNat = 1 from rfl, Nat.reduceMul, Nat.reduceEqDiff, Go.Addr.add, ↓reduceIte] at hx142_2); (try simp only [show (1 : Int).toNat = 1 from rfl, Nat.reduceMul, Nat.reduceEqDiff, Go.Addr.add, ↓reduceIte] at hx142_3); have qi142 : (1 < l0_3.length) = True := eq_true (by omega); (try rw [show ((1 : Int)).toNat = 1 from rfl] at hx142_0); (try rw [show 1 * 4 = 4 from rfl] at hx142_0); (try rw [show ((1 : Int)).toNat = 1 from rfl] at hx142_1); (try rw [show 1 * 4 = 4 from rfl] at hx142_1); (try rw [show ((1 : Int)).toNat = 1 from rfl] at hx142_2); (try rw [show 1 * 4 = 4 from rfl] at hx142_2); (try rw [show ((1 : Int)).toNat = 1 from rfl] at hx142_3); (try rw [show 1 * 4 = 4 from rfl] at hx142_3); replace hx142_0 := hcB HB.out hx142_0; replace hx142_1 := hcB HB.out hx142_1; replace hx142_2 := hcB HB.out hx142_2; replace hx142_3 := hcB HB.out hx142_3; have HR142_3 := Aside0.mk hi142_3; have HC142_3 := Aside0.mk hl142_3; clear hi142_3 hl142_3; replace p142 := eq_true p142; replace q142 := eq_true q142; have p143 : 0 ≤ (2 : Int) := (by omega); have q143 : 2 < (l0_3.length : Int) := dt; obtain ⟨ad143, A143_3, c143_3, e143, hx143_0, hx143_1, hx143_2, hx143_3, hl143_3, hi143_3⟩ := at_T33 HR0_3.out 2 p143 q143; obtain rfl : ad140 = ad143 := (by injection e143); (try simp only [show (2 : Int).toNat = 2 from rfl, Nat.reduceMul, Nat.reduceEqDiff, Go.Addr.add, ↓reduceIte] at hx143_0); (try simp only [show (2 : Int).toNat = 2 from rfl, Nat.reduceMul, Nat.reduceEqDiff, Go.Addr.add, ↓reduceIte] at hx143_1); (try simp only [show (2 : Int).toNat = 2 from rfl, Nat.reduceMul, Nat.reduceEqDiff, Go.Addr.add, ↓reduceIte] at hx143_2); (try simp only [show (2 : Int).toNat = 2 from rfl, Nat.reduceMul, Nat.reduceEqDiff, Go.Addr.add, ↓reduceIte] at hx143_3); have qi143 : (2 < l0_3.length) = True := eq_true (by omega); (try rw [show ((2 : Int)).toNat = 2 from rfl] at hx143_0); (try rw [show 2 * 4 = 8 from rfl] at hx143_0); (try rw [show ((2 : Int)).toNat = 2 from rfl] at hx143_1); (try rw [show 2 * 4 = 8 from rfl] at hx143_1); (try rw [show ((2 : Int)).toNat = 2 from rfl] at hx143_2); (try rw [show 2 * 4 = 8 from rfl] at hx143_2); (try rw [show ((2 : Int)).toNat = 2 from rfl] at hx143_3); (try rw [show 2 * 4 = 8 from rfl] at hx143_3); replace hx143_0 := hcB HB.out hx143_0; replace hx143_1 := hcB HB.out hx143_1; replace hx143_2 := hcB HB.out hx143_2; replace hx143_3 := hcB HB.out hx143_3; have HR143_3 := Aside0.mk hi143_3; have HC143_3 := Aside0.mk hl143_3; clear hi143_3 hl143_3; replace p143 := eq_true p143; replace q143 := eq_true q143; have p144 : 0 ≤ (3 : Int) := (by omega); have q144 : 3 < (l0_3.length : Int) := dt; obtain ⟨ad144, A144_3, c144_3, e144, hx144_0, hx144_1, hx144_2, hx144_3, hl144_3, hi144_3⟩ := at_T33 HR0_3.out 3 p144 q144; obtain rfl : ad140 = ad144 := (by injection e144); (try simp only [show (3 : Int).toNat = 3 from rfl, Nat.reduceMul, Nat.reduceEqDiff, Go.Addr.add, ↓reduceIte] at hx144_0); (try simp only [show (3 : Int).toNat = 3 from rfl, Nat.reduceMul, Nat.reduceEqDiff, Go.Addr.add, ↓reduceIte] at hx144_1); (try simp only [show (3 : Int).toNat = 3 from rfl, Nat.reduceMul, Nat.reduceEqDiff, Go.Addr.add, ↓reduceIte] at hx144_2); (try simp only [show (3 : Int).toNat = 3 from rfl, Nat.reduceMul, Nat.reduceEqDiff, Go.Addr.add, ↓reduceIte] at hx144_3); have qi144 : (3 < l0_3.length) = True := eq_true (by omega); (try rw [show ((3 : Int)).toNat = 3 from rfl] at hx144_0); (try rw [show 3 * 4 = 12 from rfl] at hx144_0); (try rw [show ((3 : Int)).toNat = 3 from rfl] at hx144_1); (try rw [show 3 * 4 = 12 from rfl] at hx144_1); (try rw [show ((3 : Int)).toNat = 3 from rfl] at hx144_2); (try rw [show 3 * 4 = 12 from rfl] at hx144_2); (try rw [show ((3 : Int)).toNat = 3 from rfl] at hx144_3); (try rw [show 3 * 4 = 12 from rfl] at hx144_3); replace hx144_0 := hcB HB.out hx144_0; replace hx144_1 := hcB HB.out hx144_1; replace hx144_2 := hcB HB.out hx144_2; replace hx144_3 := hcB HB.out hx144_3; have HR144_3 := Aside0.mk hi144_3; have HC144_3 := Aside0.mk hl144_3; clear hi144_3 hl144_3; replace p144 := eq_true p144; replace q144 := eq_true q144) | (go_at_call 68; (with_reducible refine (note_isShape.calls k ((rd_T33 l0_3 3).f0) ((rd_T33 l0_3 3).f1) ((rd_T33 l0_3 3).f2) _ _ ((rd_T33 l0_3 3).f3) true _ ?side1 ?side2 A14.out).mono ?_); (case side1 => exact cU (Kd.C_below HR144_3.out HB.out)); (case side2 => exact HC144_3.out); rintro e w20 ⟨rfl, hb⟩; have n_ := aC (blk_below (bU BK139.out) hb) (aE (bs hb)); clear BK139 HB; obtain ⟨BK139, HB⟩ := n_; obtain ⟨hcz21_0, hcz21_1, hcz21_2, hcz21_3, hfz21_0, hfz21_1, hfz21_2, hfz21_3⟩ := cz4f BK139.out; have q22 : (4 : Int) ≤ ((l0_3.length : Int) : Int) := dt; obtain ⟨i022, hi022, _, hsz22, _⟩ := info_parts info33; have hroom22 : l0_3.length ≤ c0_3 := HC0_3.out; have hC22 : Kd.C k33 _ (some ad140) l0_3.length l0_3 := HR0_3.out; have hcut22 := cut_from (P := Tryd.prog) 31 33 .i64 Tryd.underlying31 hi022 4 hsz22 (some ad140) l0_3.length c0_3 4 (by omega) q22; have hr22 := Kd.C_drop (m := (4 : Int).toNat) (c := c0_3) hC22 (by omega) hroom22; obtain ⟨A22, hA22⟩ : ∃ A1, A1 = (if c0_3 = (4 : Int).toNat then (some ad140) else ((some ad140) : Option Addr).map (·.add ((4 : Int).toNat * 4))) := ⟨_, rfl⟩; obtain ⟨c22, hc22⟩ : ∃ c1, c1 = c0_3 - (4 : Int).toNat := ⟨_, rfl⟩; have hy22 : y146.length = l0_3.length - (4 : Int).toNat := (by rw [Ny146.out, List.length_drop] <;> omega); rw [show (l0_3).drop (4 : Int).toNat = y146 from Ny146.out.symm] at hr22; replace hr22 : Kd.C k33 _ A22 y146.length y146 := (by rw [hA22]; exact hr22); rw [← hy22, ← hA22, ← hc22] at hcut22; have HR149 := Aside0.mk hr22; have HC149 := Aside0.mk (show y146.length ≤ c22 from by rw [hy22, hc22]; exact Nat.sub_le_sub_right hroom22 _); clear hr22 hC22 hroom22 hi022 hsz22 hc22; have KY22 := Aside0.mk hy22; have KA22 := Aside0.mk hA22; clear hy22 hA22; replace q22 := eq_true q22) | (refine gF 44 55 Tryd.func44 #[.slice A22 y146.length c22, .func (.func 69) #[] #[]] rfl rfl ?_; (with_reducible refine (slices_ContainsFunc_69.calls k _ _ y146  t150 _ ?side1 ?side2 A17.out).mono ?_); (case side1 => exact cU (Kd.C_below HR149.out HB.out)); (case side2 => exact HC149.out); rintro e w23 ⟨rfl, hb⟩; refine ⟨_, rfl, ?_⟩; have n_ := aC (blk_below (bU BK139.out) hb) (aE (bs hb)); clear BK139 HB; obtain ⟨BK139, HB⟩ := n_))
             go_ret
             exact ⟨re, bl⟩
            ·rw [if_neg c16] at H
             exact absurd H (by simp)
           ·replace c15 := Bool.eq_false_iff.mpr c15
            subst c15
            rw [if_neg Bool.false_ne_true] at H
            obtain rfl := Option.some.inj H
            go_enter Tryd.func46, Tryd.ntmps46
            go_wp2_with (first | ((with_reducible refine gd 1 rfl ?_); (try (refine gate_guard (by rfl) ?_; dsimp only)); refine bx 1 #[.int .i64 a0_0, .string a0_1, .int .i64 a0_2, .slice A0_3 l0_3.length c0_3] 33 rfl rfl ?_; intro gb139 hg w24 hbox hb; have n_ := aC (bs hb) (aC hbox (aC (gz hg) (aE (gz hg)))); clear HB; obtain ⟨HB, BK139, GW139, GE139⟩ := n_; clear hb hbox hg; obtain ⟨hcz25_0, hcz25_1, hcz25_2, hcz25_3, hfz25_0, hfz25_1, hfz25_2, hfz25_3⟩ := cz4f BK139.out; have p140 : 0 ≤ (0 : Int) := (by omega); have q140 : 0 < (l0_3.length : Int) := dt; obtain ⟨ad140, A140_3, c140_3, e140, hx140_0, hx140_1, hx140_2, hx140_3, hl140_3, hi140_3⟩ := at_T33 HR0_3.out 0 p140 q140; cases e140; have qi140 : (0 < l0_3.length) = True := eq_true (by omega); (try rw [show ((0 : Int)).toNat = 0 from rfl] at hx140_0); (try rw [show 0 * 4 = 0 from rfl] at hx140_0); (try rw [Addr.add_zero'] at hx140_0); (try rw [show ((0 : Int)).toNat = 0 from rfl] at hx140_1); (try rw [show 0 * 4 = 0 from rfl] at hx140_1); (try rw [Addr.add_zero'] at hx140_1); (try rw [show ((0 : Int)).toNat = 0 from rfl] at hx140_2); (try rw [show 0 * 4 = 0 from rfl] at hx140_2); (try rw [Addr.add_zero'] at hx140_2); (try rw [show ((0 : Int)).toNat = 0 from rfl] at hx140_3); (try rw [show 0 * 4 = 0 from rfl] at hx140_3); (try rw [Addr.add_zero'] at hx140_3); replace hx140_0 := hcB HB.out hx140_0; replace hx140_1 := hcB HB.out hx140_1; replace hx140_2 := hcB HB.out hx140_2; replace hx140_3 := hcB HB.out hx140_3; have HR140_3 := Aside0.mk hi140_3; have HC140_3 := Aside0.mk hl140_3; clear hi140_3 hl140_3; replace p140 := eq_true p140; replace q140 := eq_true q140; have p141 : 0 ≤ (0 : Int) := (by omega); have q141 : 0 < (l0_3.length : Int) := dt; obtain ⟨ad141, A141_3, c141_3, e141, hx141_0, hx141_1, hx141_2, hx141_3, hl141_3, hi141_3⟩ := at_T33 HR0_3.out 0 p141 q141; obtain rfl : ad140 = ad141 := (by injection e141); have qi141 : (0 < l0_3.length) = True := eq_true (by omega); (try rw [show ((0 : Int)).toNat = 0 from rfl] at hx141_0); (try rw [show 0 * 4 = 0 from rfl] at hx141_0); (try rw [Addr.add_zero'] at hx141_0); (try rw [show ((0 : Int)).toNat = 0 from rfl] at hx141_1); (try rw [show 0 * 4 = 0 from rfl] at hx141_1); (try rw [Addr.add_zero'] at hx141_1); (try rw [show ((0 : Int)).toNat = 0 from rfl] at hx141_2); (try rw [show 0 * 4 = 0 from rfl] at hx141_2); (try rw [Addr.add_zero'] at hx141_2); (try rw [show ((0 : Int)).toNat = 0 from rfl] at hx141_3); (try rw [show 0 * 4 = 0 from rfl] at hx141_3); (try rw [Addr.add_zero'] at hx141_3); replace hx141_0 := hcB HB.out hx141_0; replace hx141_1 := hcB HB.out hx141_1; replace hx141_2 := hcB HB.out hx141_2; replace hx141_3 := hcB HB.out hx141_3; have HR141_3 := Aside0.mk hi141_3; have HC141_3 := Aside0.mk hl141_3; clear hi141_3 hl141_3; replace p141 := eq_true p141; replace q141 := eq_true q141; have ea_ := Option.some.inj (hx140_3.symm.trans hx141_3); injection ea_ with ea_ en_ ec_; subst ea_; subst ec_; clear en_; have p142 : 0 ≤ (1 : Int) := (by omega); have q142 : 1 < (l0_3.length : Int) := dt; obtain ⟨ad142, A142_3, c142_3, e142, hx142_0, hx142_1, hx142_2, hx142_3, hl142_3, hi142_3⟩ := at_T33 HR0_3.out 1 p142 q142; obtain rfl : ad140 = ad142 := (by injection e142); (try simp only [show (1 : Int).toNat = 1 from rfl, Nat.reduceMul, Nat.reduceEqDiff, Go.Addr.add, ↓reduceIte] at hx142_0); (try simp only [show (1 : Int).toNat = 1 from rfl, Nat.reduceMul, Nat.reduceEqDiff, Go.Addr.add, ↓reduceIte] at hx142_1); (try simp only [show (1 : Int).toNat = 1 from rfl, Nat.reduceMul, Nat.reduceEqDiff, Go.Addr.add, ↓reduceIte] at hx142_2); (try simp only [show (1 : Int).toNat = 1 from rfl, Nat.reduceMul, Nat.reduceEqDiff, Go.Addr.add, ↓reduceIte] at hx142_3); have qi142 : (1 < l0_3.length) = True := eq_true (by omega); (try rw [show ((1 : Int)).toNat = 1 from rfl] at hx142_0); (try rw [show 1 * 4 = 4 from rfl] at hx142_0); (try rw [show ((1 : Int)).toNat = 1 from rfl] at hx142_1); (try rw [show 1 * 4 = 4 from rfl] at hx142_1); (try rw [show ((1 : Int)).toNat = 1 from rfl] at hx142_2); (try rw [show 1 * 4 = 4 from rfl] at hx142_2); (try rw [show ((1 : Int)).toNat = 1 from rfl] at hx142_3); (try rw [show 1 * 4 = 4 from rfl] at hx142_3); replace hx142_0 := hcB HB.out hx142_0; replace hx142_1 := hcB HB.out hx142_1; replace hx142_2 := hcB HB.out hx142_2; replace hx142_3 := hcB HB.out hx142_3; have HR142_3 := Aside0.mk hi142_3; have HC142_3 := Aside0.mk hl142_3; clear hi142_3 hl142_3; replace p142 := eq_true p142; replace q142 := eq_true q142; have p143 : 0 ≤ (2 : Int) := (by omega); have q143 : 2 < (l0_3.length : Int) := dt; obtain ⟨ad143, A143_3, c143_3, e143, hx143_0, hx143_1, hx143_2, hx143_3, hl143_3, hi143_3⟩ := at_T33 HR0_3.out 2 p143 q143; obtain rfl : ad140 = ad143 := (by injection e143); (try simp only [show (2 : Int).toNat = 2 from rfl, Nat.reduceMul, Nat.reduceEqDiff, Go.Addr.add, ↓reduceIte] at hx143_0); (try simp only [show (2 : Int).toNat = 2 from rfl, Nat.reduceMul, Nat.reduceEqDiff, Go.Addr.add, ↓reduceIte] at hx143_1); (try simp only [show (2 : Int).toNat = 2 from rfl, Nat.reduceMul, Nat.reduceEqDiff, Go.Addr.add, ↓reduceIte] at hx143_2); (try simp only [show (2 : Int).toNat = 2 from rfl, Nat.reduceMul, Nat.reduceEqDiff, Go.Addr.add, ↓reduceIte] at hx143_3); have qi143 : (2 < l0_3.length) = True := eq_true (by omega); (try rw [show ((2 : Int)).toNat = 2 from rfl] at hx143_0); (try rw [show 2 * 4 = 8 from rfl] at hx143_0); (try rw [show ((2 : Int)).toNat = 2 from rfl] at hx143_1); (try rw [show 2 * 4 = 8 from rfl] at hx143_1); (try rw [show ((2 : Int)).toNat = 2 from rfl] at hx143_2); (try rw [show 2 * 4 = 8 from rfl] at hx143_2); (try rw [show ((2 : Int)).toNat = 2 from rfl] at hx143_3); (try rw [show 2 * 4 = 8 from rfl] at hx143_3); replace hx143_0 := hcB HB.out hx143_0; replace hx143_1 := hcB HB.out hx143_1; replace hx143_2 := hcB HB.out hx143_2; replace hx143_3 := hcB HB.out hx143_3; have HR143_3 := Aside0.mk hi143_3; have HC143_3 := Aside0.mk hl143_3; clear hi143_3 hl143_3; replace p143 := eq_true p143; replace q143 := eq_true q143; have p144 : 0 ≤ (3 : Int) := (by omega); have q144 : 3 < (l0_3.length : Int) := dt; obtain ⟨ad144, A144_3, c144_3, e144, hx144_0, hx144_1, hx144_2, hx144_3, hl144_3, hi144_3⟩ := at_T33 HR0_3.out 3 p144 q144; obtain rfl : ad140 = ad144 := (by injection e144); (try simp only [show (3 : Int).toNat = 3 from rfl, Nat.reduceMul, Nat.reduceEqDiff, Go.Addr.add, ↓reduceIte] at hx144_0); (try simp only [show (3 : Int).toNat = 3 from rfl, Nat.reduceMul, Nat.reduceEqDiff, Go.Addr.add, ↓reduceIte] at hx144_1); (try simp only [show (3 : Int).toNat = 3 from rfl, Nat.reduceMul, Nat.reduceEqDiff, Go.Addr.add, ↓reduceIte] at hx144_2); (try simp only [show (3 : Int).toNat = 3 from rfl, Nat.reduceMul, Nat.reduceEqDiff, Go.Addr.add, ↓reduceIte] at hx144_3); have qi144 : (3 < l0_3.length) = True := eq_true (by omega); (try rw [show ((3 : Int)).toNat = 3 from rfl] at hx144_0); (try rw [show 3 * 4 = 12 from rfl] at hx144_0); (try rw [show ((3 : Int)).toNat = 3 from rfl] at hx144_1); (try rw [show 3 * 4 = 12 from rfl] at hx144_1); (try rw [show ((3 : Int)).toNat = 3 from rfl] at hx144_2); (try rw [show 3 * 4 = 12 from rfl] at hx144_2); (try rw [show ((3 : Int)).toNat = 3 from rfl] at hx144_3); (try rw [show 3 * 4 = 12 from rfl] at hx144_3); replace hx144_0 := hcB HB.out hx144_0; replace hx144_1 := hcB HB.out hx144_1; replace hx144_2 := hcB HB.out hx144_2; replace hx144_3 := hcB HB.out hx144_3; have HR144_3 := Aside0.mk hi144_3; have HC144_3 := Aside0.mk hl144_3; clear hi144_3 hl144_3; replace p144 := eq_true p144; replace q144 := eq_true q144) | (go_at_call 68; (with_reducible refine (note_isShape.calls k ((rd_T33 l0_3 3).f0) ((rd_T33 l0_3 3).f1) ((rd_T33 l0_3 3).f2) _ _ ((rd_T33 l0_3 3).f3) false _ ?side1 ?side2 A14.out).mono ?_); (case side1 => exact cU (Kd.C_below HR144_3.out HB.out)); (case side2 => exact HC144_3.out); rintro e w26 ⟨rfl, hb⟩; have n_ := aC (blk_below (bU BK139.out) hb) (aE (bs hb)); clear BK139 HB; obtain ⟨BK139, HB⟩ := n_))
            go_ret
            exact ⟨re, bl⟩
          ·rw [if_neg c13] at H
           exact absurd H (by simp)
         ·obtain rfl := Option.some.inj H
          go_enter Tryd.func46, Tryd.ntmps46
          go_wp2_with (first | ((with_reducible refine gd 1 rfl ?_); (try (refine gate_guard (by rfl) ?_; dsimp only)); refine bx 1 #[.int .i64 a0_0, .string a0_1, .int .i64 a0_2, .slice A0_3 l0_3.length c0_3] 33 rfl rfl ?_; intro gb139 hg w27 hbox hb; have n_ := aC (bs hb) (aC hbox (aC (gz hg) (aE (gz hg)))); clear HB; obtain ⟨HB, BK139, GW139, GE139⟩ := n_; clear hb hbox hg; obtain ⟨hcz28_0, hcz28_1, hcz28_2, hcz28_3, hfz28_0, hfz28_1, hfz28_2, hfz28_3⟩ := cz4f BK139.out; have p140 : 0 ≤ (0 : Int) := (by omega); have q140 : 0 < (l0_3.length : Int) := dt; obtain ⟨ad140, A140_3, c140_3, e140, hx140_0, hx140_1, hx140_2, hx140_3, hl140_3, hi140_3⟩ := at_T33 HR0_3.out 0 p140 q140; cases e140; have qi140 : (0 < l0_3.length) = True := eq_true (by omega); (try rw [show ((0 : Int)).toNat = 0 from rfl] at hx140_0); (try rw [show 0 * 4 = 0 from rfl] at hx140_0); (try rw [Addr.add_zero'] at hx140_0); (try rw [show ((0 : Int)).toNat = 0 from rfl] at hx140_1); (try rw [show 0 * 4 = 0 from rfl] at hx140_1); (try rw [Addr.add_zero'] at hx140_1); (try rw [show ((0 : Int)).toNat = 0 from rfl] at hx140_2); (try rw [show 0 * 4 = 0 from rfl] at hx140_2); (try rw [Addr.add_zero'] at hx140_2); (try rw [show ((0 : Int)).toNat = 0 from rfl] at hx140_3); (try rw [show 0 * 4 = 0 from rfl] at hx140_3); (try rw [Addr.add_zero'] at hx140_3); replace hx140_0 := hcB HB.out hx140_0; replace hx140_1 := hcB HB.out hx140_1; replace hx140_2 := hcB HB.out hx140_2; replace hx140_3 := hcB HB.out hx140_3; have HR140_3 := Aside0.mk hi140_3; have HC140_3 := Aside0.mk hl140_3; clear hi140_3 hl140_3; replace p140 := eq_true p140; replace q140 := eq_true q140; have p141 : 0 ≤ (0 : Int) := (by omega); have q141 : 0 < (l0_3.length : Int) := dt; obtain ⟨ad141, A141_3, c141_3, e141, hx141_0, hx141_1, hx141_2, hx141_3, hl141_3, hi141_3⟩ := at_T33 HR0_3.out 0 p141 q141; obtain rfl : ad140 = ad141 := (by injection e141); have qi141 : (0 < l0_3.length) = True := eq_true (by omega); (try rw [show ((0 : Int)).toNat = 0 from rfl] at hx141_0); (try rw [show 0 * 4 = 0 from rfl] at hx141_0); (try rw [Addr.add_zero'] at hx141_0); (try rw [show ((0 : Int)).toNat = 0 from rfl] at hx141_1); (try rw [show 0 * 4 = 0 from rfl] at hx141_1); (try rw [Addr.add_zero'] at hx141_1); (try rw [show ((0 : Int)).toNat = 0 from rfl] at hx141_2); (try rw [show 0 * 4 = 0 from rfl] at hx141_2); (try rw [Addr.add_zero'] at hx141_2); (try rw [show ((0 : Int)).toNat = 0 from rfl] at hx141_3); (try rw [show 0 * 4 = 0 from rfl] at hx141_3); (try rw [Addr.add_zero'] at hx141_3); replace hx141_0 := hcB HB.out hx141_0; replace hx141_1 := hcB HB.out hx141_1; replace hx141_2 := hcB HB.out hx141_2; replace hx141_3 := hcB HB.out hx141_3; have HR141_3 := Aside0.mk hi141_3; have HC141_3 := Aside0.mk hl141_3; clear hi141_3 hl141_3; replace p141 := eq_true p141; replace q141 := eq_true q141; have ea_ := Option.some.inj (hx140_3.symm.trans hx141_3); injection ea_ with ea_ en_ ec_; subst ea_; subst ec_; clear en_; have p142 : 0 ≤ (1 : Int) := (by omega); have q142 : 1 < (l0_3.length : Int) := dt; obtain ⟨ad142, A142_3, c142_3, e142, hx142_0, hx142_1, hx142_2, hx142_3, hl142_3, hi142_3⟩ := at_T33 HR0_3.out 1 p142 q142; obtain rfl : ad140 = ad142 := (by injection e142); (try simp only [show (1 : Int).toNat = 1 from rfl, Nat.reduceMul, Nat.reduceEqDiff, Go.Addr.add, ↓reduceIte] at hx142_0); (try simp only [show (1 : Int).toNat = 1 from rfl, Nat.reduceMul, Nat.reduceEqDiff, Go.Addr.add, ↓reduceIte] at hx142_1); (try simp only [show (1 : Int).toNat = 1 from rfl, Nat.reduceMul, Nat.reduceEqDiff, Go.Addr.add, ↓reduceIte] at hx142_2); (try simp only [show (1 : Int).toNat = 1 from rfl, Nat.reduceMul, Nat.reduceEqDiff, Go.Addr.add, ↓reduceIte] at hx142_3); have qi142 : (1 < l0_3.length) = True := eq_true (by omega); (try rw [show ((1 : Int)).toNat = 1 from rfl] at hx142_0); (try rw [show 1 * 4 = 4 from rfl] at hx142_0); (try rw [show ((1 : Int)).toNat = 1 from rfl] at hx142_1); (try rw [show 1 * 4 = 4 from rfl] at hx142_1); (try rw [show ((1 : Int)).toNat = 1 from rfl] at hx142_2); (try rw [show 1 * 4 = 4 from rfl] at hx142_2); (try rw [show ((1 : Int)).toNat = 1 from rfl] at hx142_3); (try rw [show 1 * 4 = 4 from rfl] at hx142_3); replace hx142_0 := hcB HB.out hx142_0; replace hx142_1 := hcB HB.out hx142_1; replace hx142_2 := hcB HB.out hx142_2; replace hx142_3 := hcB HB.out hx142_3; have HR142_3 := Aside0.mk hi142_3; have HC142_3 := Aside0.mk hl142_3; clear hi142_3 hl142_3; replace p142 := eq_true p142; replace q142 := eq_true q142; have p143 : 0 ≤ (2 : Int) := (by omega); have q143 : 2 < (l0_3.length : Int) := dt; obtain ⟨ad143, A143_3, c143_3, e143, hx143_0, hx143_1, hx143_2, hx143_3, hl143_3, hi143_3⟩ := at_T33 HR0_3.out 2 p143 q143; obtain rfl : ad140 = ad143 := (by injection e143); (try simp only [show (2 : Int).toNat = 2 from rfl, Nat.reduceMul, Nat.reduceEqDiff, Go.Addr.add, ↓reduceIte] at hx143_0); (try simp only [show (2 : Int).toNat = 2 from rfl, Nat.reduceMul, Nat.reduceEqDiff, Go.Addr.add, ↓reduceIte] at hx143_1); (try simp only [show (2 : Int).toNat = 2 from rfl, Nat.reduceMul, Nat.reduceEqDiff, Go.Addr.add, ↓reduceIte] at hx143_2); (try simp only [show (2 : Int).toNat = 2 from rfl, Nat.reduceMul, Nat.reduceEqDiff, Go.Addr.add, ↓reduceIte] at hx143_3); have qi143 : (2 < l0_3.length) = True := eq_true (by omega); (try rw [show ((2 : Int)).toNat = 2 from rfl] at hx143_0); (try rw [show 2 * 4 = 8 from rfl] at hx143_0); (try rw [show ((2 : Int)).toNat = 2 from rfl] at hx143_1); (try rw [show 2 * 4 = 8 from rfl] at hx143_1); (try rw [show ((2 : Int)).toNat = 2 from rfl] at hx143_2); (try rw [show 2 * 4 = 8 from rfl] at hx143_2); (try rw [show ((2 : Int)).toNat = 2 from rfl] at hx143_3); (try rw [show 2 * 4 = 8 from rfl] at hx143_3); replace hx143_0 := hcB HB.out hx143_0; replace hx143_1 := hcB HB.out hx143_1; replace hx143_2 := hcB HB.out hx143_2; replace hx143_3 := hcB HB.out hx143_3; have HR143_3 := Aside0.mk hi143_3; have HC143_3 := Aside0.mk hl143_3; clear hi143_3 hl143_3; replace p143 := eq_true p143; replace q143 := eq_true q143))
          go_ret
          exact ⟨re, bl⟩
        ·rw [if_neg c11] at H
         exact absurd H (by simp)
       ·obtain rfl := Option.some.inj H
        go_enter Tryd.func46, Tryd.ntmps46
        go_wp2_with (first | ((with_reducible refine gd 1 rfl ?_); (try (refine gate_guard (by rfl) ?_; dsimp only)); refine bx 1 #[.int .i64 a0_0, .string a0_1, .int .i64 a0_2, .slice A0_3 l0_3.length c0_3] 33 rfl rfl ?_; intro gb139 hg w29 hbox hb; have n_ := aC (bs hb) (aC hbox (aC (gz hg) (aE (gz hg)))); clear HB; obtain ⟨HB, BK139, GW139, GE139⟩ := n_; clear hb hbox hg; obtain ⟨hcz30_0, hcz30_1, hcz30_2, hcz30_3, hfz30_0, hfz30_1, hfz30_2, hfz30_3⟩ := cz4f BK139.out; have p140 : 0 ≤ (0 : Int) := (by omega); have q140 : 0 < (l0_3.length : Int) := dt; obtain ⟨ad140, A140_3, c140_3, e140, hx140_0, hx140_1, hx140_2, hx140_3, hl140_3, hi140_3⟩ := at_T33 HR0_3.out 0 p140 q140; cases e140; have qi140 : (0 < l0_3.length) = True := eq_true (by omega); (try rw [show ((0 : Int)).toNat = 0 from rfl] at hx140_0); (try rw [show 0 * 4 = 0 from rfl] at hx140_0); (try rw [Addr.add_zero'] at hx140_0); (try rw [show ((0 : Int)).toNat = 0 from rfl] at hx140_1); (try rw [show 0 * 4 = 0 from rfl] at hx140_1); (try rw [Addr.add_zero'] at hx140_1); (try rw [show ((0 : Int)).toNat = 0 from rfl] at hx140_2); (try rw [show 0 * 4 = 0 from rfl] at hx140_2); (try rw [Addr.add_zero'] at hx140_2); (try rw [show ((0 : Int)).toNat = 0 from rfl] at hx140_3); (try rw [show 0 * 4 = 0 from rfl] at hx140_3); (try rw [Addr.add_zero'] at hx140_3); replace hx140_0 := hcB HB.out hx140_0; replace hx140_1 := hcB HB.out hx140_1; replace hx140_2 := hcB HB.out hx140_2; replace hx140_3 := hcB HB.out hx140_3; have HR140_3 := Aside0.mk hi140_3; have HC140_3 := Aside0.mk hl140_3; clear hi140_3 hl140_3; replace p140 := eq_true p140; replace q140 := eq_true q140; have p141 : 0 ≤ (0 : Int) := (by omega); have q141 : 0 < (l0_3.length : Int) := dt; obtain ⟨ad141, A141_3, c141_3, e141, hx141_0, hx141_1, hx141_2, hx141_3, hl141_3, hi141_3⟩ := at_T33 HR0_3.out 0 p141 q141; obtain rfl : ad140 = ad141 := (by injection e141); have qi141 : (0 < l0_3.length) = True := eq_true (by omega); (try rw [show ((0 : Int)).toNat = 0 from rfl] at hx141_0); (try rw [show 0 * 4 = 0 from rfl] at hx141_0); (try rw [Addr.add_zero'] at hx141_0); (try rw [show ((0 : Int)).toNat = 0 from rfl] at hx141_1); (try rw [show 0 * 4 = 0 from rfl] at hx141_1); (try rw [Addr.add_zero'] at hx141_1); (try rw [show ((0 : Int)).toNat = 0 from rfl] at hx141_2); (try rw [show 0 * 4 = 0 from rfl] at hx141_2); (try rw [Addr.add_zero'] at hx141_2); (try rw [show ((0 : Int)).toNat = 0 from rfl] at hx141_3); (try rw [show 0 * 4 = 0 from rfl] at hx141_3); (try rw [Addr.add_zero'] at hx141_3); replace hx141_0 := hcB HB.out hx141_0; replace hx141_1 := hcB HB.out hx141_1; replace hx141_2 := hcB HB.out hx141_2; replace hx141_3 := hcB HB.out hx141_3; have HR141_3 := Aside0.mk hi141_3; have HC141_3 := Aside0.mk hl141_3; clear hi141_3 hl141_3; replace p141 := eq_true p141; replace q141 := eq_true q141; have ea_ := Option.some.inj (hx140_3.symm.trans hx141_3); injection ea_ with ea_ en_ ec_; subst ea_; subst ec_; clear en_; have p142 : 0 ≤ (1 : Int) := (by omega); have q142 : 1 < (l0_3.length : Int) := dt; obtain ⟨ad142, A142_3, c142_3, e142, hx142_0, hx142_1, hx142_2, hx142_3, hl142_3, hi142_3⟩ := at_T33 HR0_3.out 1 p142 q142; obtain rfl : ad140 = ad142 := (by injection e142); (try simp only [show (1 : Int).toNat = 1 from rfl, Nat.reduceMul, Nat.reduceEqDiff, Go.Addr.add, ↓reduceIte] at hx142_0); (try simp only [show (1 : Int).toNat = 1 from rfl, Nat.reduceMul, Nat.reduceEqDiff, Go.Addr.add, ↓reduceIte] at hx142_1); (try simp only [show (1 : Int).toNat = 1 from rfl, Nat.reduceMul, Nat.reduceEqDiff, Go.Addr.add, ↓reduceIte] at hx142_2); (try simp only [show (1 : Int).toNat = 1 from rfl, Nat.reduceMul, Nat.reduceEqDiff, Go.Addr.add, ↓reduceIte] at hx142_3); have qi142 : (1 < l0_3.length) = True := eq_true (by omega); (try rw [show ((1 : Int)).toNat = 1 from rfl] at hx142_0); (try rw [show 1 * 4 = 4 from rfl] at hx142_0); (try rw [show ((1 : Int)).toNat = 1 from rfl] at hx142_1); (try rw [show 1 * 4 = 4 from rfl] at hx142_1); (try rw [show ((1 : Int)).toNat = 1 from rfl] at hx142_2); (try rw [show 1 * 4 = 4 from rfl] at hx142_2); (try rw [show ((1 : Int)).toNat = 1 from rfl] at hx142_3); (try rw [show 1 * 4 = 4 from rfl] at hx142_3); replace hx142_0 := hcB HB.out hx142_0; replace hx142_1 := hcB HB.out hx142_1; replace hx142_2 := hcB HB.out hx142_2; replace hx142_3 := hcB HB.out hx142_3; have HR142_3 := Aside0.mk hi142_3; have HC142_3 := Aside0.mk hl142_3; clear hi142_3 hl142_3; replace p142 := eq_true p142; replace q142 := eq_true q142))
        go_ret
        exact ⟨re, bl⟩
      ·rw [if_neg c9] at H
       exact absurd H (by simp)
     ·obtain rfl := Option.some.inj H
      go_enter Tryd.func46, Tryd.ntmps46
      go_wp2_with (first | ((with_reducible refine gd 1 rfl ?_); (try (refine gate_guard (by rfl) ?_; dsimp only)); refine bx 1 #[.int .i64 a0_0, .string a0_1, .int .i64 a0_2, .slice A0_3 l0_3.length c0_3] 33 rfl rfl ?_; intro gb139 hg w31 hbox hb; have n_ := aC (bs hb) (aC hbox (aC (gz hg) (aE (gz hg)))); clear HB; obtain ⟨HB, BK139, GW139, GE139⟩ := n_; clear hb hbox hg; obtain ⟨hcz32_0, hcz32_1, hcz32_2, hcz32_3, hfz32_0, hfz32_1, hfz32_2, hfz32_3⟩ := cz4f BK139.out; have p140 : 0 ≤ (0 : Int) := (by omega); have q140 : 0 < (l0_3.length : Int) := dt; obtain ⟨ad140, A140_3, c140_3, e140, hx140_0, hx140_1, hx140_2, hx140_3, hl140_3, hi140_3⟩ := at_T33 HR0_3.out 0 p140 q140; cases e140; have qi140 : (0 < l0_3.length) = True := eq_true (by omega); (try rw [show ((0 : Int)).toNat = 0 from rfl] at hx140_0); (try rw [show 0 * 4 = 0 from rfl] at hx140_0); (try rw [Addr.add_zero'] at hx140_0); (try rw [show ((0 : Int)).toNat = 0 from rfl] at hx140_1); (try rw [show 0 * 4 = 0 from rfl] at hx140_1); (try rw [Addr.add_zero'] at hx140_1); (try rw [show ((0 : Int)).toNat = 0 from rfl] at hx140_2); (try rw [show 0 * 4 = 0 from rfl] at hx140_2); (try rw [Addr.add_zero'] at hx140_2); (try rw [show ((0 : Int)).toNat = 0 from rfl] at hx140_3); (try rw [show 0 * 4 = 0 from rfl] at hx140_3); (try rw [Addr.add_zero'] at hx140_3); replace hx140_0 := hcB HB.out hx140_0; replace hx140_1 := hcB HB.out hx140_1; replace hx140_2 := hcB HB.out hx140_2; replace hx140_3 := hcB HB.out hx140_3; have HR140_3 := Aside0.mk hi140_3; have HC140_3 := Aside0.mk hl140_3; clear hi140_3 hl140_3; replace p140 := eq_true p140; replace q140 := eq_true q140; have p141 : 0 ≤ (0 : Int) := (by omega); have q141 : 0 < (l0_3.length : Int) := dt; obtain ⟨ad141, A141_3, c141_3, e141, hx141_0, hx141_1, hx141_2, hx141_3, hl141_3, hi141_3⟩ := at_T33 HR0_3.out 0 p141 q141; obtain rfl : ad140 = ad141 := (by injection e141); have qi141 : (0 < l0_3.length) = True := eq_true (by omega); (try rw [show ((0 : Int)).toNat = 0 from rfl] at hx141_0); (try rw [show 0 * 4 = 0 from rfl] at hx141_0); (try rw [Addr.add_zero'] at hx141_0); (try rw [show ((0 : Int)).toNat = 0 from rfl] at hx141_1); (try rw [show 0 * 4 = 0 from rfl] at hx141_1); (try rw [Addr.add_zero'] at hx141_1); (try rw [show ((0 : Int)).toNat = 0 from rfl] at hx141_2); (try rw [show 0 * 4 = 0 from rfl] at hx141_2); (try rw [Addr.add_zero'] at hx141_2); (try rw [show ((0 : Int)).toNat = 0 from rfl] at hx141_3); (try rw [show 0 * 4 = 0 from rfl] at hx141_3); (try rw [Addr.add_zero'] at hx141_3); replace hx141_0 := hcB HB.out hx141_0; replace hx141_1 := hcB HB.out hx141_1; replace hx141_2 := hcB HB.out hx141_2; replace hx141_3 := hcB HB.out hx141_3; have HR141_3 := Aside0.mk hi141_3; have HC141_3 := Aside0.mk hl141_3; clear hi141_3 hl141_3; replace p141 := eq_true p141; replace q141 := eq_true q141; have ea_ := Option.some.inj (hx140_3.symm.trans hx141_3); injection ea_ with ea_ en_ ec_; subst ea_; subst ec_; clear en_))
      go_ret
      exact ⟨re, bl⟩
    ·obtain rfl := Option.some.inj H
     go_enter Tryd.func46, Tryd.ntmps46
     go_wp2_with (first | ((with_reducible refine gd 1 rfl ?_); (try (refine gate_guard (by rfl) ?_; dsimp only)); refine bx 1 #[.int .i64 a0_0, .string a0_1, .int .i64 a0_2, .slice A0_3 l0_3.length c0_3] 33 rfl rfl ?_; intro gb139 hg w33 hbox hb; have n_ := aC (bs hb) (aC hbox (aC (gz hg) (aE (gz hg)))); clear HB; obtain ⟨HB, BK139, GW139, GE139⟩ := n_; clear hb hbox hg; obtain ⟨hcz34_0, hcz34_1, hcz34_2, hcz34_3, hfz34_0, hfz34_1, hfz34_2, hfz34_3⟩ := cz4f BK139.out; have p140 : 0 ≤ (0 : Int) := (by omega); have q140 : 0 < (l0_3.length : Int) := dt; obtain ⟨ad140, A140_3, c140_3, e140, hx140_0, hx140_1, hx140_2, hx140_3, hl140_3, hi140_3⟩ := at_T33 HR0_3.out 0 p140 q140; cases e140; have qi140 : (0 < l0_3.length) = True := eq_true (by omega); (try rw [show ((0 : Int)).toNat = 0 from rfl] at hx140_0); (try rw [show 0 * 4 = 0 from rfl] at hx140_0); (try rw [Addr.add_zero'] at hx140_0); (try rw [show ((0 : Int)).toNat = 0 from rfl] at hx140_1); (try rw [show 0 * 4 = 0 from rfl] at hx140_1); (try rw [Addr.add_zero'] at hx140_1); (try rw [show ((0 : Int)).toNat = 0 from rfl] at hx140_2); (try rw [show 0 * 4 = 0 from rfl] at hx140_2); (try rw [Addr.add_zero'] at hx140_2); (try rw [show ((0 : Int)).toNat = 0 from rfl] at hx140_3); (try rw [show 0 * 4 = 0 from rfl] at hx140_3); (try rw [Addr.add_zero'] at hx140_3); replace hx140_0 := hcB HB.out hx140_0; replace hx140_1 := hcB HB.out hx140_1; replace hx140_2 := hcB HB.out hx140_2; replace hx140_3 := hcB HB.out hx140_3; have HR140_3 := Aside0.mk hi140_3; have HC140_3 := Aside0.mk hl140_3; clear hi140_3 hl140_3; replace p140 := eq_true p140; replace q140 := eq_true q140))
     go_ret
     exact ⟨re, bl⟩
   ·rw [if_neg c6] at H
    exact absurd H (by simp)
 ·obtain rfl := Option.some.inj H
  go_enter Tryd.func46, Tryd.ntmps46
  go_wp2_with (first | ((with_reducible refine gd 1 rfl ?_); (try (refine gate_guard (by rfl) ?_; dsimp only)); refine bx 1 #[.int .i64 a0_0, .string a0_1, .int .i64 a0_2, .slice A0_3 l0_3.length c0_3] 33 rfl rfl ?_; intro gb139 hg w35 hbox hb; have n_ := aC (bs hb) (aC hbox (aC (gz hg) (aE (gz hg)))); clear HB; obtain ⟨HB, BK139, GW139, GE139⟩ := n_; clear hb hbox hg; obtain ⟨hcz36_0, hcz36_1, hcz36_2, hcz36_3, hfz36_0, hfz36_1, hfz36_2, hfz36_3⟩ := cz4f BK139.out))
  go_ret
  exact ⟨re, bl⟩
def note_IsNotes_1.f (k : Nat) (a0_0 : Int) (a0_1 : ByteArray) (a0_2 : Int) (l0_3 : List (S33)) : Option (Bool) := (note_isNote.f k a0_0 a0_1 a0_2 l0_3).bind fun t152 => (some (!t152))
theorem note_IsNotes_1.mono : ∀ a0 a1 a2 a3 k, LeO (note_IsNotes_1.f k a0 a1 a2 a3) (note_IsNotes_1.f (k + 1) a0 a1 a2 a3) := by
 intro a0 a1 a2 a3 k
 unfold note_IsNotes_1.f
 repeat' first
   | (with_reducible exact note_isNote.mono _ _ _ _ _)
   | (with_reducible first | exact LeO.refl _ | exact LeO.none _ | refine LeO.ite ?_ ?_ | refine LeO.bind ?_ (fun _ => ?_))
set_option maxHeartbeats 8000000 in
set_option maxRecDepth 100000 in
theorem note_IsNotes_1.calls (k : Nat) (a0_0 : Int) (a0_1 : ByteArray) (a0_2 : Int) (A0_3 : Option Addr) (c0_3 : Nat) (l0_3 : List (S33)) (r : Bool) (w : World) (hr0_3 : Kd.C k33 w A0_3 l0_3.length l0_3) (hc0_3 : l0_3.length ≤ c0_3) (h : note_IsNotes_1.f k a0_0 a0_1 a0_2 l0_3 = some r) :
  Calls Tryd.prog 45 #[.agg #[.int .i64 a0_0, .string a0_1, .int .i64 a0_2, .slice A0_3 l0_3.length c0_3]] w fun e w' => e = .returned (.bool r) ∧ Below w.heap.size w w' := by
 have hu33 := Tryd.underlying33
 have HR0_3 := Aside0.mk hr0_3
 have HC0_3 := Aside0.mk hc0_3
 clear hr0_3 hc0_3
 have HB := Aside0.mk (Below.refl w.heap.size w)
 have H : ((note_isNote.f k a0_0 a0_1 a0_2 l0_3).bind fun t152 => (some (!t152))) = some r := h
 clear h
 obtain ⟨t152, A2, H⟩ := oB H
 try dsimp only at H
 obtain rfl := Option.some.inj H
 go_enter Tryd.func45, Tryd.ntmps45
 go_wp2_with (first | ((with_reducible refine gd 1 rfl ?_); refine bx 1 #[.int .i64 a0_0, .string a0_1, .int .i64 a0_2, .slice A0_3 l0_3.length c0_3] 33 rfl rfl ?_; intro gb151 hg w3 hbox hb; have n_ := aC (bs hb) (aC hbox (aC (gz hg) (aE (gz hg)))); clear HB; obtain ⟨HB, BK151, GW151, GE151⟩ := n_; clear hb hbox hg; obtain ⟨hcz4_0, hcz4_1, hcz4_2, hcz4_3, hfz4_0, hfz4_1, hfz4_2, hfz4_3⟩ := cz4f BK151.out) | (refine gF 46 4 Tryd.func46 #[.agg #[.int .i64 a0_0, .string a0_1, .int .i64 a0_2, .slice A0_3 l0_3.length c0_3]] rfl rfl ?_; (with_reducible refine (note_isNote.calls k a0_0 a0_1 a0_2 _ _ l0_3 t152 _ ?side1 ?side2 A2.out).mono ?_); (case side1 => exact cU (Kd.C_below HR0_3.out HB.out)); (case side2 => exact HC0_3.out); rintro e w5 ⟨rfl, hb⟩; refine ⟨_, rfl, ?_⟩; have n_ := aC (blk_below (bU BK151.out) hb) (aE (bs hb)); clear BK151 HB; obtain ⟨BK151, HB⟩ := n_))
 go_ret
 exact ⟨re, bl⟩
def slices_IndexFunc_45.l0 : Nat → List (S33) → Int → Int → Option (Int)
 | 0, _, _, _ => none
 | k + 1, x0, x7, x8 => if x8 < x7 then (if 0 ≤ x8 then (if x8 < (x0.length : Int) then ((note_IsNotes_1.f k ((rd_T33 x0 x8).f0) ((rd_T33 x0 x8).f1) ((rd_T33 x0 x8).f2) ((rd_T33 x0 x8).f3)).bind fun t154 => (if t154 = true then (some x8) else (slices_IndexFunc_45.l0 k x0 x7 (wrap64 (x8 + 1))))) else (none)) else (none)) else (some (-1))
def slices_IndexFunc_45.f (k : Nat) (l0 : List (S33))  : Option (Int) := slices_IndexFunc_45.l0 k l0 (l0.length : Int) 0
theorem slices_IndexFunc_45.mono_l : ∀ k, (∀ y0 y1 y2, LeO (slices_IndexFunc_45.l0 k y0 y1 y2) (slices_IndexFunc_45.l0 (k + 1) y0 y1 y2))
 | 0 => fun _ _ _ r h => by simp [slices_IndexFunc_45.l0] at h
 | k + 1 => by
  have ih0 := slices_IndexFunc_45.mono_l k
  ·intro y0 y1 y2
   unfold slices_IndexFunc_45.l0
   repeat' first
   | (with_reducible exact ih0 _ _ _)
   | (with_reducible exact note_IsNotes_1.mono _ _ _ _ _)
   | (with_reducible first | exact LeO.refl _ | exact LeO.none _ | refine LeO.ite ?_ ?_ | refine LeO.bind ?_ (fun _ => ?_))
theorem slices_IndexFunc_45.mono : ∀ a0 k, LeO (slices_IndexFunc_45.f k a0) (slices_IndexFunc_45.f (k + 1) a0) := by
 intro a0 k
 have ih0 := slices_IndexFunc_45.mono_l k
 unfold slices_IndexFunc_45.f
 repeat' first
   | (with_reducible exact ih0 _ _ _)
   | (with_reducible exact note_IsNotes_1.mono _ _ _ _ _)
   | (with_reducible first | exact LeO.refl _ | exact LeO.none _ | refine LeO.ite ?_ ?_ | refine LeO.bind ?_ (fun _ => ?_))
set_option maxHeartbeats 8000000 in
set_option maxRecDepth 100000 in
theorem slices_IndexFunc_45.calls (k : Nat) (A0 : Option Addr) (c0 : Nat) (l0 : List (S33))  (r : Int) (w : World) (hr0 : Kd.C k33 w A0 l0.length l0) (hc0 : l0.length ≤ c0) (h : slices_IndexFunc_45.f k l0 = some r) :
  Calls Tryd.prog 67 #[.slice A0 l0.length c0, .func (.func 45) #[] #[]] w fun e w' => e = .returned (.int .i64 r) ∧ Below w.heap.size w w' := by
 have hu33 := Tryd.underlying33
 have HR0 := Aside0.mk hr0
 have HC0 := Aside0.mk hc0
 clear hr0 hc0
 have HB := Aside0.mk (Below.refl w.heap.size w)
 have H : (slices_IndexFunc_45.l0 k l0 (l0.length : Int) 0) = some r := h
 clear h
 have H' := Aside0.mk H
 clear H
 go_enter Tryd.func67, Tryd.ntmps67
 go_wp2
 go_loopg [8] k (fun kq v8 w' => ∃ (x8_1 : Int), v8 = .int .i64 x8_1 ∧ Aside0 (slices_IndexFunc_45.l0 kq l0 (l0.length : Int) x8_1 = some r) ∧ Aside0 (kq ≤ k) ∧ Aside0 (Below w.heap.size w w'))
 case atStart => exact ⟨(0), rq, H', ⟨Nat.le_refl _⟩, ⟨bl⟩⟩
 case round =>
  clear H'
  obtain ⟨x8_1, rfl, HA, HK1, HB⟩ := hrel
  cases gk with
  | zero => exact absurd HA.out (by simp [slices_IndexFunc_45.l0])
  | succ k1 =>
   have H := HA.out
   clear HA
   simp only [slices_IndexFunc_45.l0] at H
   rcases iL H with H1 | H1 <;> clear H <;> obtain ⟨H, c3b0⟩ := H1
   ·by_cases c4 : 0 ≤ x8_1
    ·rw [if_pos c4] at H
     have c4b0 := decide_eq_true c4
     clear c4
     by_cases c5 : x8_1 < (l0.length : Int)
     ·rw [if_pos c5] at H
      have c5b0 := decide_eq_true c5
      clear c5
      obtain ⟨t154, A6, H⟩ := oB H
      try dsimp only at H
      by_cases c7 : t154 = true
      ·subst c7
       rw [if_pos rfl] at H
       obtain rfl := Option.some.inj H
       have p153 : 0 ≤ (x8_1 : Int) := dt
       have q153 : x8_1 < (l0.length : Int) := dt
       obtain ⟨ad153, A153_3, c153_3, e153, hx153_0, hx153_1, hx153_2, hx153_3, hl153_3, hi153_3⟩ := at_T33 HR0.out x8_1 p153 q153
       cases e153
       replace hx153_0 := hcB HB.out hx153_0
       replace hx153_1 := hcB HB.out hx153_1
       replace hx153_2 := hcB HB.out hx153_2
       replace hx153_3 := hcB HB.out hx153_3
       have HR153_3 := Aside0.mk hi153_3
       have HC153_3 := Aside0.mk hl153_3
       clear hi153_3 hl153_3
       replace p153 := eq_true p153
       replace q153 := eq_true q153
       go_wp2_with (first | ((with_reducible refine gate_value rfl ?_); refine goesV_ (some 16) rfl rfl Tryd.func45 (by kernel_rfl) rfl #[.agg #[.int .i64 ((rd_T33 l0 x8_1).f0), .string ((rd_T33 l0 x8_1).f1), .int .i64 ((rd_T33 l0 x8_1).f2), .slice A153_3 ((rd_T33 l0 x8_1).f3).length c153_3]] rfl rfl (by (try simp only [List.map_toArray, List.map_cons, List.map_nil]); first | done | rfl | (simp only [List.length_drop, List.length_take]; rfl)) ?_; (with_reducible refine (note_IsNotes_1.calls k1 ((rd_T33 l0 x8_1).f0) ((rd_T33 l0 x8_1).f1) ((rd_T33 l0 x8_1).f2) _ _ ((rd_T33 l0 x8_1).f3) true _ ?side1 ?side2 A6.out).mono ?_); (case side1 => exact cU (Kd.C_below HR153_3.out HB.out)); (case side2 => exact HC153_3.out); rintro e w8 ⟨rfl, hb⟩; refine ⟨_, rfl, ?_⟩; have n_ := aE (bs hb); clear HB; have HB := n_; clear n_))
       go_ret
       exact ⟨re, bl⟩
      ·replace c7 := Bool.eq_false_iff.mpr c7
       subst c7
       rw [if_neg Bool.false_ne_true] at H
       have H' := Aside0.mk H
       clear H
       have p153 : 0 ≤ (x8_1 : Int) := dt
       have q153 : x8_1 < (l0.length : Int) := dt
       obtain ⟨ad153, A153_3, c153_3, e153, hx153_0, hx153_1, hx153_2, hx153_3, hl153_3, hi153_3⟩ := at_T33 HR0.out x8_1 p153 q153
       cases e153
       replace hx153_0 := hcB HB.out hx153_0
       replace hx153_1 := hcB HB.out hx153_1
       replace hx153_2 := hcB HB.out hx153_2
       replace hx153_3 := hcB HB.out hx153_3
       have HR153_3 := Aside0.mk hi153_3
       have HC153_3 := Aside0.mk hl153_3
       clear hi153_3 hl153_3
       replace p153 := eq_true p153
       replace q153 := eq_true q153
       go_wp2_with (first | ((with_reducible refine gate_value rfl ?_); refine goesV_ (some 16) rfl rfl Tryd.func45 (by kernel_rfl) rfl #[.agg #[.int .i64 ((rd_T33 l0 x8_1).f0), .string ((rd_T33 l0 x8_1).f1), .int .i64 ((rd_T33 l0 x8_1).f2), .slice A153_3 ((rd_T33 l0 x8_1).f3).length c153_3]] rfl rfl (by (try simp only [List.map_toArray, List.map_cons, List.map_nil]); first | done | rfl | (simp only [List.length_drop, List.length_take]; rfl)) ?_; (with_reducible refine (note_IsNotes_1.calls k1 ((rd_T33 l0 x8_1).f0) ((rd_T33 l0 x8_1).f1) ((rd_T33 l0 x8_1).f2) _ _ ((rd_T33 l0 x8_1).f3) false _ ?side1 ?side2 A6.out).mono ?_); (case side1 => exact cU (Kd.C_below HR153_3.out HB.out)); (case side2 => exact HC153_3.out); rintro e w9 ⟨rfl, hb⟩; refine ⟨_, rfl, ?_⟩; have n_ := aE (bs hb); clear HB; have HB := n_; clear n_))
       go_roundg k1
       case measure => have := HK1.out; omega
       case rel => exact ⟨(wrap64 (x8_1 + 1)), rq, H', ⟨by have := HK1.out; omega⟩, ⟨bl⟩⟩
     ·rw [if_neg c5] at H
      exact absurd H (by simp)
    ·rw [if_neg c4] at H
     exact absurd H (by simp)
   ·obtain rfl := Option.some.inj H
    go_wp2
    go_ret
    exact ⟨re, bl⟩
def slices_ContainsFunc_45.f (k : Nat) (l0 : List (S33))  : Option (Bool) := (slices_IndexFunc_45.f k l0).bind fun t155 => (some (decide (t155 ≥ 0)))
theorem slices_ContainsFunc_45.mono : ∀ a0 k, LeO (slices_ContainsFunc_45.f k a0) (slices_ContainsFunc_45.f (k + 1) a0) := by
 intro a0 k
 unfold slices_ContainsFunc_45.f
 repeat' first
   | (with_reducible exact slices_IndexFunc_45.mono _ _)
   | (with_reducible first | exact LeO.refl _ | exact LeO.none _ | refine LeO.ite ?_ ?_ | refine LeO.bind ?_ (fun _ => ?_))
set_option maxHeartbeats 8000000 in
set_option maxRecDepth 100000 in
theorem slices_ContainsFunc_45.calls (k : Nat) (A0 : Option Addr) (c0 : Nat) (l0 : List (S33))  (r : Bool) (w : World) (hr0 : Kd.C k33 w A0 l0.length l0) (hc0 : l0.length ≤ c0) (h : slices_ContainsFunc_45.f k l0 = some r) :
  Calls Tryd.prog 44 #[.slice A0 l0.length c0, .func (.func 45) #[] #[]] w fun e w' => e = .returned (.bool r) ∧ Below w.heap.size w w' := by
 have HR0 := Aside0.mk hr0
 have HC0 := Aside0.mk hc0
 clear hr0 hc0
 have HB := Aside0.mk (Below.refl w.heap.size w)
 have H : ((slices_IndexFunc_45.f k l0).bind fun t155 => (some (decide (t155 ≥ 0)))) = some r := h
 clear h
 obtain ⟨t155, A3, H⟩ := oB H
 try dsimp only at H
 obtain rfl := Option.some.inj H
 go_enter Tryd.func44, Tryd.ntmps44
 go_wp2_with (first | (refine gF 67 7 Tryd.func67 #[.slice A0 l0.length c0, .func (.func 45) #[] #[]] rfl rfl ?_; (with_reducible refine (slices_IndexFunc_45.calls k _ _ l0  t155 _ ?side1 ?side2 A3.out).mono ?_); (case side1 => exact cU HR0.out); (case side2 => exact HC0.out); rintro e w4 ⟨rfl, hb⟩; refine ⟨_, rfl, ?_⟩; have n_ := aE (bs hb); clear HB; have HB := n_; clear n_))
 go_ret
 exact ⟨re, bl⟩
def note_IsNotes.f (k : Nat) (a0_0 : Int) (a0_1 : ByteArray) (a0_2 : Int) (l0_3 : List (S33)) : Option (Bool) := (note_Valid.f k a0_0 a0_1 a0_2 l0_3).bind fun t157 => (if t157 = true then (if a0_0 = 0 then ((slices_ContainsFunc_45.f k l0_3).bind fun t158 => (some (!t158))) else (some false)) else (some false))
theorem note_IsNotes.mono : ∀ a0 a1 a2 a3 k, LeO (note_IsNotes.f k a0 a1 a2 a3) (note_IsNotes.f (k + 1) a0 a1 a2 a3) := by
 intro a0 a1 a2 a3 k
 unfold note_IsNotes.f
 repeat' first
   | (with_reducible exact note_Valid.mono _ _ _ _ _)
   | (with_reducible exact slices_ContainsFunc_45.mono _ _)
   | (with_reducible first | exact LeO.refl _ | exact LeO.none _ | refine LeO.ite ?_ ?_ | refine LeO.bind ?_ (fun _ => ?_))
set_option maxHeartbeats 8000000 in
set_option maxRecDepth 100000 in
theorem note_IsNotes.calls (k : Nat) (a0_0 : Int) (a0_1 : ByteArray) (a0_2 : Int) (A0_3 : Option Addr) (c0_3 : Nat) (l0_3 : List (S33)) (r : Bool) (w : World) (hr0_3 : Kd.C k33 w A0_3 l0_3.length l0_3) (hc0_3 : l0_3.length ≤ c0_3) (h : note_IsNotes.f k a0_0 a0_1 a0_2 l0_3 = some r) :
  Calls Tryd.prog 19 #[.agg #[.int .i64 a0_0, .string a0_1, .int .i64 a0_2, .slice A0_3 l0_3.length c0_3]] w fun e w' => e = .returned (.bool r) ∧ Below w.heap.size w w' := by
 have hu33 := Tryd.underlying33
 have HR0_3 := Aside0.mk hr0_3
 have HC0_3 := Aside0.mk hc0_3
 clear hr0_3 hc0_3
 have HB := Aside0.mk (Below.refl w.heap.size w)
 have H := h
 unfold note_IsNotes.f at H
 clear h
 obtain ⟨t157, A2, H⟩ := oB H
 try dsimp only at H
 by_cases c3 : t157 = true
 ·subst c3
  rw [if_pos rfl] at H
  rcases iE H with H1 | H1 <;> clear H <;> obtain ⟨H, c4b0, c4b1, c4⟩ := H1
  ·obtain ⟨t158, A5, H⟩ := oB H
   try dsimp only at H
   obtain rfl := Option.some.inj H
   go_enter Tryd.func19, Tryd.ntmps19
   go_wp2_with (first | ((with_reducible refine gd 1 rfl ?_); refine bx 1 #[.int .i64 a0_0, .string a0_1, .int .i64 a0_2, .slice A0_3 l0_3.length c0_3] 33 rfl rfl ?_; intro gb156 hg w6 hbox hb; have n_ := aC (bs hb) (aC hbox (aC (gz hg) (aE (gz hg)))); clear HB; obtain ⟨HB, BK156, GW156, GE156⟩ := n_; clear hb hbox hg; obtain ⟨hcz7_0, hcz7_1, hcz7_2, hcz7_3, hfz7_0, hfz7_1, hfz7_2, hfz7_3⟩ := cz4f BK156.out) | (refine gF 33 4 Tryd.func33 #[.agg #[.int .i64 a0_0, .string a0_1, .int .i64 a0_2, .slice A0_3 l0_3.length c0_3]] rfl rfl ?_; (with_reducible refine (note_Valid.calls k a0_0 a0_1 a0_2 _ _ l0_3 true _ ?side1 ?side2 A2.out).mono ?_); (case side1 => exact cU (Kd.C_below HR0_3.out HB.out)); (case side2 => exact HC0_3.out); rintro e w8 ⟨rfl, hb⟩; refine ⟨_, rfl, ?_⟩; have n_ := aC (blk_below (bU BK156.out) hb) (aE (bs hb)); clear BK156 HB; obtain ⟨BK156, HB⟩ := n_; obtain ⟨hcz9_0, hcz9_1, hcz9_2, hcz9_3, hfz9_0, hfz9_1, hfz9_2, hfz9_3⟩ := cz4f BK156.out) | (go_at_call 44; (with_reducible refine (slices_ContainsFunc_45.calls k _ _ l0_3  t158 _ ?side1 ?side2 A5.out).mono ?_); (case side1 => exact cU (Kd.C_below HR0_3.out HB.out)); (case side2 => exact HC0_3.out); rintro e w10 ⟨rfl, hb⟩; have n_ := aC (blk_below (bU BK156.out) hb) (aE (bs hb)); clear BK156 HB; obtain ⟨BK156, HB⟩ := n_))
   go_ret
   exact ⟨re, bl⟩
  ·obtain rfl := Option.some.inj H
   go_enter Tryd.func19, Tryd.ntmps19
   go_wp2_with (first | ((with_reducible refine gd 1 rfl ?_); refine bx 1 #[.int .i64 a0_0, .string a0_1, .int .i64 a0_2, .slice A0_3 l0_3.length c0_3] 33 rfl rfl ?_; intro gb156 hg w11 hbox hb; have n_ := aC (bs hb) (aC hbox (aC (gz hg) (aE (gz hg)))); clear HB; obtain ⟨HB, BK156, GW156, GE156⟩ := n_; clear hb hbox hg; obtain ⟨hcz12_0, hcz12_1, hcz12_2, hcz12_3, hfz12_0, hfz12_1, hfz12_2, hfz12_3⟩ := cz4f BK156.out) | (refine gF 33 4 Tryd.func33 #[.agg #[.int .i64 a0_0, .string a0_1, .int .i64 a0_2, .slice A0_3 l0_3.length c0_3]] rfl rfl ?_; (with_reducible refine (note_Valid.calls k a0_0 a0_1 a0_2 _ _ l0_3 true _ ?side1 ?side2 A2.out).mono ?_); (case side1 => exact cU (Kd.C_below HR0_3.out HB.out)); (case side2 => exact HC0_3.out); rintro e w13 ⟨rfl, hb⟩; refine ⟨_, rfl, ?_⟩; have n_ := aC (blk_below (bU BK156.out) hb) (aE (bs hb)); clear BK156 HB; obtain ⟨BK156, HB⟩ := n_; obtain ⟨hcz14_0, hcz14_1, hcz14_2, hcz14_3, hfz14_0, hfz14_1, hfz14_2, hfz14_3⟩ := cz4f BK156.out))
   go_ret
   exact ⟨re, bl⟩
 ·replace c3 := Bool.eq_false_iff.mpr c3
  subst c3
  rw [if_neg Bool.false_ne_true] at H
  obtain rfl := Option.some.inj H
  go_enter Tryd.func19, Tryd.ntmps19
  go_wp2_with (first | ((with_reducible refine gd 1 rfl ?_); refine bx 1 #[.int .i64 a0_0, .string a0_1, .int .i64 a0_2, .slice A0_3 l0_3.length c0_3] 33 rfl rfl ?_; intro gb156 hg w15 hbox hb; have n_ := aC (bs hb) (aC hbox (aC (gz hg) (aE (gz hg)))); clear HB; obtain ⟨HB, BK156, GW156, GE156⟩ := n_; clear hb hbox hg; obtain ⟨hcz16_0, hcz16_1, hcz16_2, hcz16_3, hfz16_0, hfz16_1, hfz16_2, hfz16_3⟩ := cz4f BK156.out) | (refine gF 33 4 Tryd.func33 #[.agg #[.int .i64 a0_0, .string a0_1, .int .i64 a0_2, .slice A0_3 l0_3.length c0_3]] rfl rfl ?_; (with_reducible refine (note_Valid.calls k a0_0 a0_1 a0_2 _ _ l0_3 false _ ?side1 ?side2 A2.out).mono ?_); (case side1 => exact cU (Kd.C_below HR0_3.out HB.out)); (case side2 => exact HC0_3.out); rintro e w17 ⟨rfl, hb⟩; refine ⟨_, rfl, ?_⟩; have n_ := aC (blk_below (bU BK156.out) hb) (aE (bs hb)); clear BK156 HB; obtain ⟨BK156, HB⟩ := n_))
  go_ret
  exact ⟨re, bl⟩
end Go.Proofs.YtacdchogjpeffaaDoor.PNoteHits
