-- printed (wip/tools/myprint.py)
import Derived.Test.YtacdchogjpeffaaDoorPNoteHitsx0
import Derived.Test.YtacdchogjpeffaaDoorPNoteHitsx9
import Derived.Test.YtacdchogjpeffaaDoorPNoteHitsx10
import Derived.Test.YtacdchogjpeffaaDoorPNoteHitsx11
namespace Go.Proofs.YtacdchogjpeffaaDoor.PNoteHits
open Go.RowKit Go.Proofs.YtacdchogjpeffaaDoorW.PrintWords Go.Proofs.YtacdchogjpeffaaDoorW.PrintLast Go.Proofs.YtacdchogjpeffaaDoorW.PrintMore
attribute [local go_sem] max2_int min2_int max_two min_two max_three min_three max_four min_four
set_option linter.unusedVariables false
set_option linter.unusedSimpArgs false
mutual
def incunableref25_IsNotes.j0 : Nat → Bool → Int → ByteArray → Int → List (S33) → Option (Bool)
 | 0, _, _, _, _, _ => none
 | k + 1, x11, x232000, x232001, x232002, x232003 => if x11 = true then (some false) else (incunableref25_IsNotes.l0 k 0 x232000 x232001 x232002 x232003)
def incunableref25_IsNotes.l0 : Nat → Int → Int → ByteArray → Int → List (S33) → Option (Bool)
 | 0, _, _, _, _, _ => none
 | k + 1, x3, x232000, x232001, x232002, x232003 => if x3 < (x232003.length : Int) then (if 0 ≤ x3 then ((incunableref25_isNote.f k ((rd_T33 x232003 x3).f0) ((rd_T33 x232003 x3).f1) ((rd_T33 x232003 x3).f2) ((rd_T33 x232003 x3).f3)).bind fun t234 => (if t234 = true then (incunableref25_IsNotes.l0 k (wrap64 (x3 + 1)) x232000 x232001 x232002 x232003) else (some false))) else (none)) else (some true)
end
def incunableref25_IsNotes.f (k : Nat) (a0_0 : Int) (a0_1 : ByteArray) (a0_2 : Int) (l0_3 : List (S33)) : Option (Bool) := (incunableref25_Valid.f k a0_0 a0_1 a0_2 l0_3).bind fun t232 => (if t232 = true then (incunableref25_IsNotes.j0 k (a0_0 != 0) a0_0 a0_1 a0_2 l0_3) else (incunableref25_IsNotes.j0 k true a0_0 a0_1 a0_2 l0_3))
theorem incunableref25_IsNotes.mono_l : ∀ k, (∀ y0 y1 y2 y3 y4, LeO (incunableref25_IsNotes.j0 k y0 y1 y2 y3 y4) (incunableref25_IsNotes.j0 (k + 1) y0 y1 y2 y3 y4)) ∧ (∀ y0 y1 y2 y3 y4, LeO (incunableref25_IsNotes.l0 k y0 y1 y2 y3 y4) (incunableref25_IsNotes.l0 (k + 1) y0 y1 y2 y3 y4))
 | 0 => ⟨fun _ _ _ _ _ r h => by simp [incunableref25_IsNotes.j0] at h, fun _ _ _ _ _ r h => by simp [incunableref25_IsNotes.l0] at h⟩
 | k + 1 => by
  obtain ⟨ih0, ih1⟩ := incunableref25_IsNotes.mono_l k
  refine ⟨?_, ?_⟩
  ·intro y0 y1 y2 y3 y4
   unfold incunableref25_IsNotes.j0
   repeat' first
   | (with_reducible exact ih0 _ _ _ _ _)
   | (with_reducible exact ih1 _ _ _ _ _)
   | (with_reducible exact incunableref25_Valid.mono _ _ _ _ _)
   | (with_reducible exact incunableref25_isNote.mono _ _ _ _ _)
   | (with_reducible first | exact LeO.refl _ | exact LeO.none _ | refine LeO.ite ?_ ?_ | refine LeO.bind ?_ (fun _ => ?_))
  ·intro y0 y1 y2 y3 y4
   unfold incunableref25_IsNotes.l0
   repeat' first
   | (with_reducible exact ih0 _ _ _ _ _)
   | (with_reducible exact ih1 _ _ _ _ _)
   | (with_reducible exact incunableref25_Valid.mono _ _ _ _ _)
   | (with_reducible exact incunableref25_isNote.mono _ _ _ _ _)
   | (with_reducible first | exact LeO.refl _ | exact LeO.none _ | refine LeO.ite ?_ ?_ | refine LeO.bind ?_ (fun _ => ?_))
theorem incunableref25_IsNotes.mono : ∀ a0 a1 a2 a3 k, LeO (incunableref25_IsNotes.f k a0 a1 a2 a3) (incunableref25_IsNotes.f (k + 1) a0 a1 a2 a3) := by
 intro a0 a1 a2 a3 k
 obtain ⟨ih0, ih1⟩ := incunableref25_IsNotes.mono_l k
 unfold incunableref25_IsNotes.f
 repeat' first
   | (with_reducible exact ih0 _ _ _ _ _)
   | (with_reducible exact ih1 _ _ _ _ _)
   | (with_reducible exact incunableref25_Valid.mono _ _ _ _ _)
   | (with_reducible exact incunableref25_isNote.mono _ _ _ _ _)
   | (with_reducible first | exact LeO.refl _ | exact LeO.none _ | refine LeO.ite ?_ ?_ | refine LeO.bind ?_ (fun _ => ?_))
set_option maxHeartbeats 8000000 in
set_option maxRecDepth 100000 in
theorem incunableref25_IsNotes.calls (k : Nat) (a0_0 : Int) (a0_1 : ByteArray) (a0_2 : Int) (A0_3 : Option Addr) (c0_3 : Nat) (l0_3 : List (S33)) (r : Bool) (w : World) (hr0_3 : Kd.C k33 w A0_3 l0_3.length l0_3) (hc0_3 : l0_3.length ≤ c0_3) (h : incunableref25_IsNotes.f k a0_0 a0_1 a0_2 l0_3 = some r) :
  Calls Tryd.prog 20 #[.agg #[.int .i64 a0_0, .string a0_1, .int .i64 a0_2, .slice A0_3 l0_3.length c0_3]] w fun e w' => e = .returned (.bool r) ∧ Below w.heap.size w w' := by
 have hu33 := Tryd.underlying33
 have HR0_3 := Aside0.mk hr0_3
 have HC0_3 := Aside0.mk hc0_3
 clear hr0_3 hc0_3
 have HB := Aside0.mk (Below.refl w.heap.size w)
 have H := h
 unfold incunableref25_IsNotes.f at H
 clear h
 have HC2 := Aside0.mk H
 clear H
 go_enter Tryd.func20, Tryd.ntmps20
 go_upto_region 1 with (first | ((with_reducible refine gd 1 rfl ?_); refine bx 1 #[.int .i64 a0_0, .string a0_1, .int .i64 a0_2, .slice A0_3 l0_3.length c0_3] 33 rfl rfl ?_; intro gb231 hg w3 hbox hb; have n_ := aC (bs hb) (aC hbox (aC (gz hg) (aE (gz hg)))); clear HB; obtain ⟨HB, BK231, GW231, GE231⟩ := n_; clear hb hbox hg))
 (try simp only [Act.put, List.setIfInBounds_toArray, List.set_cons_zero, List.set_cons_succ])
 go_cut [11] (fun v11 wc => ∃ (kq : Nat) (x11_1 : Bool), v11 = .bool x11_1 ∧ Aside0 (incunableref25_IsNotes.j0 kq x11_1 a0_0 a0_1 a0_2 l0_3 = some r) ∧ Aside0 (kq ≤ k) ∧ Aside0 (wc.heap[gb231]? = some (.cells #[.int .i64 a0_0, .string a0_1, .int .i64 a0_2, (.slice A0_3 l0_3.length c0_3)] 33 (0, 0))) ∧ Aside0 (Below w.heap.size w wc))
 case first =>
  have H := HC2.out
  clear HC2
  obtain ⟨t232, A4, H⟩ := oB H
  try dsimp only at H
  by_cases c5 : t232 = true
  ·subst c5
   rw [if_pos rfl] at H
   have H' := Aside0.mk H
   clear H
   obtain ⟨hcz6_0, hcz6_1, hcz6_2, hcz6_3, hfz6_0, hfz6_1, hfz6_2, hfz6_3⟩ := cz4f BK231.out
   go_wp2_with (first | (refine gF 34 5 Tryd.func34 #[.agg #[.int .i64 a0_0, .string a0_1, .int .i64 a0_2, .slice A0_3 l0_3.length c0_3]] rfl rfl ?_; (with_reducible refine (incunableref25_Valid.calls k a0_0 a0_1 a0_2 _ _ l0_3 true _ ?side1 ?side2 A4.out).mono ?_); (case side1 => exact cU (Kd.C_below HR0_3.out HB.out)); (case side2 => exact HC0_3.out); rintro e w7 ⟨rfl, hb⟩; refine ⟨_, rfl, ?_⟩; have n_ := aC (blk_below (bU BK231.out) hb) (aE (bs hb)); clear BK231 HB; obtain ⟨BK231, HB⟩ := n_; obtain ⟨hcz8_0, hcz8_1, hcz8_2, hcz8_3, hfz8_0, hfz8_1, hfz8_2, hfz8_3⟩ := cz4f BK231.out))
   go_meet
   case rel => exact ⟨_, ((a0_0 != 0)), rq, H', ⟨by first | omega | exact Nat.le_refl _⟩, ⟨bU BK231.out⟩, ⟨bl⟩⟩
  ·replace c5 := Bool.eq_false_iff.mpr c5
   subst c5
   rw [if_neg Bool.false_ne_true] at H
   have H' := Aside0.mk H
   clear H
   obtain ⟨hcz9_0, hcz9_1, hcz9_2, hcz9_3, hfz9_0, hfz9_1, hfz9_2, hfz9_3⟩ := cz4f BK231.out
   go_wp2_with (first | (refine gF 34 5 Tryd.func34 #[.agg #[.int .i64 a0_0, .string a0_1, .int .i64 a0_2, .slice A0_3 l0_3.length c0_3]] rfl rfl ?_; (with_reducible refine (incunableref25_Valid.calls k a0_0 a0_1 a0_2 _ _ l0_3 false _ ?side1 ?side2 A4.out).mono ?_); (case side1 => exact cU (Kd.C_below HR0_3.out HB.out)); (case side2 => exact HC0_3.out); rintro e w10 ⟨rfl, hb⟩; refine ⟨_, rfl, ?_⟩; have n_ := aC (blk_below (bU BK231.out) hb) (aE (bs hb)); clear BK231 HB; obtain ⟨BK231, HB⟩ := n_))
   go_meet
   case rel => exact ⟨_, (true), rq, H', ⟨by first | omega | exact Nat.le_refl _⟩, ⟨bU BK231.out⟩, ⟨bl⟩⟩
 case rest =>
  clear HC2
  obtain ⟨kq, x11_1, rfl, HA, HJ1, BK231, HB⟩ := hcut
  cases kq with
  | zero => exact absurd HA.out (by simp [incunableref25_IsNotes.j0])
  | succ kj1 =>
   have H := HA.out
   clear HA
   simp only [incunableref25_IsNotes.j0] at H
   by_cases c11 : x11_1 = true
   ·subst c11
    rw [if_pos rfl] at H
    obtain rfl := Option.some.inj H
    go_wp2
    go_ret
    exact ⟨re, bl⟩
   ·replace c11 := Bool.eq_false_iff.mpr c11
    subst c11
    rw [if_neg Bool.false_ne_true] at H
    have H' := Aside0.mk H
    clear H
    go_wp2
    go_loopg [3] kj1 (fun kq v3 w' => ∃ (x3_2 : Int), v3 = .int .i64 x3_2 ∧ Aside0 (incunableref25_IsNotes.l0 kq x3_2 a0_0 a0_1 a0_2 l0_3 = some r) ∧ Aside0 (kq ≤ kj1) ∧ Aside0 (w'.heap[gb231]? = some (.cells #[.int .i64 a0_0, .string a0_1, .int .i64 a0_2, (.slice A0_3 l0_3.length c0_3)] 33 (0, 0))) ∧ Aside0 (Below w.heap.size w w'))
    case atStart => exact ⟨(0), rq, H', ⟨Nat.le_refl _⟩, ⟨bU BK231.out⟩, ⟨bl⟩⟩
    case round =>
     clear H'
     obtain ⟨x3_2, rfl, HA, HK2, BK231, HB⟩ := hrel
     cases gk with
     | zero => exact absurd HA.out (by simp [incunableref25_IsNotes.l0])
     | succ k2 =>
      have H := HA.out
      clear HA
      simp only [incunableref25_IsNotes.l0] at H
      rcases iL H with H1 | H1 <;> clear H <;> obtain ⟨H, c12b0⟩ := H1
      ·by_cases c13 : 0 ≤ x3_2
       ·rw [if_pos c13] at H
        have c13b0 := decide_eq_true c13
        clear c13
        obtain ⟨t234, A14, H⟩ := oB H
        try dsimp only at H
        by_cases c15 : t234 = true
        ·subst c15
         rw [if_pos rfl] at H
         have H' := Aside0.mk H
         clear H
         obtain ⟨hcz16_0, hcz16_1, hcz16_2, hcz16_3, hfz16_0, hfz16_1, hfz16_2, hfz16_3⟩ := cz4f BK231.out
         have p233 : 0 ≤ (x3_2 : Int) := dt
         have q233 : x3_2 < (l0_3.length : Int) := dt
         obtain ⟨ad233, A233_3, c233_3, e233, hx233_0, hx233_1, hx233_2, hx233_3, hl233_3, hi233_3⟩ := at_T33 HR0_3.out x3_2 p233 q233
         cases e233
         replace hx233_0 := hcB HB.out hx233_0
         replace hx233_1 := hcB HB.out hx233_1
         replace hx233_2 := hcB HB.out hx233_2
         replace hx233_3 := hcB HB.out hx233_3
         have HR233_3 := Aside0.mk hi233_3
         have HC233_3 := Aside0.mk hl233_3
         clear hi233_3 hl233_3
         replace p233 := eq_true p233
         replace q233 := eq_true q233
         go_wp2_with (first | (refine gF 47 24 Tryd.func47 #[.agg #[.int .i64 ((rd_T33 l0_3 x3_2).f0), .string ((rd_T33 l0_3 x3_2).f1), .int .i64 ((rd_T33 l0_3 x3_2).f2), .slice A233_3 ((rd_T33 l0_3 x3_2).f3).length c233_3]] rfl rfl ?_; (with_reducible refine (incunableref25_isNote.calls k2 ((rd_T33 l0_3 x3_2).f0) ((rd_T33 l0_3 x3_2).f1) ((rd_T33 l0_3 x3_2).f2) _ _ ((rd_T33 l0_3 x3_2).f3) true _ ?side1 ?side2 A14.out).mono ?_); (case side1 => exact cU (Kd.C_below HR233_3.out HB.out)); (case side2 => exact HC233_3.out); rintro e w17 ⟨rfl, hb⟩; refine ⟨_, rfl, ?_⟩; have n_ := aC (blk_below (bU BK231.out) hb) (aE (bs hb)); clear BK231 HB; obtain ⟨BK231, HB⟩ := n_))
         go_roundg k2
         case measure => have := HJ1.out; have := HK2.out; omega
         case rel => exact ⟨(wrap64 (x3_2 + 1)), rq, H', ⟨by have := HJ1.out; have := HK2.out; omega⟩, ⟨bU BK231.out⟩, ⟨bl⟩⟩
        ·replace c15 := Bool.eq_false_iff.mpr c15
         subst c15
         rw [if_neg Bool.false_ne_true] at H
         obtain rfl := Option.some.inj H
         obtain ⟨hcz18_0, hcz18_1, hcz18_2, hcz18_3, hfz18_0, hfz18_1, hfz18_2, hfz18_3⟩ := cz4f BK231.out
         have p233 : 0 ≤ (x3_2 : Int) := dt
         have q233 : x3_2 < (l0_3.length : Int) := dt
         obtain ⟨ad233, A233_3, c233_3, e233, hx233_0, hx233_1, hx233_2, hx233_3, hl233_3, hi233_3⟩ := at_T33 HR0_3.out x3_2 p233 q233
         cases e233
         replace hx233_0 := hcB HB.out hx233_0
         replace hx233_1 := hcB HB.out hx233_1
         replace hx233_2 := hcB HB.out hx233_2
         replace hx233_3 := hcB HB.out hx233_3
         have HR233_3 := Aside0.mk hi233_3
         have HC233_3 := Aside0.mk hl233_3
         clear hi233_3 hl233_3
         replace p233 := eq_true p233
         replace q233 := eq_true q233
         go_wp2_with (first | (refine gF 47 24 Tryd.func47 #[.agg #[.int .i64 ((rd_T33 l0_3 x3_2).f0), .string ((rd_T33 l0_3 x3_2).f1), .int .i64 ((rd_T33 l0_3 x3_2).f2), .slice A233_3 ((rd_T33 l0_3 x3_2).f3).length c233_3]] rfl rfl ?_; (with_reducible refine (incunableref25_isNote.calls k2 ((rd_T33 l0_3 x3_2).f0) ((rd_T33 l0_3 x3_2).f1) ((rd_T33 l0_3 x3_2).f2) _ _ ((rd_T33 l0_3 x3_2).f3) false _ ?side1 ?side2 A14.out).mono ?_); (case side1 => exact cU (Kd.C_below HR233_3.out HB.out)); (case side2 => exact HC233_3.out); rintro e w19 ⟨rfl, hb⟩; refine ⟨_, rfl, ?_⟩; have n_ := aC (blk_below (bU BK231.out) hb) (aE (bs hb)); clear BK231 HB; obtain ⟨BK231, HB⟩ := n_))
         go_ret
         exact ⟨re, bl⟩
       ·rw [if_neg c13] at H
        exact absurd H (by simp)
      ·obtain rfl := Option.some.inj H
       obtain ⟨hcz20_0, hcz20_1, hcz20_2, hcz20_3, hfz20_0, hfz20_1, hfz20_2, hfz20_3⟩ := cz4f BK231.out
       go_wp2
       go_ret
       exact ⟨re, bl⟩
def incunableref25_Inside.f (a0_0 : Int) (a0_1 : Int) (a0_2 : Int) (a0_3 : Int) (a1 : Int) (a2 : Int) : Option (Bool) := if a1 ≥ a0_0 then (if a2 ≥ a0_1 then (if a1 < (wrap64 (a0_0 + a0_2)) then (some (decide (a2 < (wrap64 (a0_1 + a0_3))))) else (some false)) else (some false)) else (some false)
set_option maxHeartbeats 8000000 in
set_option maxRecDepth 100000 in
theorem incunableref25_Inside.calls (a0_0 : Int) (a0_1 : Int) (a0_2 : Int) (a0_3 : Int) (a1 : Int) (a2 : Int) (r : Bool) (w : World) (h : incunableref25_Inside.f a0_0 a0_1 a0_2 a0_3 a1 a2 = some r) :
  Calls Tryd.prog 23 #[.agg #[.int .i64 a0_0, .int .i64 a0_1, .int .i64 a0_2, .int .i64 a0_3], .int .i64 a1, .int .i64 a2] w fun e w' => e = .returned (.bool r) ∧ Below w.heap.size w w' := by
 have hu39 := Tryd.underlying39
 have HB := Aside0.mk (Below.refl w.heap.size w)
 have H := h
 unfold incunableref25_Inside.f at H
 clear h
 rcases iL H with H1 | H1 <;> clear H <;> obtain ⟨H, c4b0⟩ := H1
 ·rcases iL H with H1 | H1 <;> clear H <;> obtain ⟨H, c5b0⟩ := H1
  ·rcases iL H with H1 | H1 <;> clear H <;> obtain ⟨H, c6b0⟩ := H1
   ·obtain rfl := Option.some.inj H
    go_enter Tryd.func23, Tryd.ntmps23
    go_wp2_with (first | ((with_reducible refine gd 3 rfl ?_); refine bx 3 #[.int .i64 a0_0, .int .i64 a0_1, .int .i64 a0_2, .int .i64 a0_3] 39 rfl rfl ?_; intro gb235 hg w7 hbox hb; have n_ := aC (bs hb) (aC hbox (aC (gz hg) (aE (gz hg)))); clear HB; obtain ⟨HB, BK235, GW235, GE235⟩ := n_; clear hb hbox hg; obtain ⟨hcz8_0, hcz8_1, hcz8_2, hcz8_3, hfz8_0, hfz8_1, hfz8_2, hfz8_3⟩ := cz4f BK235.out))
    go_ret
    exact ⟨re, bl⟩
   ·obtain rfl := Option.some.inj H
    go_enter Tryd.func23, Tryd.ntmps23
    go_wp2_with (first | ((with_reducible refine gd 3 rfl ?_); refine bx 3 #[.int .i64 a0_0, .int .i64 a0_1, .int .i64 a0_2, .int .i64 a0_3] 39 rfl rfl ?_; intro gb235 hg w9 hbox hb; have n_ := aC (bs hb) (aC hbox (aC (gz hg) (aE (gz hg)))); clear HB; obtain ⟨HB, BK235, GW235, GE235⟩ := n_; clear hb hbox hg; obtain ⟨hcz10_0, hcz10_1, hcz10_2, hcz10_3, hfz10_0, hfz10_1, hfz10_2, hfz10_3⟩ := cz4f BK235.out))
    go_ret
    exact ⟨re, bl⟩
  ·obtain rfl := Option.some.inj H
   go_enter Tryd.func23, Tryd.ntmps23
   go_wp2_with (first | ((with_reducible refine gd 3 rfl ?_); refine bx 3 #[.int .i64 a0_0, .int .i64 a0_1, .int .i64 a0_2, .int .i64 a0_3] 39 rfl rfl ?_; intro gb235 hg w11 hbox hb; have n_ := aC (bs hb) (aC hbox (aC (gz hg) (aE (gz hg)))); clear HB; obtain ⟨HB, BK235, GW235, GE235⟩ := n_; clear hb hbox hg; obtain ⟨hcz12_0, hcz12_1, hcz12_2, hcz12_3, hfz12_0, hfz12_1, hfz12_2, hfz12_3⟩ := cz4f BK235.out))
   go_ret
   exact ⟨re, bl⟩
 ·obtain rfl := Option.some.inj H
  go_enter Tryd.func23, Tryd.ntmps23
  go_wp2_with (first | ((with_reducible refine gd 3 rfl ?_); refine bx 3 #[.int .i64 a0_0, .int .i64 a0_1, .int .i64 a0_2, .int .i64 a0_3] 39 rfl rfl ?_; intro gb235 hg w13 hbox hb; have n_ := aC (bs hb) (aC hbox (aC (gz hg) (aE (gz hg)))); clear HB; obtain ⟨HB, BK235, GW235, GE235⟩ := n_; clear hb hbox hg; obtain ⟨hcz14_0, hcz14_1, hcz14_2, hcz14_3, hfz14_0, hfz14_1, hfz14_2, hfz14_3⟩ := cz4f BK235.out))
  go_ret
  exact ⟨re, bl⟩
def incunableref25_Hit.l0 : Nat → Int → Int → Int → Int → ByteArray → Int → List (S33) → Option (ByteArray × Int)
 | 0, _, _, _, _, _, _, _ => none
 | k + 1, x1, x2, x8, x237000, x237001, x237002, x237003 => if x8 ≥ 0 then (if 0 ≤ x8 then (if x8 < (x237003.length : Int) then (if 3 < (((rd_T33 x237003 x8).f3).length : Int) then ((incunableref25_shape.f k ((rd_T33 ((rd_T33 x237003 x8).f3) 3).f0) ((rd_T33 ((rd_T33 x237003 x8).f3) 3).f1) ((rd_T33 ((rd_T33 x237003 x8).f3) 3).f2) ((rd_T33 ((rd_T33 x237003 x8).f3) 3).f3)).bind fun bt240 => ((incunableref25_Inside.f bt240.1 bt240.2.1 bt240.2.2.1 bt240.2.2.2.1 x1 x2).bind fun t247 => (if t247 = true then (if bt240.2.2.2.2.1 = true then (if (wrap64 ((wrap64 ((wrap64 ((wrap64 ((wrap64 ((wrap64 ((wrap64 (2 * (wrap64 (x1 - bt240.1)))) + 1)) - bt240.2.2.1)) * (wrap64 ((wrap64 ((wrap64 (2 * (wrap64 (x1 - bt240.1)))) + 1)) - bt240.2.2.1)))) * bt240.2.2.2.1)) * bt240.2.2.2.1)) + (wrap64 ((wrap64 ((wrap64 ((wrap64 ((wrap64 ((wrap64 (2 * (wrap64 (x2 - bt240.2.1)))) + 1)) - bt240.2.2.2.1)) * (wrap64 ((wrap64 ((wrap64 (2 * (wrap64 (x2 - bt240.2.1)))) + 1)) - bt240.2.2.2.1)))) * bt240.2.2.1)) * bt240.2.2.1)))) ≤ (wrap64 ((wrap64 ((wrap64 (bt240.2.2.1 * bt240.2.2.1)) * bt240.2.2.2.1)) * bt240.2.2.2.1)) then (if 1 < (((rd_T33 x237003 x8).f3).length : Int) then (some ((rd_T33 ((rd_T33 x237003 x8).f3) 1).f1, 0)) else (none)) else (incunableref25_Hit.l0 k x1 x2 (wrap64 (x8 - 1)) x237000 x237001 x237002 x237003)) else (if 1 < (((rd_T33 x237003 x8).f3).length : Int) then (some ((rd_T33 ((rd_T33 x237003 x8).f3) 1).f1, 0)) else (none))) else (incunableref25_Hit.l0 k x1 x2 (wrap64 (x8 - 1)) x237000 x237001 x237002 x237003)))) else (none)) else (none)) else (none)) else (some ((⟨#[]⟩ : ByteArray), 5))
def incunableref25_Hit.f (k : Nat) (a0_0 : Int) (a0_1 : ByteArray) (a0_2 : Int) (l0_3 : List (S33)) (a1 : Int) (a2 : Int) : Option (ByteArray × Int) := (incunableref25_IsNotes.f k a0_0 a0_1 a0_2 l0_3).bind fun t237 => (if t237 = true then (incunableref25_Hit.l0 k a1 a2 (wrap64 ((l0_3.length : Int) - 1)) a0_0 a0_1 a0_2 l0_3) else (some ((⟨#[]⟩ : ByteArray), 95)))
theorem incunableref25_Hit.mono_l : ∀ k, (∀ y0 y1 y2 y3 y4 y5 y6, LeO (incunableref25_Hit.l0 k y0 y1 y2 y3 y4 y5 y6) (incunableref25_Hit.l0 (k + 1) y0 y1 y2 y3 y4 y5 y6))
 | 0 => fun _ _ _ _ _ _ _ r h => by simp [incunableref25_Hit.l0] at h
 | k + 1 => by
  have ih0 := incunableref25_Hit.mono_l k
  ·intro y0 y1 y2 y3 y4 y5 y6
   unfold incunableref25_Hit.l0
   repeat' first
   | (with_reducible exact ih0 _ _ _ _ _ _ _)
   | (with_reducible exact incunableref25_IsNotes.mono _ _ _ _ _)
   | (with_reducible exact incunableref25_shape.mono _ _ _ _ _)
   | (with_reducible first | exact LeO.refl _ | exact LeO.none _ | refine LeO.ite ?_ ?_ | refine LeO.bind ?_ (fun _ => ?_))
theorem incunableref25_Hit.mono : ∀ a0 a1 a2 a3 a4 a5 k, LeO (incunableref25_Hit.f k a0 a1 a2 a3 a4 a5) (incunableref25_Hit.f (k + 1) a0 a1 a2 a3 a4 a5) := by
 intro a0 a1 a2 a3 a4 a5 k
 have ih0 := incunableref25_Hit.mono_l k
 unfold incunableref25_Hit.f
 repeat' first
   | (with_reducible exact ih0 _ _ _ _ _ _ _)
   | (with_reducible exact incunableref25_IsNotes.mono _ _ _ _ _)
   | (with_reducible exact incunableref25_shape.mono _ _ _ _ _)
   | (with_reducible first | exact LeO.refl _ | exact LeO.none _ | refine LeO.ite ?_ ?_ | refine LeO.bind ?_ (fun _ => ?_))
set_option maxHeartbeats 8000000 in
set_option maxRecDepth 100000 in
theorem incunableref25_Hit.calls (k : Nat) (a0_0 : Int) (a0_1 : ByteArray) (a0_2 : Int) (A0_3 : Option Addr) (c0_3 : Nat) (l0_3 : List (S33)) (a1 : Int) (a2 : Int) (r1 : ByteArray) (r2 : Int) (w : World) (hr0_3 : Kd.C k33 w A0_3 l0_3.length l0_3) (hc0_3 : l0_3.length ≤ c0_3) (h : incunableref25_Hit.f k a0_0 a0_1 a0_2 l0_3 a1 a2 = some (r1, r2)) :
  Calls Tryd.prog 22 #[.agg #[.int .i64 a0_0, .string a0_1, .int .i64 a0_2, .slice A0_3 l0_3.length c0_3], .int .i64 a1, .int .i64 a2] w fun e w' => e = .returned (.tuple #[.string r1, .int .i64 r2]) ∧ Below w.heap.size w w' := by
 have hu33 := Tryd.underlying33
 have hu39 := Tryd.underlying39
 have HR0_3 := Aside0.mk hr0_3
 have HC0_3 := Aside0.mk hc0_3
 clear hr0_3 hc0_3
 have HB := Aside0.mk (Below.refl w.heap.size w)
 have H := h
 unfold incunableref25_Hit.f at H
 clear h
 obtain ⟨t237, A4, H⟩ := oB H
 try dsimp only at H
 by_cases c5 : t237 = true
 ·subst c5
  rw [if_pos rfl] at H
  have H' := Aside0.mk H
  clear H
  go_enter Tryd.func22, Tryd.ntmps22
  go_wp2_with (first | ((with_reducible refine gd 3 rfl ?_); refine bx 3 #[.int .i64 a0_0, .string a0_1, .int .i64 a0_2, .slice A0_3 l0_3.length c0_3] 33 rfl rfl ?_; intro gb236 hg w6 hbox hb; have n_ := aC (bs hb) (aC hbox (aC (gz hg) (aE (gz hg)))); clear HB; obtain ⟨HB, BK236, GW236, GE236⟩ := n_; clear hb hbox hg; obtain ⟨hcz7_0, hcz7_1, hcz7_2, hcz7_3, hfz7_0, hfz7_1, hfz7_2, hfz7_3⟩ := cz4f BK236.out) | (go_at_call 20; (with_reducible refine (incunableref25_IsNotes.calls k a0_0 a0_1 a0_2 _ _ l0_3 true _ ?side1 ?side2 A4.out).mono ?_); (case side1 => exact cU (Kd.C_below HR0_3.out HB.out)); (case side2 => exact HC0_3.out); rintro e w8 ⟨rfl, hb⟩; have n_ := aC (blk_below (bU BK236.out) hb) (aE (bs hb)); clear BK236 HB; obtain ⟨BK236, HB⟩ := n_; obtain ⟨hcz9_0, hcz9_1, hcz9_2, hcz9_3, hfz9_0, hfz9_1, hfz9_2, hfz9_3⟩ := cz4f BK236.out))
  go_loopg [8] k (fun kq v8 w' => ∃ (x8_1 : Int), v8 = .int .i64 x8_1 ∧ Aside0 (incunableref25_Hit.l0 kq a1 a2 x8_1 a0_0 a0_1 a0_2 l0_3 = some (r1, r2)) ∧ Aside0 (kq ≤ k) ∧ Aside0 (w'.heap[gb236]? = some (.cells #[.int .i64 a0_0, .string a0_1, .int .i64 a0_2, (.slice A0_3 l0_3.length c0_3)] 33 (0, 0))) ∧ Aside0 (Below w.heap.size w w'))
  case atStart => exact ⟨(wrap64 ((l0_3.length : Int) - 1)), rq, H', ⟨Nat.le_refl _⟩, ⟨bU BK236.out⟩, ⟨bl⟩⟩
  case round =>
   clear H'
   obtain ⟨x8_1, rfl, HA, HK1, BK236, HB⟩ := hrel
   cases gk with
   | zero => exact absurd HA.out (by simp [incunableref25_Hit.l0])
   | succ k1 =>
    have H := HA.out
    clear HA
    simp only [incunableref25_Hit.l0] at H
    rcases iL H with H1 | H1 <;> clear H <;> obtain ⟨H, c10b0⟩ := H1
    ·by_cases c11 : 0 ≤ x8_1
     ·rw [if_pos c11] at H
      have c11b0 := decide_eq_true c11
      clear c11
      by_cases c12 : x8_1 < (l0_3.length : Int)
      ·rw [if_pos c12] at H
       have c12b0 := decide_eq_true c12
       clear c12
       by_cases c13 : 3 < (((rd_T33 l0_3 x8_1).f3).length : Int)
       ·rw [if_pos c13] at H
        have c13b0 := decide_eq_true c13
        have c13b1 : decide (3 < ((rd_T33 l0_3 x8_1).f3).length) = true := decide_eq_true (by omega)
        clear c13
        obtain ⟨⟨t240, t241, t242, t243, t244, t245⟩, A14, H⟩ := oB H
        try dsimp only at H
        obtain ⟨t247, A15, H⟩ := oB H
        try dsimp only at H
        by_cases c16 : t247 = true
        ·subst c16
         rw [if_pos rfl] at H
         by_cases c17 : t244 = true
         ·subst c17
          rw [if_pos rfl] at H
          rcases iL H with H1 | H1 <;> clear H <;> obtain ⟨H, c18b0⟩ := H1
          ·by_cases c19 : 1 < (((rd_T33 l0_3 x8_1).f3).length : Int)
           ·rw [if_pos c19] at H
            have c19b0 := decide_eq_true c19
            have c19b1 : decide (1 < ((rd_T33 l0_3 x8_1).f3).length) = true := decide_eq_true (by omega)
            clear c19
            simp only [Option.some.injEq, Prod.mk.injEq] at H
            obtain ⟨rfl, rfl⟩ := H
            obtain ⟨hcz20_0, hcz20_1, hcz20_2, hcz20_3, hfz20_0, hfz20_1, hfz20_2, hfz20_3⟩ := cz4f BK236.out
            have p238 : 0 ≤ (x8_1 : Int) := dt
            have q238 : x8_1 < (l0_3.length : Int) := dt
            obtain ⟨ad238, A238_3, c238_3, e238, hx238_0, hx238_1, hx238_2, hx238_3, hl238_3, hi238_3⟩ := at_T33 HR0_3.out x8_1 p238 q238
            cases e238
            replace hx238_0 := hcB HB.out hx238_0
            replace hx238_1 := hcB HB.out hx238_1
            replace hx238_2 := hcB HB.out hx238_2
            replace hx238_3 := hcB HB.out hx238_3
            have HR238_3 := Aside0.mk hi238_3
            have HC238_3 := Aside0.mk hl238_3
            clear hi238_3 hl238_3
            replace p238 := eq_true p238
            replace q238 := eq_true q238
            have p239 : 0 ≤ (3 : Int) := (by omega)
            have q239 : 3 < (((rd_T33 l0_3 x8_1).f3).length : Int) := dt
            obtain ⟨ad239, A239_3, c239_3, e239, hx239_0, hx239_1, hx239_2, hx239_3, hl239_3, hi239_3⟩ := at_T33 HR238_3.out 3 p239 q239
            cases e239
            (try simp only [show (3 : Int).toNat = 3 from rfl, Nat.reduceMul, Nat.reduceEqDiff, Go.Addr.add, ↓reduceIte] at hx239_0)
            (try simp only [show (3 : Int).toNat = 3 from rfl, Nat.reduceMul, Nat.reduceEqDiff, Go.Addr.add, ↓reduceIte] at hx239_1)
            (try simp only [show (3 : Int).toNat = 3 from rfl, Nat.reduceMul, Nat.reduceEqDiff, Go.Addr.add, ↓reduceIte] at hx239_2)
            (try simp only [show (3 : Int).toNat = 3 from rfl, Nat.reduceMul, Nat.reduceEqDiff, Go.Addr.add, ↓reduceIte] at hx239_3)
            have qi239 : (3 < ((rd_T33 l0_3 x8_1).f3).length) = True := eq_true (by omega)
            (try rw [show ((3 : Int)).toNat = 3 from rfl] at hx239_0)
            (try rw [show 3 * 4 = 12 from rfl] at hx239_0)
            (try rw [show ((3 : Int)).toNat = 3 from rfl] at hx239_1)
            (try rw [show 3 * 4 = 12 from rfl] at hx239_1)
            (try rw [show ((3 : Int)).toNat = 3 from rfl] at hx239_2)
            (try rw [show 3 * 4 = 12 from rfl] at hx239_2)
            (try rw [show ((3 : Int)).toNat = 3 from rfl] at hx239_3)
            (try rw [show 3 * 4 = 12 from rfl] at hx239_3)
            replace hx239_0 := hcB HB.out hx239_0
            replace hx239_1 := hcB HB.out hx239_1
            replace hx239_2 := hcB HB.out hx239_2
            replace hx239_3 := hcB HB.out hx239_3
            have HR239_3 := Aside0.mk hi239_3
            have HC239_3 := Aside0.mk hl239_3
            clear hi239_3 hl239_3
            replace p239 := eq_true p239
            replace q239 := eq_true q239
            go_wp2_with (first | (go_at_call 43; (with_reducible refine (incunableref25_shape.calls k1 ((rd_T33 ((rd_T33 l0_3 x8_1).f3) 3).f0) ((rd_T33 ((rd_T33 l0_3 x8_1).f3) 3).f1) ((rd_T33 ((rd_T33 l0_3 x8_1).f3) 3).f2) _ _ ((rd_T33 ((rd_T33 l0_3 x8_1).f3) 3).f3) t240 t241 t242 t243 true t245 _ ?side1 ?side2 A14.out).mono ?_); (case side1 => exact cU (Kd.C_below HR239_3.out HB.out)); (case side2 => exact HC239_3.out); rintro e w21 ⟨rfl, hb⟩; have n_ := aC (blk_below (bU BK236.out) hb) (aE (bs hb)); clear BK236 HB; obtain ⟨BK236, HB⟩ := n_) | ((with_reducible refine gd 9 rfl ?_); refine bx 9 #[.int .i64 0, .int .i64 0, .int .i64 0, .int .i64 0] 39 rfl rfl ?_; intro gb246 hg w22 hbox hb; have n_ := aC (blk_below (bU BK236.out) hb) (aC (bs hb) (aC hbox (aC (gz hg) (aC (gz hg) (aC (gn hg (bU BK236.out)) (aE (gm hg (bU BK236.out)))))))); clear BK236 HB; obtain ⟨BK236, HB, BK246, GW246, GE246, NB236_246, NB246_236⟩ := n_; clear hb hbox hg; have hnb23 := NB246_236.out; have hnc23 := NB236_246.out; obtain ⟨hcz24_0, hcz24_1, hcz24_2, hcz24_3, hfz24_0, hfz24_1, hfz24_2, hfz24_3⟩ := cz4f BK246.out) | (go_at_call 23; (with_reducible refine (incunableref25_Inside.calls t240 t241 t242 t243 a1 a2 true _ A15.out).mono ?_); rintro e w25 ⟨rfl, hb⟩; have n_ := aC (blk_below (g := gb236) (o := .cells #[.int .i64 a0_0, .string a0_1, .int .i64 a0_2, .slice (some ad238) l0_3.length c0_3] 33 (0, 0)) (by (with_reducible repeat (first | refine blk_drewN ?_ _ | refine blk_drew ?_ | refine blk_alloc ?_ _)); refine blk_far ?_ NB236_246.out _; (with_reducible repeat (first | refine blk_drewN ?_ _ | refine blk_drew ?_ | refine blk_alloc ?_ _)); refine blk_far ?_ NB236_246.out _; (with_reducible repeat (first | refine blk_drewN ?_ _ | refine blk_drew ?_ | refine blk_alloc ?_ _)); refine blk_far ?_ NB236_246.out _; (with_reducible repeat (first | refine blk_drewN ?_ _ | refine blk_drew ?_ | refine blk_alloc ?_ _)); refine blk_far ?_ NB236_246.out _; (with_reducible repeat (first | refine blk_drewN ?_ _ | refine blk_drew ?_ | refine blk_alloc ?_ _)); exact BK236.out) hb) (aC (blk_below (g := gb246) (o := .cells #[.int .i64 t240, .int .i64 t241, .int .i64 t242, .int .i64 t243] 39 (0, 0)) (by (with_reducible repeat (first | refine blk_drewN ?_ _ | refine blk_drew ?_ | refine blk_alloc ?_ _)); refine blk_put (cs := #[.int .i64 t240, .int .i64 t241, .int .i64 t242, .int .i64 0]) ?_ 3 _ rfl; (with_reducible repeat (first | refine blk_drewN ?_ _ | refine blk_drew ?_ | refine blk_alloc ?_ _)); refine blk_put (cs := #[.int .i64 t240, .int .i64 t241, .int .i64 0, .int .i64 0]) ?_ 2 _ rfl; (with_reducible repeat (first | refine blk_drewN ?_ _ | refine blk_drew ?_ | refine blk_alloc ?_ _)); refine blk_put (cs := #[.int .i64 t240, .int .i64 0, .int .i64 0, .int .i64 0]) ?_ 1 _ rfl; (with_reducible repeat (first | refine blk_drewN ?_ _ | refine blk_drew ?_ | refine blk_alloc ?_ _)); refine blk_put (cs := #[.int .i64 0, .int .i64 0, .int .i64 0, .int .i64 0]) ?_ 0 _ rfl; (with_reducible repeat (first | refine blk_drewN ?_ _ | refine blk_drew ?_ | refine blk_alloc ?_ _)); exact BK246.out) hb) (aE (bs hb))); clear BK236 BK246 HB; obtain ⟨BK236, BK246, HB⟩ := n_; obtain ⟨hcz26_0, hcz26_1, hcz26_2, hcz26_3, hfz26_0, hfz26_1, hfz26_2, hfz26_3⟩ := cz4f BK246.out; obtain ⟨hcz27_0, hcz27_1, hcz27_2, hcz27_3, hfz27_0, hfz27_1, hfz27_2, hfz27_3⟩ := cz4f BK236.out; have p248 : 0 ≤ (x8_1 : Int) := dt; have q248 : x8_1 < (l0_3.length : Int) := dt; obtain ⟨ad248, A248_3, c248_3, e248, hx248_0, hx248_1, hx248_2, hx248_3, hl248_3, hi248_3⟩ := at_T33 HR0_3.out x8_1 p248 q248; obtain rfl : ad238 = ad248 := (by injection e248); replace hx248_0 := hcB HB.out hx248_0; replace hx248_1 := hcB HB.out hx248_1; replace hx248_2 := hcB HB.out hx248_2; replace hx248_3 := hcB HB.out hx248_3; have HR248_3 := Aside0.mk hi248_3; have HC248_3 := Aside0.mk hl248_3; clear hi248_3 hl248_3; replace p248 := eq_true p248; replace q248 := eq_true q248; have p249 : 0 ≤ (1 : Int) := (by omega); have q249 : 1 < (((rd_T33 l0_3 x8_1).f3).length : Int) := dt; obtain ⟨ad249, A249_3, c249_3, e249, hx249_0, hx249_1, hx249_2, hx249_3, hl249_3, hi249_3⟩ := at_T33 HR248_3.out 1 p249 q249; cases e249; (try simp only [show (1 : Int).toNat = 1 from rfl, Nat.reduceMul, Nat.reduceEqDiff, Go.Addr.add, ↓reduceIte] at hx249_0); (try simp only [show (1 : Int).toNat = 1 from rfl, Nat.reduceMul, Nat.reduceEqDiff, Go.Addr.add, ↓reduceIte] at hx249_1); (try simp only [show (1 : Int).toNat = 1 from rfl, Nat.reduceMul, Nat.reduceEqDiff, Go.Addr.add, ↓reduceIte] at hx249_2); (try simp only [show (1 : Int).toNat = 1 from rfl, Nat.reduceMul, Nat.reduceEqDiff, Go.Addr.add, ↓reduceIte] at hx249_3); have qi249 : (1 < ((rd_T33 l0_3 x8_1).f3).length) = True := eq_true (by omega); (try rw [show ((1 : Int)).toNat = 1 from rfl] at hx249_0); (try rw [show 1 * 4 = 4 from rfl] at hx249_0); (try rw [show ((1 : Int)).toNat = 1 from rfl] at hx249_1); (try rw [show 1 * 4 = 4 from rfl] at hx249_1); (try rw [show ((1 : Int)).toNat = 1 from rfl] at hx249_2); (try rw [show 1 * 4 = 4 from rfl] at hx249_2); (try rw [show ((1 : Int)).toNat = 1 from rfl] at hx249_3); (try rw [show 1 * 4 = 4 from rfl] at hx249_3); replace hx249_0 := hcB HB.out hx249_0; replace hx249_1 := hcB HB.out hx249_1; replace hx249_2 := hcB HB.out hx249_2; replace hx249_3 := hcB HB.out hx249_3; have HR249_3 := Aside0.mk hi249_3; have HC249_3 := Aside0.mk hl249_3; clear hi249_3 hl249_3; replace p249 := eq_true p249; replace q249 := eq_true q249))
            repeat (go_quiet (first | (go_at_call 43; (with_reducible refine (incunableref25_shape.calls k1 ((rd_T33 ((rd_T33 l0_3 x8_1).f3) 3).f0) ((rd_T33 ((rd_T33 l0_3 x8_1).f3) 3).f1) ((rd_T33 ((rd_T33 l0_3 x8_1).f3) 3).f2) _ _ ((rd_T33 ((rd_T33 l0_3 x8_1).f3) 3).f3) t240 t241 t242 t243 true t245 _ ?side1 ?side2 A14.out).mono ?_); (case side1 => exact cU (Kd.C_below HR239_3.out HB.out)); (case side2 => exact HC239_3.out); rintro e w21 ⟨rfl, hb⟩; have n_ := aC (blk_below (bU BK236.out) hb) (aE (bs hb)); clear BK236 HB; obtain ⟨BK236, HB⟩ := n_) | ((with_reducible refine gd 9 rfl ?_); refine bx 9 #[.int .i64 0, .int .i64 0, .int .i64 0, .int .i64 0] 39 rfl rfl ?_; intro gb246 hg w22 hbox hb; have n_ := aC (blk_below (bU BK236.out) hb) (aC (bs hb) (aC hbox (aC (gz hg) (aC (gz hg) (aC (gn hg (bU BK236.out)) (aE (gm hg (bU BK236.out)))))))); clear BK236 HB; obtain ⟨BK236, HB, BK246, GW246, GE246, NB236_246, NB246_236⟩ := n_; clear hb hbox hg; have hnb23 := NB246_236.out; have hnc23 := NB236_246.out; obtain ⟨hcz24_0, hcz24_1, hcz24_2, hcz24_3, hfz24_0, hfz24_1, hfz24_2, hfz24_3⟩ := cz4f BK246.out) | (go_at_call 23; (with_reducible refine (incunableref25_Inside.calls t240 t241 t242 t243 a1 a2 true _ A15.out).mono ?_); rintro e w25 ⟨rfl, hb⟩; have n_ := aC (blk_below (g := gb236) (o := .cells #[.int .i64 a0_0, .string a0_1, .int .i64 a0_2, .slice (some ad238) l0_3.length c0_3] 33 (0, 0)) (by (with_reducible repeat (first | refine blk_drewN ?_ _ | refine blk_drew ?_ | refine blk_alloc ?_ _)); refine blk_far ?_ NB236_246.out _; (with_reducible repeat (first | refine blk_drewN ?_ _ | refine blk_drew ?_ | refine blk_alloc ?_ _)); refine blk_far ?_ NB236_246.out _; (with_reducible repeat (first | refine blk_drewN ?_ _ | refine blk_drew ?_ | refine blk_alloc ?_ _)); refine blk_far ?_ NB236_246.out _; (with_reducible repeat (first | refine blk_drewN ?_ _ | refine blk_drew ?_ | refine blk_alloc ?_ _)); refine blk_far ?_ NB236_246.out _; (with_reducible repeat (first | refine blk_drewN ?_ _ | refine blk_drew ?_ | refine blk_alloc ?_ _)); exact BK236.out) hb) (aC (blk_below (g := gb246) (o := .cells #[.int .i64 t240, .int .i64 t241, .int .i64 t242, .int .i64 t243] 39 (0, 0)) (by (with_reducible repeat (first | refine blk_drewN ?_ _ | refine blk_drew ?_ | refine blk_alloc ?_ _)); refine blk_put (cs := #[.int .i64 t240, .int .i64 t241, .int .i64 t242, .int .i64 0]) ?_ 3 _ rfl; (with_reducible repeat (first | refine blk_drewN ?_ _ | refine blk_drew ?_ | refine blk_alloc ?_ _)); refine blk_put (cs := #[.int .i64 t240, .int .i64 t241, .int .i64 0, .int .i64 0]) ?_ 2 _ rfl; (with_reducible repeat (first | refine blk_drewN ?_ _ | refine blk_drew ?_ | refine blk_alloc ?_ _)); refine blk_put (cs := #[.int .i64 t240, .int .i64 0, .int .i64 0, .int .i64 0]) ?_ 1 _ rfl; (with_reducible repeat (first | refine blk_drewN ?_ _ | refine blk_drew ?_ | refine blk_alloc ?_ _)); refine blk_put (cs := #[.int .i64 0, .int .i64 0, .int .i64 0, .int .i64 0]) ?_ 0 _ rfl; (with_reducible repeat (first | refine blk_drewN ?_ _ | refine blk_drew ?_ | refine blk_alloc ?_ _)); exact BK246.out) hb) (aE (bs hb))); clear BK236 BK246 HB; obtain ⟨BK236, BK246, HB⟩ := n_; obtain ⟨hcz26_0, hcz26_1, hcz26_2, hcz26_3, hfz26_0, hfz26_1, hfz26_2, hfz26_3⟩ := cz4f BK246.out; obtain ⟨hcz27_0, hcz27_1, hcz27_2, hcz27_3, hfz27_0, hfz27_1, hfz27_2, hfz27_3⟩ := cz4f BK236.out; have p248 : 0 ≤ (x8_1 : Int) := dt; have q248 : x8_1 < (l0_3.length : Int) := dt; obtain ⟨ad248, A248_3, c248_3, e248, hx248_0, hx248_1, hx248_2, hx248_3, hl248_3, hi248_3⟩ := at_T33 HR0_3.out x8_1 p248 q248; obtain rfl : ad238 = ad248 := (by injection e248); replace hx248_0 := hcB HB.out hx248_0; replace hx248_1 := hcB HB.out hx248_1; replace hx248_2 := hcB HB.out hx248_2; replace hx248_3 := hcB HB.out hx248_3; have HR248_3 := Aside0.mk hi248_3; have HC248_3 := Aside0.mk hl248_3; clear hi248_3 hl248_3; replace p248 := eq_true p248; replace q248 := eq_true q248; have p249 : 0 ≤ (1 : Int) := (by omega); have q249 : 1 < (((rd_T33 l0_3 x8_1).f3).length : Int) := dt; obtain ⟨ad249, A249_3, c249_3, e249, hx249_0, hx249_1, hx249_2, hx249_3, hl249_3, hi249_3⟩ := at_T33 HR248_3.out 1 p249 q249; cases e249; (try simp only [show (1 : Int).toNat = 1 from rfl, Nat.reduceMul, Nat.reduceEqDiff, Go.Addr.add, ↓reduceIte] at hx249_0); (try simp only [show (1 : Int).toNat = 1 from rfl, Nat.reduceMul, Nat.reduceEqDiff, Go.Addr.add, ↓reduceIte] at hx249_1); (try simp only [show (1 : Int).toNat = 1 from rfl, Nat.reduceMul, Nat.reduceEqDiff, Go.Addr.add, ↓reduceIte] at hx249_2); (try simp only [show (1 : Int).toNat = 1 from rfl, Nat.reduceMul, Nat.reduceEqDiff, Go.Addr.add, ↓reduceIte] at hx249_3); have qi249 : (1 < ((rd_T33 l0_3 x8_1).f3).length) = True := eq_true (by omega); (try rw [show ((1 : Int)).toNat = 1 from rfl] at hx249_0); (try rw [show 1 * 4 = 4 from rfl] at hx249_0); (try rw [show ((1 : Int)).toNat = 1 from rfl] at hx249_1); (try rw [show 1 * 4 = 4 from rfl] at hx249_1); (try rw [show ((1 : Int)).toNat = 1 from rfl] at hx249_2); (try rw [show 1 * 4 = 4 from rfl] at hx249_2); (try rw [show ((1 : Int)).toNat = 1 from rfl] at hx249_3); (try rw [show 1 * 4 = 4 from rfl] at hx249_3); replace hx249_0 := hcB HB.out hx249_0; replace hx249_1 := hcB HB.out hx249_1; replace hx249_2 := hcB HB.out hx249_2; replace hx249_3 := hcB HB.out hx249_3; have HR249_3 := Aside0.mk hi249_3; have HC249_3 := Aside0.mk hl249_3; clear hi249_3 hl249_3; replace p249 := eq_true p249; replace q249 := eq_true q249)); try go_wp2_with (first | (go_at_call 43; (with_reducible refine (incunableref25_shape.calls k1 ((rd_T33 ((rd_T33 l0_3 x8_1).f3) 3).f0) ((rd_T33 ((rd_T33 l0_3 x8_1).f3) 3).f1) ((rd_T33 ((rd_T33 l0_3 x8_1).f3) 3).f2) _ _ ((rd_T33 ((rd_T33 l0_3 x8_1).f3) 3).f3) t240 t241 t242 t243 true t245 _ ?side1 ?side2 A14.out).mono ?_); (case side1 => exact cU (Kd.C_below HR239_3.out HB.out)); (case side2 => exact HC239_3.out); rintro e w21 ⟨rfl, hb⟩; have n_ := aC (blk_below (bU BK236.out) hb) (aE (bs hb)); clear BK236 HB; obtain ⟨BK236, HB⟩ := n_) | ((with_reducible refine gd 9 rfl ?_); refine bx 9 #[.int .i64 0, .int .i64 0, .int .i64 0, .int .i64 0] 39 rfl rfl ?_; intro gb246 hg w22 hbox hb; have n_ := aC (blk_below (bU BK236.out) hb) (aC (bs hb) (aC hbox (aC (gz hg) (aC (gz hg) (aC (gn hg (bU BK236.out)) (aE (gm hg (bU BK236.out)))))))); clear BK236 HB; obtain ⟨BK236, HB, BK246, GW246, GE246, NB236_246, NB246_236⟩ := n_; clear hb hbox hg; have hnb23 := NB246_236.out; have hnc23 := NB236_246.out; obtain ⟨hcz24_0, hcz24_1, hcz24_2, hcz24_3, hfz24_0, hfz24_1, hfz24_2, hfz24_3⟩ := cz4f BK246.out) | (go_at_call 23; (with_reducible refine (incunableref25_Inside.calls t240 t241 t242 t243 a1 a2 true _ A15.out).mono ?_); rintro e w25 ⟨rfl, hb⟩; have n_ := aC (blk_below (g := gb236) (o := .cells #[.int .i64 a0_0, .string a0_1, .int .i64 a0_2, .slice (some ad238) l0_3.length c0_3] 33 (0, 0)) (by (with_reducible repeat (first | refine blk_drewN ?_ _ | refine blk_drew ?_ | refine blk_alloc ?_ _)); refine blk_far ?_ NB236_246.out _; (with_reducible repeat (first | refine blk_drewN ?_ _ | refine blk_drew ?_ | refine blk_alloc ?_ _)); refine blk_far ?_ NB236_246.out _; (with_reducible repeat (first | refine blk_drewN ?_ _ | refine blk_drew ?_ | refine blk_alloc ?_ _)); refine blk_far ?_ NB236_246.out _; (with_reducible repeat (first | refine blk_drewN ?_ _ | refine blk_drew ?_ | refine blk_alloc ?_ _)); refine blk_far ?_ NB236_246.out _; (with_reducible repeat (first | refine blk_drewN ?_ _ | refine blk_drew ?_ | refine blk_alloc ?_ _)); exact BK236.out) hb) (aC (blk_below (g := gb246) (o := .cells #[.int .i64 t240, .int .i64 t241, .int .i64 t242, .int .i64 t243] 39 (0, 0)) (by (with_reducible repeat (first | refine blk_drewN ?_ _ | refine blk_drew ?_ | refine blk_alloc ?_ _)); refine blk_put (cs := #[.int .i64 t240, .int .i64 t241, .int .i64 t242, .int .i64 0]) ?_ 3 _ rfl; (with_reducible repeat (first | refine blk_drewN ?_ _ | refine blk_drew ?_ | refine blk_alloc ?_ _)); refine blk_put (cs := #[.int .i64 t240, .int .i64 t241, .int .i64 0, .int .i64 0]) ?_ 2 _ rfl; (with_reducible repeat (first | refine blk_drewN ?_ _ | refine blk_drew ?_ | refine blk_alloc ?_ _)); refine blk_put (cs := #[.int .i64 t240, .int .i64 0, .int .i64 0, .int .i64 0]) ?_ 1 _ rfl; (with_reducible repeat (first | refine blk_drewN ?_ _ | refine blk_drew ?_ | refine blk_alloc ?_ _)); refine blk_put (cs := #[.int .i64 0, .int .i64 0, .int .i64 0, .int .i64 0]) ?_ 0 _ rfl; (with_reducible repeat (first | refine blk_drewN ?_ _ | refine blk_drew ?_ | refine blk_alloc ?_ _)); exact BK246.out) hb) (aE (bs hb))); clear BK236 BK246 HB; obtain ⟨BK236, BK246, HB⟩ := n_; obtain ⟨hcz26_0, hcz26_1, hcz26_2, hcz26_3, hfz26_0, hfz26_1, hfz26_2, hfz26_3⟩ := cz4f BK246.out; obtain ⟨hcz27_0, hcz27_1, hcz27_2, hcz27_3, hfz27_0, hfz27_1, hfz27_2, hfz27_3⟩ := cz4f BK236.out; have p248 : 0 ≤ (x8_1 : Int) := dt; have q248 : x8_1 < (l0_3.length : Int) := dt; obtain ⟨ad248, A248_3, c248_3, e248, hx248_0, hx248_1, hx248_2, hx248_3, hl248_3, hi248_3⟩ := at_T33 HR0_3.out x8_1 p248 q248; obtain rfl : ad238 = ad248 := (by injection e248); replace hx248_0 := hcB HB.out hx248_0; replace hx248_1 := hcB HB.out hx248_1; replace hx248_2 := hcB HB.out hx248_2; replace hx248_3 := hcB HB.out hx248_3; have HR248_3 := Aside0.mk hi248_3; have HC248_3 := Aside0.mk hl248_3; clear hi248_3 hl248_3; replace p248 := eq_true p248; replace q248 := eq_true q248; have p249 : 0 ≤ (1 : Int) := (by omega); have q249 : 1 < (((rd_T33 l0_3 x8_1).f3).length : Int) := dt; obtain ⟨ad249, A249_3, c249_3, e249, hx249_0, hx249_1, hx249_2, hx249_3, hl249_3, hi249_3⟩ := at_T33 HR248_3.out 1 p249 q249; cases e249; (try simp only [show (1 : Int).toNat = 1 from rfl, Nat.reduceMul, Nat.reduceEqDiff, Go.Addr.add, ↓reduceIte] at hx249_0); (try simp only [show (1 : Int).toNat = 1 from rfl, Nat.reduceMul, Nat.reduceEqDiff, Go.Addr.add, ↓reduceIte] at hx249_1); (try simp only [show (1 : Int).toNat = 1 from rfl, Nat.reduceMul, Nat.reduceEqDiff, Go.Addr.add, ↓reduceIte] at hx249_2); (try simp only [show (1 : Int).toNat = 1 from rfl, Nat.reduceMul, Nat.reduceEqDiff, Go.Addr.add, ↓reduceIte] at hx249_3); have qi249 : (1 < ((rd_T33 l0_3 x8_1).f3).length) = True := eq_true (by omega); (try rw [show ((1 : Int)).toNat = 1 from rfl] at hx249_0); (try rw [show 1 * 4 = 4 from rfl] at hx249_0); (try rw [show ((1 : Int)).toNat = 1 from rfl] at hx249_1); (try rw [show 1 * 4 = 4 from rfl] at hx249_1); (try rw [show ((1 : Int)).toNat = 1 from rfl] at hx249_2); (try rw [show 1 * 4 = 4 from rfl] at hx249_2); (try rw [show ((1 : Int)).toNat = 1 from rfl] at hx249_3); (try rw [show 1 * 4 = 4 from rfl] at hx249_3); replace hx249_0 := hcB HB.out hx249_0; replace hx249_1 := hcB HB.out hx249_1; replace hx249_2 := hcB HB.out hx249_2; replace hx249_3 := hcB HB.out hx249_3; have HR249_3 := Aside0.mk hi249_3; have HC249_3 := Aside0.mk hl249_3; clear hi249_3 hl249_3; replace p249 := eq_true p249; replace q249 := eq_true q249)))
            go_ret2
            exact ⟨re, bl⟩
           ·rw [if_neg c19] at H
            exact absurd H (by simp)
          ·have H' := Aside0.mk H
           clear H
           obtain ⟨hcz28_0, hcz28_1, hcz28_2, hcz28_3, hfz28_0, hfz28_1, hfz28_2, hfz28_3⟩ := cz4f BK236.out
           have p238 : 0 ≤ (x8_1 : Int) := dt
           have q238 : x8_1 < (l0_3.length : Int) := dt
           obtain ⟨ad238, A238_3, c238_3, e238, hx238_0, hx238_1, hx238_2, hx238_3, hl238_3, hi238_3⟩ := at_T33 HR0_3.out x8_1 p238 q238
           cases e238
           replace hx238_0 := hcB HB.out hx238_0
           replace hx238_1 := hcB HB.out hx238_1
           replace hx238_2 := hcB HB.out hx238_2
           replace hx238_3 := hcB HB.out hx238_3
           have HR238_3 := Aside0.mk hi238_3
           have HC238_3 := Aside0.mk hl238_3
           clear hi238_3 hl238_3
           replace p238 := eq_true p238
           replace q238 := eq_true q238
           have p239 : 0 ≤ (3 : Int) := (by omega)
           have q239 : 3 < (((rd_T33 l0_3 x8_1).f3).length : Int) := dt
           obtain ⟨ad239, A239_3, c239_3, e239, hx239_0, hx239_1, hx239_2, hx239_3, hl239_3, hi239_3⟩ := at_T33 HR238_3.out 3 p239 q239
           cases e239
           (try simp only [show (3 : Int).toNat = 3 from rfl, Nat.reduceMul, Nat.reduceEqDiff, Go.Addr.add, ↓reduceIte] at hx239_0)
           (try simp only [show (3 : Int).toNat = 3 from rfl, Nat.reduceMul, Nat.reduceEqDiff, Go.Addr.add, ↓reduceIte] at hx239_1)
           (try simp only [show (3 : Int).toNat = 3 from rfl, Nat.reduceMul, Nat.reduceEqDiff, Go.Addr.add, ↓reduceIte] at hx239_2)
           (try simp only [show (3 : Int).toNat = 3 from rfl, Nat.reduceMul, Nat.reduceEqDiff, Go.Addr.add, ↓reduceIte] at hx239_3)
           have qi239 : (3 < ((rd_T33 l0_3 x8_1).f3).length) = True := eq_true (by omega)
           (try rw [show ((3 : Int)).toNat = 3 from rfl] at hx239_0)
           (try rw [show 3 * 4 = 12 from rfl] at hx239_0)
           (try rw [show ((3 : Int)).toNat = 3 from rfl] at hx239_1)
           (try rw [show 3 * 4 = 12 from rfl] at hx239_1)
           (try rw [show ((3 : Int)).toNat = 3 from rfl] at hx239_2)
           (try rw [show 3 * 4 = 12 from rfl] at hx239_2)
           (try rw [show ((3 : Int)).toNat = 3 from rfl] at hx239_3)
           (try rw [show 3 * 4 = 12 from rfl] at hx239_3)
           replace hx239_0 := hcB HB.out hx239_0
           replace hx239_1 := hcB HB.out hx239_1
           replace hx239_2 := hcB HB.out hx239_2
           replace hx239_3 := hcB HB.out hx239_3
           have HR239_3 := Aside0.mk hi239_3
           have HC239_3 := Aside0.mk hl239_3
           clear hi239_3 hl239_3
           replace p239 := eq_true p239
           replace q239 := eq_true q239
           go_wp2_with (first | (go_at_call 43; (with_reducible refine (incunableref25_shape.calls k1 ((rd_T33 ((rd_T33 l0_3 x8_1).f3) 3).f0) ((rd_T33 ((rd_T33 l0_3 x8_1).f3) 3).f1) ((rd_T33 ((rd_T33 l0_3 x8_1).f3) 3).f2) _ _ ((rd_T33 ((rd_T33 l0_3 x8_1).f3) 3).f3) t240 t241 t242 t243 true t245 _ ?side1 ?side2 A14.out).mono ?_); (case side1 => exact cU (Kd.C_below HR239_3.out HB.out)); (case side2 => exact HC239_3.out); rintro e w29 ⟨rfl, hb⟩; have n_ := aC (blk_below (bU BK236.out) hb) (aE (bs hb)); clear BK236 HB; obtain ⟨BK236, HB⟩ := n_) | ((with_reducible refine gd 9 rfl ?_); refine bx 9 #[.int .i64 0, .int .i64 0, .int .i64 0, .int .i64 0] 39 rfl rfl ?_; intro gb246 hg w30 hbox hb; have n_ := aC (blk_below (bU BK236.out) hb) (aC (bs hb) (aC hbox (aC (gz hg) (aC (gz hg) (aC (gn hg (bU BK236.out)) (aE (gm hg (bU BK236.out)))))))); clear BK236 HB; obtain ⟨BK236, HB, BK246, GW246, GE246, NB236_246, NB246_236⟩ := n_; clear hb hbox hg; have hnb31 := NB246_236.out; have hnc31 := NB236_246.out; obtain ⟨hcz32_0, hcz32_1, hcz32_2, hcz32_3, hfz32_0, hfz32_1, hfz32_2, hfz32_3⟩ := cz4f BK246.out) | (go_at_call 23; (with_reducible refine (incunableref25_Inside.calls t240 t241 t242 t243 a1 a2 true _ A15.out).mono ?_); rintro e w33 ⟨rfl, hb⟩; have n_ := aC (blk_below (g := gb236) (o := .cells #[.int .i64 a0_0, .string a0_1, .int .i64 a0_2, .slice (some ad238) l0_3.length c0_3] 33 (0, 0)) (by (with_reducible repeat (first | refine blk_drewN ?_ _ | refine blk_drew ?_ | refine blk_alloc ?_ _)); refine blk_far ?_ NB236_246.out _; (with_reducible repeat (first | refine blk_drewN ?_ _ | refine blk_drew ?_ | refine blk_alloc ?_ _)); refine blk_far ?_ NB236_246.out _; (with_reducible repeat (first | refine blk_drewN ?_ _ | refine blk_drew ?_ | refine blk_alloc ?_ _)); refine blk_far ?_ NB236_246.out _; (with_reducible repeat (first | refine blk_drewN ?_ _ | refine blk_drew ?_ | refine blk_alloc ?_ _)); refine blk_far ?_ NB236_246.out _; (with_reducible repeat (first | refine blk_drewN ?_ _ | refine blk_drew ?_ | refine blk_alloc ?_ _)); exact BK236.out) hb) (aC (blk_below (g := gb246) (o := .cells #[.int .i64 t240, .int .i64 t241, .int .i64 t242, .int .i64 t243] 39 (0, 0)) (by (with_reducible repeat (first | refine blk_drewN ?_ _ | refine blk_drew ?_ | refine blk_alloc ?_ _)); refine blk_put (cs := #[.int .i64 t240, .int .i64 t241, .int .i64 t242, .int .i64 0]) ?_ 3 _ rfl; (with_reducible repeat (first | refine blk_drewN ?_ _ | refine blk_drew ?_ | refine blk_alloc ?_ _)); refine blk_put (cs := #[.int .i64 t240, .int .i64 t241, .int .i64 0, .int .i64 0]) ?_ 2 _ rfl; (with_reducible repeat (first | refine blk_drewN ?_ _ | refine blk_drew ?_ | refine blk_alloc ?_ _)); refine blk_put (cs := #[.int .i64 t240, .int .i64 0, .int .i64 0, .int .i64 0]) ?_ 1 _ rfl; (with_reducible repeat (first | refine blk_drewN ?_ _ | refine blk_drew ?_ | refine blk_alloc ?_ _)); refine blk_put (cs := #[.int .i64 0, .int .i64 0, .int .i64 0, .int .i64 0]) ?_ 0 _ rfl; (with_reducible repeat (first | refine blk_drewN ?_ _ | refine blk_drew ?_ | refine blk_alloc ?_ _)); exact BK246.out) hb) (aE (bs hb))); clear BK236 BK246 HB; obtain ⟨BK236, BK246, HB⟩ := n_; obtain ⟨hcz34_0, hcz34_1, hcz34_2, hcz34_3, hfz34_0, hfz34_1, hfz34_2, hfz34_3⟩ := cz4f BK246.out))
           repeat (go_quiet (first | (go_at_call 43; (with_reducible refine (incunableref25_shape.calls k1 ((rd_T33 ((rd_T33 l0_3 x8_1).f3) 3).f0) ((rd_T33 ((rd_T33 l0_3 x8_1).f3) 3).f1) ((rd_T33 ((rd_T33 l0_3 x8_1).f3) 3).f2) _ _ ((rd_T33 ((rd_T33 l0_3 x8_1).f3) 3).f3) t240 t241 t242 t243 true t245 _ ?side1 ?side2 A14.out).mono ?_); (case side1 => exact cU (Kd.C_below HR239_3.out HB.out)); (case side2 => exact HC239_3.out); rintro e w29 ⟨rfl, hb⟩; have n_ := aC (blk_below (bU BK236.out) hb) (aE (bs hb)); clear BK236 HB; obtain ⟨BK236, HB⟩ := n_) | ((with_reducible refine gd 9 rfl ?_); refine bx 9 #[.int .i64 0, .int .i64 0, .int .i64 0, .int .i64 0] 39 rfl rfl ?_; intro gb246 hg w30 hbox hb; have n_ := aC (blk_below (bU BK236.out) hb) (aC (bs hb) (aC hbox (aC (gz hg) (aC (gz hg) (aC (gn hg (bU BK236.out)) (aE (gm hg (bU BK236.out)))))))); clear BK236 HB; obtain ⟨BK236, HB, BK246, GW246, GE246, NB236_246, NB246_236⟩ := n_; clear hb hbox hg; have hnb31 := NB246_236.out; have hnc31 := NB236_246.out; obtain ⟨hcz32_0, hcz32_1, hcz32_2, hcz32_3, hfz32_0, hfz32_1, hfz32_2, hfz32_3⟩ := cz4f BK246.out) | (go_at_call 23; (with_reducible refine (incunableref25_Inside.calls t240 t241 t242 t243 a1 a2 true _ A15.out).mono ?_); rintro e w33 ⟨rfl, hb⟩; have n_ := aC (blk_below (g := gb236) (o := .cells #[.int .i64 a0_0, .string a0_1, .int .i64 a0_2, .slice (some ad238) l0_3.length c0_3] 33 (0, 0)) (by (with_reducible repeat (first | refine blk_drewN ?_ _ | refine blk_drew ?_ | refine blk_alloc ?_ _)); refine blk_far ?_ NB236_246.out _; (with_reducible repeat (first | refine blk_drewN ?_ _ | refine blk_drew ?_ | refine blk_alloc ?_ _)); refine blk_far ?_ NB236_246.out _; (with_reducible repeat (first | refine blk_drewN ?_ _ | refine blk_drew ?_ | refine blk_alloc ?_ _)); refine blk_far ?_ NB236_246.out _; (with_reducible repeat (first | refine blk_drewN ?_ _ | refine blk_drew ?_ | refine blk_alloc ?_ _)); refine blk_far ?_ NB236_246.out _; (with_reducible repeat (first | refine blk_drewN ?_ _ | refine blk_drew ?_ | refine blk_alloc ?_ _)); exact BK236.out) hb) (aC (blk_below (g := gb246) (o := .cells #[.int .i64 t240, .int .i64 t241, .int .i64 t242, .int .i64 t243] 39 (0, 0)) (by (with_reducible repeat (first | refine blk_drewN ?_ _ | refine blk_drew ?_ | refine blk_alloc ?_ _)); refine blk_put (cs := #[.int .i64 t240, .int .i64 t241, .int .i64 t242, .int .i64 0]) ?_ 3 _ rfl; (with_reducible repeat (first | refine blk_drewN ?_ _ | refine blk_drew ?_ | refine blk_alloc ?_ _)); refine blk_put (cs := #[.int .i64 t240, .int .i64 t241, .int .i64 0, .int .i64 0]) ?_ 2 _ rfl; (with_reducible repeat (first | refine blk_drewN ?_ _ | refine blk_drew ?_ | refine blk_alloc ?_ _)); refine blk_put (cs := #[.int .i64 t240, .int .i64 0, .int .i64 0, .int .i64 0]) ?_ 1 _ rfl; (with_reducible repeat (first | refine blk_drewN ?_ _ | refine blk_drew ?_ | refine blk_alloc ?_ _)); refine blk_put (cs := #[.int .i64 0, .int .i64 0, .int .i64 0, .int .i64 0]) ?_ 0 _ rfl; (with_reducible repeat (first | refine blk_drewN ?_ _ | refine blk_drew ?_ | refine blk_alloc ?_ _)); exact BK246.out) hb) (aE (bs hb))); clear BK236 BK246 HB; obtain ⟨BK236, BK246, HB⟩ := n_; obtain ⟨hcz34_0, hcz34_1, hcz34_2, hcz34_3, hfz34_0, hfz34_1, hfz34_2, hfz34_3⟩ := cz4f BK246.out)); try go_wp2_with (first | (go_at_call 43; (with_reducible refine (incunableref25_shape.calls k1 ((rd_T33 ((rd_T33 l0_3 x8_1).f3) 3).f0) ((rd_T33 ((rd_T33 l0_3 x8_1).f3) 3).f1) ((rd_T33 ((rd_T33 l0_3 x8_1).f3) 3).f2) _ _ ((rd_T33 ((rd_T33 l0_3 x8_1).f3) 3).f3) t240 t241 t242 t243 true t245 _ ?side1 ?side2 A14.out).mono ?_); (case side1 => exact cU (Kd.C_below HR239_3.out HB.out)); (case side2 => exact HC239_3.out); rintro e w29 ⟨rfl, hb⟩; have n_ := aC (blk_below (bU BK236.out) hb) (aE (bs hb)); clear BK236 HB; obtain ⟨BK236, HB⟩ := n_) | ((with_reducible refine gd 9 rfl ?_); refine bx 9 #[.int .i64 0, .int .i64 0, .int .i64 0, .int .i64 0] 39 rfl rfl ?_; intro gb246 hg w30 hbox hb; have n_ := aC (blk_below (bU BK236.out) hb) (aC (bs hb) (aC hbox (aC (gz hg) (aC (gz hg) (aC (gn hg (bU BK236.out)) (aE (gm hg (bU BK236.out)))))))); clear BK236 HB; obtain ⟨BK236, HB, BK246, GW246, GE246, NB236_246, NB246_236⟩ := n_; clear hb hbox hg; have hnb31 := NB246_236.out; have hnc31 := NB236_246.out; obtain ⟨hcz32_0, hcz32_1, hcz32_2, hcz32_3, hfz32_0, hfz32_1, hfz32_2, hfz32_3⟩ := cz4f BK246.out) | (go_at_call 23; (with_reducible refine (incunableref25_Inside.calls t240 t241 t242 t243 a1 a2 true _ A15.out).mono ?_); rintro e w33 ⟨rfl, hb⟩; have n_ := aC (blk_below (g := gb236) (o := .cells #[.int .i64 a0_0, .string a0_1, .int .i64 a0_2, .slice (some ad238) l0_3.length c0_3] 33 (0, 0)) (by (with_reducible repeat (first | refine blk_drewN ?_ _ | refine blk_drew ?_ | refine blk_alloc ?_ _)); refine blk_far ?_ NB236_246.out _; (with_reducible repeat (first | refine blk_drewN ?_ _ | refine blk_drew ?_ | refine blk_alloc ?_ _)); refine blk_far ?_ NB236_246.out _; (with_reducible repeat (first | refine blk_drewN ?_ _ | refine blk_drew ?_ | refine blk_alloc ?_ _)); refine blk_far ?_ NB236_246.out _; (with_reducible repeat (first | refine blk_drewN ?_ _ | refine blk_drew ?_ | refine blk_alloc ?_ _)); refine blk_far ?_ NB236_246.out _; (with_reducible repeat (first | refine blk_drewN ?_ _ | refine blk_drew ?_ | refine blk_alloc ?_ _)); exact BK236.out) hb) (aC (blk_below (g := gb246) (o := .cells #[.int .i64 t240, .int .i64 t241, .int .i64 t242, .int .i64 t243] 39 (0, 0)) (by (with_reducible repeat (first | refine blk_drewN ?_ _ | refine blk_drew ?_ | refine blk_alloc ?_ _)); refine blk_put (cs := #[.int .i64 t240, .int .i64 t241, .int .i64 t242, .int .i64 0]) ?_ 3 _ rfl; (with_reducible repeat (first | refine blk_drewN ?_ _ | refine blk_drew ?_ | refine blk_alloc ?_ _)); refine blk_put (cs := #[.int .i64 t240, .int .i64 t241, .int .i64 0, .int .i64 0]) ?_ 2 _ rfl; (with_reducible repeat (first | refine blk_drewN ?_ _ | refine blk_drew ?_ | refine blk_alloc ?_ _)); refine blk_put (cs := #[.int .i64 t240, .int .i64 0, .int .i64 0, .int .i64 0]) ?_ 1 _ rfl; (with_reducible repeat (first | refine blk_drewN ?_ _ | refine blk_drew ?_ | refine blk_alloc ?_ _)); refine blk_put (cs := #[.int .i64 0, .int .i64 0, .int .i64 0, .int .i64 0]) ?_ 0 _ rfl; (with_reducible repeat (first | refine blk_drewN ?_ _ | refine blk_drew ?_ | refine blk_alloc ?_ _)); exact BK246.out) hb) (aE (bs hb))); clear BK236 BK246 HB; obtain ⟨BK236, BK246, HB⟩ := n_; obtain ⟨hcz34_0, hcz34_1, hcz34_2, hcz34_3, hfz34_0, hfz34_1, hfz34_2, hfz34_3⟩ := cz4f BK246.out)))
           go_roundg k1
           case measure => have := HK1.out; omega
           case rel => exact ⟨(wrap64 (x8_1 - 1)), rq, H', ⟨by have := HK1.out; omega⟩, ⟨bU BK236.out⟩, ⟨bl⟩⟩
         ·replace c17 := Bool.eq_false_iff.mpr c17
          subst c17
          rw [if_neg Bool.false_ne_true] at H
          by_cases c35 : 1 < (((rd_T33 l0_3 x8_1).f3).length : Int)
          ·rw [if_pos c35] at H
           have c35b0 := decide_eq_true c35
           have c35b1 : decide (1 < ((rd_T33 l0_3 x8_1).f3).length) = true := decide_eq_true (by omega)
           clear c35
           simp only [Option.some.injEq, Prod.mk.injEq] at H
           obtain ⟨rfl, rfl⟩ := H
           obtain ⟨hcz36_0, hcz36_1, hcz36_2, hcz36_3, hfz36_0, hfz36_1, hfz36_2, hfz36_3⟩ := cz4f BK236.out
           have p238 : 0 ≤ (x8_1 : Int) := dt
           have q238 : x8_1 < (l0_3.length : Int) := dt
           obtain ⟨ad238, A238_3, c238_3, e238, hx238_0, hx238_1, hx238_2, hx238_3, hl238_3, hi238_3⟩ := at_T33 HR0_3.out x8_1 p238 q238
           cases e238
           replace hx238_0 := hcB HB.out hx238_0
           replace hx238_1 := hcB HB.out hx238_1
           replace hx238_2 := hcB HB.out hx238_2
           replace hx238_3 := hcB HB.out hx238_3
           have HR238_3 := Aside0.mk hi238_3
           have HC238_3 := Aside0.mk hl238_3
           clear hi238_3 hl238_3
           replace p238 := eq_true p238
           replace q238 := eq_true q238
           have p239 : 0 ≤ (3 : Int) := (by omega)
           have q239 : 3 < (((rd_T33 l0_3 x8_1).f3).length : Int) := dt
           obtain ⟨ad239, A239_3, c239_3, e239, hx239_0, hx239_1, hx239_2, hx239_3, hl239_3, hi239_3⟩ := at_T33 HR238_3.out 3 p239 q239
           cases e239
           (try simp only [show (3 : Int).toNat = 3 from rfl, Nat.reduceMul, Nat.reduceEqDiff, Go.Addr.add, ↓reduceIte] at hx239_0)
           (try simp only [show (3 : Int).toNat = 3 from rfl, Nat.reduceMul, Nat.reduceEqDiff, Go.Addr.add, ↓reduceIte] at hx239_1)
           (try simp only [show (3 : Int).toNat = 3 from rfl, Nat.reduceMul, Nat.reduceEqDiff, Go.Addr.add, ↓reduceIte] at hx239_2)
           (try simp only [show (3 : Int).toNat = 3 from rfl, Nat.reduceMul, Nat.reduceEqDiff, Go.Addr.add, ↓reduceIte] at hx239_3)
           have qi239 : (3 < ((rd_T33 l0_3 x8_1).f3).length) = True := eq_true (by omega)
           (try rw [show ((3 : Int)).toNat = 3 from rfl] at hx239_0)
           (try rw [show 3 * 4 = 12 from rfl] at hx239_0)
           (try rw [show ((3 : Int)).toNat = 3 from rfl] at hx239_1)
           (try rw [show 3 * 4 = 12 from rfl] at hx239_1)
           (try rw [show ((3 : Int)).toNat = 3 from rfl] at hx239_2)
           (try rw [show 3 * 4 = 12 from rfl] at hx239_2)
           (try rw [show ((3 : Int)).toNat = 3 from rfl] at hx239_3)
           (try rw [show 3 * 4 = 12 from rfl] at hx239_3)
           replace hx239_0 := hcB HB.out hx239_0
           replace hx239_1 := hcB HB.out hx239_1
           replace hx239_2 := hcB HB.out hx239_2
           replace hx239_3 := hcB HB.out hx239_3
           have HR239_3 := Aside0.mk hi239_3
           have HC239_3 := Aside0.mk hl239_3
           clear hi239_3 hl239_3
           replace p239 := eq_true p239
           replace q239 := eq_true q239
           go_wp2_with (first | (go_at_call 43; (with_reducible refine (incunableref25_shape.calls k1 ((rd_T33 ((rd_T33 l0_3 x8_1).f3) 3).f0) ((rd_T33 ((rd_T33 l0_3 x8_1).f3) 3).f1) ((rd_T33 ((rd_T33 l0_3 x8_1).f3) 3).f2) _ _ ((rd_T33 ((rd_T33 l0_3 x8_1).f3) 3).f3) t240 t241 t242 t243 false t245 _ ?side1 ?side2 A14.out).mono ?_); (case side1 => exact cU (Kd.C_below HR239_3.out HB.out)); (case side2 => exact HC239_3.out); rintro e w37 ⟨rfl, hb⟩; have n_ := aC (blk_below (bU BK236.out) hb) (aE (bs hb)); clear BK236 HB; obtain ⟨BK236, HB⟩ := n_) | ((with_reducible refine gd 9 rfl ?_); refine bx 9 #[.int .i64 0, .int .i64 0, .int .i64 0, .int .i64 0] 39 rfl rfl ?_; intro gb246 hg w38 hbox hb; have n_ := aC (blk_below (bU BK236.out) hb) (aC (bs hb) (aC hbox (aC (gz hg) (aC (gz hg) (aC (gn hg (bU BK236.out)) (aE (gm hg (bU BK236.out)))))))); clear BK236 HB; obtain ⟨BK236, HB, BK246, GW246, GE246, NB236_246, NB246_236⟩ := n_; clear hb hbox hg; have hnb39 := NB246_236.out; have hnc39 := NB236_246.out; obtain ⟨hcz40_0, hcz40_1, hcz40_2, hcz40_3, hfz40_0, hfz40_1, hfz40_2, hfz40_3⟩ := cz4f BK246.out) | (go_at_call 23; (with_reducible refine (incunableref25_Inside.calls t240 t241 t242 t243 a1 a2 true _ A15.out).mono ?_); rintro e w41 ⟨rfl, hb⟩; have n_ := aC (blk_below (g := gb236) (o := .cells #[.int .i64 a0_0, .string a0_1, .int .i64 a0_2, .slice (some ad238) l0_3.length c0_3] 33 (0, 0)) (by (with_reducible repeat (first | refine blk_drewN ?_ _ | refine blk_drew ?_ | refine blk_alloc ?_ _)); refine blk_far ?_ NB236_246.out _; (with_reducible repeat (first | refine blk_drewN ?_ _ | refine blk_drew ?_ | refine blk_alloc ?_ _)); refine blk_far ?_ NB236_246.out _; (with_reducible repeat (first | refine blk_drewN ?_ _ | refine blk_drew ?_ | refine blk_alloc ?_ _)); refine blk_far ?_ NB236_246.out _; (with_reducible repeat (first | refine blk_drewN ?_ _ | refine blk_drew ?_ | refine blk_alloc ?_ _)); refine blk_far ?_ NB236_246.out _; (with_reducible repeat (first | refine blk_drewN ?_ _ | refine blk_drew ?_ | refine blk_alloc ?_ _)); exact BK236.out) hb) (aC (blk_below (g := gb246) (o := .cells #[.int .i64 t240, .int .i64 t241, .int .i64 t242, .int .i64 t243] 39 (0, 0)) (by (with_reducible repeat (first | refine blk_drewN ?_ _ | refine blk_drew ?_ | refine blk_alloc ?_ _)); refine blk_put (cs := #[.int .i64 t240, .int .i64 t241, .int .i64 t242, .int .i64 0]) ?_ 3 _ rfl; (with_reducible repeat (first | refine blk_drewN ?_ _ | refine blk_drew ?_ | refine blk_alloc ?_ _)); refine blk_put (cs := #[.int .i64 t240, .int .i64 t241, .int .i64 0, .int .i64 0]) ?_ 2 _ rfl; (with_reducible repeat (first | refine blk_drewN ?_ _ | refine blk_drew ?_ | refine blk_alloc ?_ _)); refine blk_put (cs := #[.int .i64 t240, .int .i64 0, .int .i64 0, .int .i64 0]) ?_ 1 _ rfl; (with_reducible repeat (first | refine blk_drewN ?_ _ | refine blk_drew ?_ | refine blk_alloc ?_ _)); refine blk_put (cs := #[.int .i64 0, .int .i64 0, .int .i64 0, .int .i64 0]) ?_ 0 _ rfl; (with_reducible repeat (first | refine blk_drewN ?_ _ | refine blk_drew ?_ | refine blk_alloc ?_ _)); exact BK246.out) hb) (aE (bs hb))); clear BK236 BK246 HB; obtain ⟨BK236, BK246, HB⟩ := n_; obtain ⟨hcz42_0, hcz42_1, hcz42_2, hcz42_3, hfz42_0, hfz42_1, hfz42_2, hfz42_3⟩ := cz4f BK246.out; obtain ⟨hcz43_0, hcz43_1, hcz43_2, hcz43_3, hfz43_0, hfz43_1, hfz43_2, hfz43_3⟩ := cz4f BK236.out; have p250 : 0 ≤ (x8_1 : Int) := dt; have q250 : x8_1 < (l0_3.length : Int) := dt; obtain ⟨ad250, A250_3, c250_3, e250, hx250_0, hx250_1, hx250_2, hx250_3, hl250_3, hi250_3⟩ := at_T33 HR0_3.out x8_1 p250 q250; obtain rfl : ad238 = ad250 := (by injection e250); replace hx250_0 := hcB HB.out hx250_0; replace hx250_1 := hcB HB.out hx250_1; replace hx250_2 := hcB HB.out hx250_2; replace hx250_3 := hcB HB.out hx250_3; have HR250_3 := Aside0.mk hi250_3; have HC250_3 := Aside0.mk hl250_3; clear hi250_3 hl250_3; replace p250 := eq_true p250; replace q250 := eq_true q250; have p251 : 0 ≤ (1 : Int) := (by omega); have q251 : 1 < (((rd_T33 l0_3 x8_1).f3).length : Int) := dt; obtain ⟨ad251, A251_3, c251_3, e251, hx251_0, hx251_1, hx251_2, hx251_3, hl251_3, hi251_3⟩ := at_T33 HR250_3.out 1 p251 q251; cases e251; (try simp only [show (1 : Int).toNat = 1 from rfl, Nat.reduceMul, Nat.reduceEqDiff, Go.Addr.add, ↓reduceIte] at hx251_0); (try simp only [show (1 : Int).toNat = 1 from rfl, Nat.reduceMul, Nat.reduceEqDiff, Go.Addr.add, ↓reduceIte] at hx251_1); (try simp only [show (1 : Int).toNat = 1 from rfl, Nat.reduceMul, Nat.reduceEqDiff, Go.Addr.add, ↓reduceIte] at hx251_2); (try simp only [show (1 : Int).toNat = 1 from rfl, Nat.reduceMul, Nat.reduceEqDiff, Go.Addr.add, ↓reduceIte] at hx251_3); have qi251 : (1 < ((rd_T33 l0_3 x8_1).f3).length) = True := eq_true (by omega); (try rw [show ((1 : Int)).toNat = 1 from rfl] at hx251_0); (try rw [show 1 * 4 = 4 from rfl] at hx251_0); (try rw [show ((1 : Int)).toNat = 1 from rfl] at hx251_1); (try rw [show 1 * 4 = 4 from rfl] at hx251_1); (try rw [show ((1 : Int)).toNat = 1 from rfl] at hx251_2); (try rw [show 1 * 4 = 4 from rfl] at hx251_2); (try rw [show ((1 : Int)).toNat = 1 from rfl] at hx251_3); (try rw [show 1 * 4 = 4 from rfl] at hx251_3); replace hx251_0 := hcB HB.out hx251_0; replace hx251_1 := hcB HB.out hx251_1; replace hx251_2 := hcB HB.out hx251_2; replace hx251_3 := hcB HB.out hx251_3; have HR251_3 := Aside0.mk hi251_3; have HC251_3 := Aside0.mk hl251_3; clear hi251_3 hl251_3; replace p251 := eq_true p251; replace q251 := eq_true q251))
           repeat (go_quiet (first | (go_at_call 43; (with_reducible refine (incunableref25_shape.calls k1 ((rd_T33 ((rd_T33 l0_3 x8_1).f3) 3).f0) ((rd_T33 ((rd_T33 l0_3 x8_1).f3) 3).f1) ((rd_T33 ((rd_T33 l0_3 x8_1).f3) 3).f2) _ _ ((rd_T33 ((rd_T33 l0_3 x8_1).f3) 3).f3) t240 t241 t242 t243 false t245 _ ?side1 ?side2 A14.out).mono ?_); (case side1 => exact cU (Kd.C_below HR239_3.out HB.out)); (case side2 => exact HC239_3.out); rintro e w37 ⟨rfl, hb⟩; have n_ := aC (blk_below (bU BK236.out) hb) (aE (bs hb)); clear BK236 HB; obtain ⟨BK236, HB⟩ := n_) | ((with_reducible refine gd 9 rfl ?_); refine bx 9 #[.int .i64 0, .int .i64 0, .int .i64 0, .int .i64 0] 39 rfl rfl ?_; intro gb246 hg w38 hbox hb; have n_ := aC (blk_below (bU BK236.out) hb) (aC (bs hb) (aC hbox (aC (gz hg) (aC (gz hg) (aC (gn hg (bU BK236.out)) (aE (gm hg (bU BK236.out)))))))); clear BK236 HB; obtain ⟨BK236, HB, BK246, GW246, GE246, NB236_246, NB246_236⟩ := n_; clear hb hbox hg; have hnb39 := NB246_236.out; have hnc39 := NB236_246.out; obtain ⟨hcz40_0, hcz40_1, hcz40_2, hcz40_3, hfz40_0, hfz40_1, hfz40_2, hfz40_3⟩ := cz4f BK246.out) | (go_at_call 23; (with_reducible refine (incunableref25_Inside.calls t240 t241 t242 t243 a1 a2 true _ A15.out).mono ?_); rintro e w41 ⟨rfl, hb⟩; have n_ := aC (blk_below (g := gb236) (o := .cells #[.int .i64 a0_0, .string a0_1, .int .i64 a0_2, .slice (some ad238) l0_3.length c0_3] 33 (0, 0)) (by (with_reducible repeat (first | refine blk_drewN ?_ _ | refine blk_drew ?_ | refine blk_alloc ?_ _)); refine blk_far ?_ NB236_246.out _; (with_reducible repeat (first | refine blk_drewN ?_ _ | refine blk_drew ?_ | refine blk_alloc ?_ _)); refine blk_far ?_ NB236_246.out _; (with_reducible repeat (first | refine blk_drewN ?_ _ | refine blk_drew ?_ | refine blk_alloc ?_ _)); refine blk_far ?_ NB236_246.out _; (with_reducible repeat (first | refine blk_drewN ?_ _ | refine blk_drew ?_ | refine blk_alloc ?_ _)); refine blk_far ?_ NB236_246.out _; (with_reducible repeat (first | refine blk_drewN ?_ _ | refine blk_drew ?_ | refine blk_alloc ?_ _)); exact BK236.out) hb) (aC (blk_below (g := gb246) (o := .cells #[.int .i64 t240, .int .i64 t241, .int .i64 t242, .int .i64 t243] 39 (0, 0)) (by (with_reducible repeat (first | refine blk_drewN ?_ _ | refine blk_drew ?_ | refine blk_alloc ?_ _)); refine blk_put (cs := #[.int .i64 t240, .int .i64 t241, .int .i64 t242, .int .i64 0]) ?_ 3 _ rfl; (with_reducible repeat (first | refine blk_drewN ?_ _ | refine blk_drew ?_ | refine blk_alloc ?_ _)); refine blk_put (cs := #[.int .i64 t240, .int .i64 t241, .int .i64 0, .int .i64 0]) ?_ 2 _ rfl; (with_reducible repeat (first | refine blk_drewN ?_ _ | refine blk_drew ?_ | refine blk_alloc ?_ _)); refine blk_put (cs := #[.int .i64 t240, .int .i64 0, .int .i64 0, .int .i64 0]) ?_ 1 _ rfl; (with_reducible repeat (first | refine blk_drewN ?_ _ | refine blk_drew ?_ | refine blk_alloc ?_ _)); refine blk_put (cs := #[.int .i64 0, .int .i64 0, .int .i64 0, .int .i64 0]) ?_ 0 _ rfl; (with_reducible repeat (first | refine blk_drewN ?_ _ | refine blk_drew ?_ | refine blk_alloc ?_ _)); exact BK246.out) hb) (aE (bs hb))); clear BK236 BK246 HB; obtain ⟨BK236, BK246, HB⟩ := n_; obtain ⟨hcz42_0, hcz42_1, hcz42_2, hcz42_3, hfz42_0, hfz42_1, hfz42_2, hfz42_3⟩ := cz4f BK246.out; obtain ⟨hcz43_0, hcz43_1, hcz43_2, hcz43_3, hfz43_0, hfz43_1, hfz43_2, hfz43_3⟩ := cz4f BK236.out; have p250 : 0 ≤ (x8_1 : Int) := dt; have q250 : x8_1 < (l0_3.length : Int) := dt; obtain ⟨ad250, A250_3, c250_3, e250, hx250_0, hx250_1, hx250_2, hx250_3, hl250_3, hi250_3⟩ := at_T33 HR0_3.out x8_1 p250 q250; obtain rfl : ad238 = ad250 := (by injection e250); replace hx250_0 := hcB HB.out hx250_0; replace hx250_1 := hcB HB.out hx250_1; replace hx250_2 := hcB HB.out hx250_2; replace hx250_3 := hcB HB.out hx250_3; have HR250_3 := Aside0.mk hi250_3; have HC250_3 := Aside0.mk hl250_3; clear hi250_3 hl250_3; replace p250 := eq_true p250; replace q250 := eq_true q250; have p251 : 0 ≤ (1 : Int) := (by omega); have q251 : 1 < (((rd_T33 l0_3 x8_1).f3).length : Int) := dt; obtain ⟨ad251, A251_3, c251_3, e251, hx251_0, hx251_1, hx251_2, hx251_3, hl251_3, hi251_3⟩ := at_T33 HR250_3.out 1 p251 q251; cases e251; (try simp only [show (1 : Int).toNat = 1 from rfl, Nat.reduceMul, Nat.reduceEqDiff, Go.Addr.add, ↓reduceIte] at hx251_0); (try simp only [show (1 : Int).toNat = 1 from rfl, Nat.reduceMul, Nat.reduceEqDiff, Go.Addr.add, ↓reduceIte] at hx251_1); (try simp only [show (1 : Int).toNat = 1 from rfl, Nat.reduceMul, Nat.reduceEqDiff, Go.Addr.add, ↓reduceIte] at hx251_2); (try simp only [show (1 : Int).toNat = 1 from rfl, Nat.reduceMul, Nat.reduceEqDiff, Go.Addr.add, ↓reduceIte] at hx251_3); have qi251 : (1 < ((rd_T33 l0_3 x8_1).f3).length) = True := eq_true (by omega); (try rw [show ((1 : Int)).toNat = 1 from rfl] at hx251_0); (try rw [show 1 * 4 = 4 from rfl] at hx251_0); (try rw [show ((1 : Int)).toNat = 1 from rfl] at hx251_1); (try rw [show 1 * 4 = 4 from rfl] at hx251_1); (try rw [show ((1 : Int)).toNat = 1 from rfl] at hx251_2); (try rw [show 1 * 4 = 4 from rfl] at hx251_2); (try rw [show ((1 : Int)).toNat = 1 from rfl] at hx251_3); (try rw [show 1 * 4 = 4 from rfl] at hx251_3); replace hx251_0 := hcB HB.out hx251_0; replace hx251_1 := hcB HB.out hx251_1; replace hx251_2 := hcB HB.out hx251_2; replace hx251_3 := hcB HB.out hx251_3; have HR251_3 := Aside0.mk hi251_3; have HC251_3 := Aside0.mk hl251_3; clear hi251_3 hl251_3; replace p251 := eq_true p251; replace q251 := eq_true q251)); try go_wp2_with (first | (go_at_call 43; (with_reducible refine (incunableref25_shape.calls k1 ((rd_T33 ((rd_T33 l0_3 x8_1).f3) 3).f0) ((rd_T33 ((rd_T33 l0_3 x8_1).f3) 3).f1) ((rd_T33 ((rd_T33 l0_3 x8_1).f3) 3).f2) _ _ ((rd_T33 ((rd_T33 l0_3 x8_1).f3) 3).f3) t240 t241 t242 t243 false t245 _ ?side1 ?side2 A14.out).mono ?_); (case side1 => exact cU (Kd.C_below HR239_3.out HB.out)); (case side2 => exact HC239_3.out); rintro e w37 ⟨rfl, hb⟩; have n_ := aC (blk_below (bU BK236.out) hb) (aE (bs hb)); clear BK236 HB; obtain ⟨BK236, HB⟩ := n_) | ((with_reducible refine gd 9 rfl ?_); refine bx 9 #[.int .i64 0, .int .i64 0, .int .i64 0, .int .i64 0] 39 rfl rfl ?_; intro gb246 hg w38 hbox hb; have n_ := aC (blk_below (bU BK236.out) hb) (aC (bs hb) (aC hbox (aC (gz hg) (aC (gz hg) (aC (gn hg (bU BK236.out)) (aE (gm hg (bU BK236.out)))))))); clear BK236 HB; obtain ⟨BK236, HB, BK246, GW246, GE246, NB236_246, NB246_236⟩ := n_; clear hb hbox hg; have hnb39 := NB246_236.out; have hnc39 := NB236_246.out; obtain ⟨hcz40_0, hcz40_1, hcz40_2, hcz40_3, hfz40_0, hfz40_1, hfz40_2, hfz40_3⟩ := cz4f BK246.out) | (go_at_call 23; (with_reducible refine (incunableref25_Inside.calls t240 t241 t242 t243 a1 a2 true _ A15.out).mono ?_); rintro e w41 ⟨rfl, hb⟩; have n_ := aC (blk_below (g := gb236) (o := .cells #[.int .i64 a0_0, .string a0_1, .int .i64 a0_2, .slice (some ad238) l0_3.length c0_3] 33 (0, 0)) (by (with_reducible repeat (first | refine blk_drewN ?_ _ | refine blk_drew ?_ | refine blk_alloc ?_ _)); refine blk_far ?_ NB236_246.out _; (with_reducible repeat (first | refine blk_drewN ?_ _ | refine blk_drew ?_ | refine blk_alloc ?_ _)); refine blk_far ?_ NB236_246.out _; (with_reducible repeat (first | refine blk_drewN ?_ _ | refine blk_drew ?_ | refine blk_alloc ?_ _)); refine blk_far ?_ NB236_246.out _; (with_reducible repeat (first | refine blk_drewN ?_ _ | refine blk_drew ?_ | refine blk_alloc ?_ _)); refine blk_far ?_ NB236_246.out _; (with_reducible repeat (first | refine blk_drewN ?_ _ | refine blk_drew ?_ | refine blk_alloc ?_ _)); exact BK236.out) hb) (aC (blk_below (g := gb246) (o := .cells #[.int .i64 t240, .int .i64 t241, .int .i64 t242, .int .i64 t243] 39 (0, 0)) (by (with_reducible repeat (first | refine blk_drewN ?_ _ | refine blk_drew ?_ | refine blk_alloc ?_ _)); refine blk_put (cs := #[.int .i64 t240, .int .i64 t241, .int .i64 t242, .int .i64 0]) ?_ 3 _ rfl; (with_reducible repeat (first | refine blk_drewN ?_ _ | refine blk_drew ?_ | refine blk_alloc ?_ _)); refine blk_put (cs := #[.int .i64 t240, .int .i64 t241, .int .i64 0, .int .i64 0]) ?_ 2 _ rfl; (with_reducible repeat (first | refine blk_drewN ?_ _ | refine blk_drew ?_ | refine blk_alloc ?_ _)); refine blk_put (cs := #[.int .i64 t240, .int .i64 0, .int .i64 0, .int .i64 0]) ?_ 1 _ rfl; (with_reducible repeat (first | refine blk_drewN ?_ _ | refine blk_drew ?_ | refine blk_alloc ?_ _)); refine blk_put (cs := #[.int .i64 0, .int .i64 0, .int .i64 0, .int .i64 0]) ?_ 0 _ rfl; (with_reducible repeat (first | refine blk_drewN ?_ _ | refine blk_drew ?_ | refine blk_alloc ?_ _)); exact BK246.out) hb) (aE (bs hb))); clear BK236 BK246 HB; obtain ⟨BK236, BK246, HB⟩ := n_; obtain ⟨hcz42_0, hcz42_1, hcz42_2, hcz42_3, hfz42_0, hfz42_1, hfz42_2, hfz42_3⟩ := cz4f BK246.out; obtain ⟨hcz43_0, hcz43_1, hcz43_2, hcz43_3, hfz43_0, hfz43_1, hfz43_2, hfz43_3⟩ := cz4f BK236.out; have p250 : 0 ≤ (x8_1 : Int) := dt; have q250 : x8_1 < (l0_3.length : Int) := dt; obtain ⟨ad250, A250_3, c250_3, e250, hx250_0, hx250_1, hx250_2, hx250_3, hl250_3, hi250_3⟩ := at_T33 HR0_3.out x8_1 p250 q250; obtain rfl : ad238 = ad250 := (by injection e250); replace hx250_0 := hcB HB.out hx250_0; replace hx250_1 := hcB HB.out hx250_1; replace hx250_2 := hcB HB.out hx250_2; replace hx250_3 := hcB HB.out hx250_3; have HR250_3 := Aside0.mk hi250_3; have HC250_3 := Aside0.mk hl250_3; clear hi250_3 hl250_3; replace p250 := eq_true p250; replace q250 := eq_true q250; have p251 : 0 ≤ (1 : Int) := (by omega); have q251 : 1 < (((rd_T33 l0_3 x8_1).f3).length : Int) := dt; obtain ⟨ad251, A251_3, c251_3, e251, hx251_0, hx251_1, hx251_2, hx251_3, hl251_3, hi251_3⟩ := at_T33 HR250_3.out 1 p251 q251; cases e251; (try simp only [show (1 : Int).toNat = 1 from rfl, Nat.reduceMul, Nat.reduceEqDiff, Go.Addr.add, ↓reduceIte] at hx251_0); (try simp only [show (1 : Int).toNat = 1 from rfl, Nat.reduceMul, Nat.reduceEqDiff, Go.Addr.add, ↓reduceIte] at hx251_1); (try simp only [show (1 : Int).toNat = 1 from rfl, Nat.reduceMul, Nat.reduceEqDiff, Go.Addr.add, ↓reduceIte] at hx251_2); (try simp only [show (1 : Int).toNat = 1 from rfl, Nat.reduceMul, Nat.reduceEqDiff, Go.Addr.add, ↓reduceIte] at hx251_3); have qi251 : (1 < ((rd_T33 l0_3 x8_1).f3).length) = True := eq_true (by omega); (try rw [show ((1 : Int)).toNat = 1 from rfl] at hx251_0); (try rw [show 1 * 4 = 4 from rfl] at hx251_0); (try rw [show ((1 : Int)).toNat = 1 from rfl] at hx251_1); (try rw [show 1 * 4 = 4 from rfl] at hx251_1); (try rw [show ((1 : Int)).toNat = 1 from rfl] at hx251_2); (try rw [show 1 * 4 = 4 from rfl] at hx251_2); (try rw [show ((1 : Int)).toNat = 1 from rfl] at hx251_3); (try rw [show 1 * 4 = 4 from rfl] at hx251_3); replace hx251_0 := hcB HB.out hx251_0; replace hx251_1 := hcB HB.out hx251_1; replace hx251_2 := hcB HB.out hx251_2; replace hx251_3 := hcB HB.out hx251_3; have HR251_3 := Aside0.mk hi251_3; have HC251_3 := Aside0.mk hl251_3; clear hi251_3 hl251_3; replace p251 := eq_true p251; replace q251 := eq_true q251)))
           go_ret2
           exact ⟨re, bl⟩
          ·rw [if_neg c35] at H
           exact absurd H (by simp)
        ·replace c16 := Bool.eq_false_iff.mpr c16
         subst c16
         rw [if_neg Bool.false_ne_true] at H
         have H' := Aside0.mk H
         clear H
         obtain ⟨hcz44_0, hcz44_1, hcz44_2, hcz44_3, hfz44_0, hfz44_1, hfz44_2, hfz44_3⟩ := cz4f BK236.out
         have p238 : 0 ≤ (x8_1 : Int) := dt
         have q238 : x8_1 < (l0_3.length : Int) := dt
         obtain ⟨ad238, A238_3, c238_3, e238, hx238_0, hx238_1, hx238_2, hx238_3, hl238_3, hi238_3⟩ := at_T33 HR0_3.out x8_1 p238 q238
         cases e238
         replace hx238_0 := hcB HB.out hx238_0
         replace hx238_1 := hcB HB.out hx238_1
         replace hx238_2 := hcB HB.out hx238_2
         replace hx238_3 := hcB HB.out hx238_3
         have HR238_3 := Aside0.mk hi238_3
         have HC238_3 := Aside0.mk hl238_3
         clear hi238_3 hl238_3
         replace p238 := eq_true p238
         replace q238 := eq_true q238
         have p239 : 0 ≤ (3 : Int) := (by omega)
         have q239 : 3 < (((rd_T33 l0_3 x8_1).f3).length : Int) := dt
         obtain ⟨ad239, A239_3, c239_3, e239, hx239_0, hx239_1, hx239_2, hx239_3, hl239_3, hi239_3⟩ := at_T33 HR238_3.out 3 p239 q239
         cases e239
         (try simp only [show (3 : Int).toNat = 3 from rfl, Nat.reduceMul, Nat.reduceEqDiff, Go.Addr.add, ↓reduceIte] at hx239_0)
         (try simp only [show (3 : Int).toNat = 3 from rfl, Nat.reduceMul, Nat.reduceEqDiff, Go.Addr.add, ↓reduceIte] at hx239_1)
         (try simp only [show (3 : Int).toNat = 3 from rfl, Nat.reduceMul, Nat.reduceEqDiff, Go.Addr.add, ↓reduceIte] at hx239_2)
         (try simp only [show (3 : Int).toNat = 3 from rfl, Nat.reduceMul, Nat.reduceEqDiff, Go.Addr.add, ↓reduceIte] at hx239_3)
         have qi239 : (3 < ((rd_T33 l0_3 x8_1).f3).length) = True := eq_true (by omega)
         (try rw [show ((3 : Int)).toNat = 3 from rfl] at hx239_0)
         (try rw [show 3 * 4 = 12 from rfl] at hx239_0)
         (try rw [show ((3 : Int)).toNat = 3 from rfl] at hx239_1)
         (try rw [show 3 * 4 = 12 from rfl] at hx239_1)
         (try rw [show ((3 : Int)).toNat = 3 from rfl] at hx239_2)
         (try rw [show 3 * 4 = 12 from rfl] at hx239_2)
         (try rw [show ((3 : Int)).toNat = 3 from rfl] at hx239_3)
         (try rw [show 3 * 4 = 12 from rfl] at hx239_3)
         replace hx239_0 := hcB HB.out hx239_0
         replace hx239_1 := hcB HB.out hx239_1
         replace hx239_2 := hcB HB.out hx239_2
         replace hx239_3 := hcB HB.out hx239_3
         have HR239_3 := Aside0.mk hi239_3
         have HC239_3 := Aside0.mk hl239_3
         clear hi239_3 hl239_3
         replace p239 := eq_true p239
         replace q239 := eq_true q239
         go_wp2_with (first | (go_at_call 43; (with_reducible refine (incunableref25_shape.calls k1 ((rd_T33 ((rd_T33 l0_3 x8_1).f3) 3).f0) ((rd_T33 ((rd_T33 l0_3 x8_1).f3) 3).f1) ((rd_T33 ((rd_T33 l0_3 x8_1).f3) 3).f2) _ _ ((rd_T33 ((rd_T33 l0_3 x8_1).f3) 3).f3) t240 t241 t242 t243 t244 t245 _ ?side1 ?side2 A14.out).mono ?_); (case side1 => exact cU (Kd.C_below HR239_3.out HB.out)); (case side2 => exact HC239_3.out); rintro e w45 ⟨rfl, hb⟩; have n_ := aC (blk_below (bU BK236.out) hb) (aE (bs hb)); clear BK236 HB; obtain ⟨BK236, HB⟩ := n_) | ((with_reducible refine gd 9 rfl ?_); refine bx 9 #[.int .i64 0, .int .i64 0, .int .i64 0, .int .i64 0] 39 rfl rfl ?_; intro gb246 hg w46 hbox hb; have n_ := aC (blk_below (bU BK236.out) hb) (aC (bs hb) (aC hbox (aC (gz hg) (aC (gz hg) (aC (gn hg (bU BK236.out)) (aE (gm hg (bU BK236.out)))))))); clear BK236 HB; obtain ⟨BK236, HB, BK246, GW246, GE246, NB236_246, NB246_236⟩ := n_; clear hb hbox hg; have hnb47 := NB246_236.out; have hnc47 := NB236_246.out; obtain ⟨hcz48_0, hcz48_1, hcz48_2, hcz48_3, hfz48_0, hfz48_1, hfz48_2, hfz48_3⟩ := cz4f BK246.out) | (go_at_call 23; (with_reducible refine (incunableref25_Inside.calls t240 t241 t242 t243 a1 a2 false _ A15.out).mono ?_); rintro e w49 ⟨rfl, hb⟩; have n_ := aC (blk_below (g := gb236) (o := .cells #[.int .i64 a0_0, .string a0_1, .int .i64 a0_2, .slice (some ad238) l0_3.length c0_3] 33 (0, 0)) (by (with_reducible repeat (first | refine blk_drewN ?_ _ | refine blk_drew ?_ | refine blk_alloc ?_ _)); refine blk_far ?_ NB236_246.out _; (with_reducible repeat (first | refine blk_drewN ?_ _ | refine blk_drew ?_ | refine blk_alloc ?_ _)); refine blk_far ?_ NB236_246.out _; (with_reducible repeat (first | refine blk_drewN ?_ _ | refine blk_drew ?_ | refine blk_alloc ?_ _)); refine blk_far ?_ NB236_246.out _; (with_reducible repeat (first | refine blk_drewN ?_ _ | refine blk_drew ?_ | refine blk_alloc ?_ _)); refine blk_far ?_ NB236_246.out _; (with_reducible repeat (first | refine blk_drewN ?_ _ | refine blk_drew ?_ | refine blk_alloc ?_ _)); exact BK236.out) hb) (aC (blk_below (g := gb246) (o := .cells #[.int .i64 t240, .int .i64 t241, .int .i64 t242, .int .i64 t243] 39 (0, 0)) (by (with_reducible repeat (first | refine blk_drewN ?_ _ | refine blk_drew ?_ | refine blk_alloc ?_ _)); refine blk_put (cs := #[.int .i64 t240, .int .i64 t241, .int .i64 t242, .int .i64 0]) ?_ 3 _ rfl; (with_reducible repeat (first | refine blk_drewN ?_ _ | refine blk_drew ?_ | refine blk_alloc ?_ _)); refine blk_put (cs := #[.int .i64 t240, .int .i64 t241, .int .i64 0, .int .i64 0]) ?_ 2 _ rfl; (with_reducible repeat (first | refine blk_drewN ?_ _ | refine blk_drew ?_ | refine blk_alloc ?_ _)); refine blk_put (cs := #[.int .i64 t240, .int .i64 0, .int .i64 0, .int .i64 0]) ?_ 1 _ rfl; (with_reducible repeat (first | refine blk_drewN ?_ _ | refine blk_drew ?_ | refine blk_alloc ?_ _)); refine blk_put (cs := #[.int .i64 0, .int .i64 0, .int .i64 0, .int .i64 0]) ?_ 0 _ rfl; (with_reducible repeat (first | refine blk_drewN ?_ _ | refine blk_drew ?_ | refine blk_alloc ?_ _)); exact BK246.out) hb) (aE (bs hb))); clear BK236 BK246 HB; obtain ⟨BK236, BK246, HB⟩ := n_))
         go_roundg k1
         case measure => have := HK1.out; omega
         case rel => exact ⟨(wrap64 (x8_1 - 1)), rq, H', ⟨by have := HK1.out; omega⟩, ⟨bU BK236.out⟩, ⟨bl⟩⟩
       ·rw [if_neg c13] at H
        exact absurd H (by simp)
      ·rw [if_neg c12] at H
       exact absurd H (by simp)
     ·rw [if_neg c11] at H
      exact absurd H (by simp)
    ·simp only [Option.some.injEq, Prod.mk.injEq] at H
     obtain ⟨rfl, rfl⟩ := H
     go_wp2
     go_ret2
     exact ⟨re, bl⟩
 ·replace c5 := Bool.eq_false_iff.mpr c5
  subst c5
  rw [if_neg Bool.false_ne_true] at H
  simp only [Option.some.injEq, Prod.mk.injEq] at H
  obtain ⟨rfl, rfl⟩ := H
  go_enter Tryd.func22, Tryd.ntmps22
  go_wp2_with (first | ((with_reducible refine gd 3 rfl ?_); refine bx 3 #[.int .i64 a0_0, .string a0_1, .int .i64 a0_2, .slice A0_3 l0_3.length c0_3] 33 rfl rfl ?_; intro gb236 hg w50 hbox hb; have n_ := aC (bs hb) (aC hbox (aC (gz hg) (aE (gz hg)))); clear HB; obtain ⟨HB, BK236, GW236, GE236⟩ := n_; clear hb hbox hg; obtain ⟨hcz51_0, hcz51_1, hcz51_2, hcz51_3, hfz51_0, hfz51_1, hfz51_2, hfz51_3⟩ := cz4f BK236.out) | (go_at_call 20; (with_reducible refine (incunableref25_IsNotes.calls k a0_0 a0_1 a0_2 _ _ l0_3 false _ ?side1 ?side2 A4.out).mono ?_); (case side1 => exact cU (Kd.C_below HR0_3.out HB.out)); (case side2 => exact HC0_3.out); rintro e w52 ⟨rfl, hb⟩; have n_ := aC (blk_below (bU BK236.out) hb) (aE (bs hb)); clear BK236 HB; obtain ⟨BK236, HB⟩ := n_))
  go_ret2
  exact ⟨re, bl⟩
end Go.Proofs.YtacdchogjpeffaaDoor.PNoteHits
