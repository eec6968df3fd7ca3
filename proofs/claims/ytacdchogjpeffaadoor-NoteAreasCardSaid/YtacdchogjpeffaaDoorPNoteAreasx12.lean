-- printed (wip/tools/myprint.py)
import Derived.Test.YtacdchogjpeffaaDoorPNoteAreasx0
import Derived.Test.YtacdchogjpeffaaDoorPNoteAreasx9
import Derived.Test.YtacdchogjpeffaaDoorPNoteAreasx10
import Derived.Test.YtacdchogjpeffaaDoorPNoteAreasx11
namespace Go.Proofs.YtacdchogjpeffaaDoor.PNoteAreas
open Go.RowKit Go.Proofs.YtacdchogjpeffaaDoorW.PrintWords Go.Proofs.YtacdchogjpeffaaDoorW.PrintLast Go.Proofs.YtacdchogjpeffaaDoorW.PrintMore
attribute [local go_sem] max2_int min2_int max_two min_two max_three min_three max_four min_four
set_option linter.unusedVariables false
set_option linter.unusedSimpArgs false
mutual
def incunableref25_IsNotes.j0 : Nat → Bool → Int → ByteArray → Int → List (S33) → Option (Bool)
 | 0, _, _, _, _, _ => none
 | k + 1, x11, x224000, x224001, x224002, x224003 => if x11 = true then (some false) else (incunableref25_IsNotes.l0 k 0 x224000 x224001 x224002 x224003)
def incunableref25_IsNotes.l0 : Nat → Int → Int → ByteArray → Int → List (S33) → Option (Bool)
 | 0, _, _, _, _, _ => none
 | k + 1, x3, x224000, x224001, x224002, x224003 => if x3 < (x224003.length : Int) then (if 0 ≤ x3 then ((incunableref25_isNote.f k ((rd_T33 x224003 x3).f0) ((rd_T33 x224003 x3).f1) ((rd_T33 x224003 x3).f2) ((rd_T33 x224003 x3).f3)).bind fun t226 => (if t226 = true then (incunableref25_IsNotes.l0 k (wrap64 (x3 + 1)) x224000 x224001 x224002 x224003) else (some false))) else (none)) else (some true)
end
def incunableref25_IsNotes.f (k : Nat) (a0_0 : Int) (a0_1 : ByteArray) (a0_2 : Int) (l0_3 : List (S33)) : Option (Bool) := (incunableref25_Valid.f k a0_0 a0_1 a0_2 l0_3).bind fun t224 => (if t224 = true then (incunableref25_IsNotes.j0 k (a0_0 != 0) a0_0 a0_1 a0_2 l0_3) else (incunableref25_IsNotes.j0 k true a0_0 a0_1 a0_2 l0_3))
theorem incunableref25_IsNotes.mono_l : ∀ k, (∀ y0 y1 y2 y3 y4, LeO (incunableref25_IsNotes.j0 k y0 y1 y2 y3 y4) (incunableref25_IsNotes.j0 (k + 1) y0 y1 y2 y3 y4)) ∧ (∀ y0 y1 y2 y3 y4, LeO (incunableref25_IsNotes.l0 k y0 y1 y2 y3 y4) (incunableref25_IsNotes.l0 (k + 1) y0 y1 y2 y3 y4))
 | 0 => ⟨fun _ _ _ _ _ r h => by simp [incunableref25_IsNotes.j0] at h, fun _ _ _ _ _ r h => by simp [incunableref25_IsNotes.l0] at h⟩
 | k + 1 => by
  obtain ⟨ih0, ih1⟩ := incunableref25_IsNotes.mono_l k
  refine ⟨?_, ?_⟩
  ·intro y0 y1 y2 y3 y4
   unfold incunableref25_IsNotes.j0
   repeat' first
   | (with_reducible exact ih0 _ _ _ _ _)
   | (with_reducible exact ih1 _ _ _ _ _)
   | (with_reducible exact incunableref25_Valid.mono _ _ _ _ _)
   | (with_reducible exact incunableref25_isNote.mono _ _ _ _ _)
   | (with_reducible first | exact LeO.refl _ | exact LeO.none _ | refine LeO.ite ?_ ?_ | refine LeO.bind ?_ (fun _ => ?_))
  ·intro y0 y1 y2 y3 y4
   unfold incunableref25_IsNotes.l0
   repeat' first
   | (with_reducible exact ih0 _ _ _ _ _)
   | (with_reducible exact ih1 _ _ _ _ _)
   | (with_reducible exact incunableref25_Valid.mono _ _ _ _ _)
   | (with_reducible exact incunableref25_isNote.mono _ _ _ _ _)
   | (with_reducible first | exact LeO.refl _ | exact LeO.none _ | refine LeO.ite ?_ ?_ | refine LeO.bind ?_ (fun _ => ?_))
theorem incunableref25_IsNotes.mono : ∀ a0 a1 a2 a3 k, LeO (incunableref25_IsNotes.f k a0 a1 a2 a3) (incunableref25_IsNotes.f (k + 1) a0 a1 a2 a3) := by
 intro a0 a1 a2 a3 k
 obtain ⟨ih0, ih1⟩ := incunableref25_IsNotes.mono_l k
 unfold incunableref25_IsNotes.f
 repeat' first
   | (with_reducible exact ih0 _ _ _ _ _)
   | (with_reducible exact ih1 _ _ _ _ _)
   | (with_reducible exact incunableref25_Valid.mono _ _ _ _ _)
   | (with_reducible exact incunableref25_isNote.mono _ _ _ _ _)
   | (with_reducible first | exact LeO.refl _ | exact LeO.none _ | refine LeO.ite ?_ ?_ | refine LeO.bind ?_ (fun _ => ?_))
set_option maxHeartbeats 8000000 in
set_option maxRecDepth 100000 in
theorem incunableref25_IsNotes.calls (k : Nat) (a0_0 : Int) (a0_1 : ByteArray) (a0_2 : Int) (A0_3 : Option Addr) (c0_3 : Nat) (l0_3 : List (S33)) (r : Bool) (w : World) (hr0_3 : Kd.C k33 w A0_3 l0_3.length l0_3) (hc0_3 : l0_3.length ≤ c0_3) (h : incunableref25_IsNotes.f k a0_0 a0_1 a0_2 l0_3 = some r) :
  Calls Tryd.prog 20 #[.agg #[.int .i64 a0_0, .string a0_1, .int .i64 a0_2, .slice A0_3 l0_3.length c0_3]] w fun e w' => e = .returned (.bool r) ∧ Below w.heap.size w w' := by
 have hu33 := Tryd.underlying33
 have HR0_3 := Aside0.mk hr0_3
 have HC0_3 := Aside0.mk hc0_3
 clear hr0_3 hc0_3
 have HB := Aside0.mk (Below.refl w.heap.size w)
 have H := h
 unfold incunableref25_IsNotes.f at H
 clear h
 have HC2 := Aside0.mk H
 clear H
 go_enter Tryd.func20, Tryd.ntmps20
 go_upto_region 1 with (first | ((with_reducible refine gd 1 rfl ?_); refine bx 1 #[.int .i64 a0_0, .string a0_1, .int .i64 a0_2, .slice A0_3 l0_3.length c0_3] 33 rfl rfl ?_; intro gb223 hg w3 hbox hb; have n_ := aC (bs hb) (aC hbox (aC (gz hg) (aE (gz hg)))); clear HB; obtain ⟨HB, BK223, GW223, GE223⟩ := n_; clear hb hbox hg))
 (try simp only [Act.put, List.setIfInBounds_toArray, List.set_cons_zero, List.set_cons_succ])
 go_cut [11] (fun v11 wc => ∃ (kq : Nat) (x11_1 : Bool), v11 = .bool x11_1 ∧ Aside0 (incunableref25_IsNotes.j0 kq x11_1 a0_0 a0_1 a0_2 l0_3 = some r) ∧ Aside0 (kq ≤ k) ∧ Aside0 (wc.heap[gb223]? = some (.cells #[.int .i64 a0_0, .string a0_1, .int .i64 a0_2, (.slice A0_3 l0_3.length c0_3)] 33 (0, 0))) ∧ Aside0 (Below w.heap.size w wc))
 case first =>
  have H := HC2.out
  clear HC2
  obtain ⟨t224, A4, H⟩ := oB H
  try dsimp only at H
  by_cases c5 : t224 = true
  ·subst c5
   rw [if_pos rfl] at H
   have H' := Aside0.mk H
   clear H
   obtain ⟨hcz6_0, hcz6_1, hcz6_2, hcz6_3, hfz6_0, hfz6_1, hfz6_2, hfz6_3⟩ := cz4f BK223.out
   go_wp2_with (first | (refine gF 34 5 Tryd.func34 #[.agg #[.int .i64 a0_0, .string a0_1, .int .i64 a0_2, .slice A0_3 l0_3.length c0_3]] rfl rfl ?_; (with_reducible refine (incunableref25_Valid.calls k a0_0 a0_1 a0_2 _ _ l0_3 true _ ?side1 ?side2 A4.out).mono ?_); (case side1 => exact cU (Kd.C_below HR0_3.out HB.out)); (case side2 => exact HC0_3.out); rintro e w7 ⟨rfl, hb⟩; refine ⟨_, rfl, ?_⟩; have n_ := aC (blk_below (bU BK223.out) hb) (aE (bs hb)); clear BK223 HB; obtain ⟨BK223, HB⟩ := n_; obtain ⟨hcz8_0, hcz8_1, hcz8_2, hcz8_3, hfz8_0, hfz8_1, hfz8_2, hfz8_3⟩ := cz4f BK223.out))
   go_meet
   case rel => exact ⟨_, ((a0_0 != 0)), rq, H', ⟨by first | omega | exact Nat.le_refl _⟩, ⟨bU BK223.out⟩, ⟨bl⟩⟩
  ·replace c5 := Bool.eq_false_iff.mpr c5
   subst c5
   rw [if_neg Bool.false_ne_true] at H
   have H' := Aside0.mk H
   clear H
   obtain ⟨hcz9_0, hcz9_1, hcz9_2, hcz9_3, hfz9_0, hfz9_1, hfz9_2, hfz9_3⟩ := cz4f BK223.out
   go_wp2_with (first | (refine gF 34 5 Tryd.func34 #[.agg #[.int .i64 a0_0, .string a0_1, .int .i64 a0_2, .slice A0_3 l0_3.length c0_3]] rfl rfl ?_; (with_reducible refine (incunableref25_Valid.calls k a0_0 a0_1 a0_2 _ _ l0_3 false _ ?side1 ?side2 A4.out).mono ?_); (case side1 => exact cU (Kd.C_below HR0_3.out HB.out)); (case side2 => exact HC0_3.out); rintro e w10 ⟨rfl, hb⟩; refine ⟨_, rfl, ?_⟩; have n_ := aC (blk_below (bU BK223.out) hb) (aE (bs hb)); clear BK223 HB; obtain ⟨BK223, HB⟩ := n_))
   go_meet
   case rel => exact ⟨_, (true), rq, H', ⟨by first | omega | exact Nat.le_refl _⟩, ⟨bU BK223.out⟩, ⟨bl⟩⟩
 case rest =>
  clear HC2
  obtain ⟨kq, x11_1, rfl, HA, HJ1, BK223, HB⟩ := hcut
  cases kq with
  | zero => exact absurd HA.out (by simp [incunableref25_IsNotes.j0])
  | succ kj1 =>
   have H := HA.out
   clear HA
   simp only [incunableref25_IsNotes.j0] at H
   by_cases c11 : x11_1 = true
   ·subst c11
    rw [if_pos rfl] at H
    obtain rfl := Option.some.inj H
    go_wp2
    go_ret
    exact ⟨re, bl⟩
   ·replace c11 := Bool.eq_false_iff.mpr c11
    subst c11
    rw [if_neg Bool.false_ne_true] at H
    have H' := Aside0.mk H
    clear H
    go_wp2
    go_loopg [3] kj1 (fun kq v3 w' => ∃ (x3_2 : Int), v3 = .int .i64 x3_2 ∧ Aside0 (incunableref25_IsNotes.l0 kq x3_2 a0_0 a0_1 a0_2 l0_3 = some r) ∧ Aside0 (kq ≤ kj1) ∧ Aside0 (w'.heap[gb223]? = some (.cells #[.int .i64 a0_0, .string a0_1, .int .i64 a0_2, (.slice A0_3 l0_3.length c0_3)] 33 (0, 0))) ∧ Aside0 (Below w.heap.size w w'))
    case atStart => exact ⟨(0), rq, H', ⟨Nat.le_refl _⟩, ⟨bU BK223.out⟩, ⟨bl⟩⟩
    case round =>
     clear H'
     obtain ⟨x3_2, rfl, HA, HK2, BK223, HB⟩ := hrel
     cases gk with
     | zero => exact absurd HA.out (by simp [incunableref25_IsNotes.l0])
     | succ k2 =>
      have H := HA.out
      clear HA
      simp only [incunableref25_IsNotes.l0] at H
      rcases iL H with H1 | H1 <;> clear H <;> obtain ⟨H, c12b0⟩ := H1
      ·by_cases c13 : 0 ≤ x3_2
       ·rw [if_pos c13] at H
        have c13b0 := decide_eq_true c13
        clear c13
        obtain ⟨t226, A14, H⟩ := oB H
        try dsimp only at H
        by_cases c15 : t226 = true
        ·subst c15
         rw [if_pos rfl] at H
         have H' := Aside0.mk H
         clear H
         obtain ⟨hcz16_0, hcz16_1, hcz16_2, hcz16_3, hfz16_0, hfz16_1, hfz16_2, hfz16_3⟩ := cz4f BK223.out
         have p225 : 0 ≤ (x3_2 : Int) := dt
         have q225 : x3_2 < (l0_3.length : Int) := dt
         obtain ⟨ad225, A225_3, c225_3, e225, hx225_0, hx225_1, hx225_2, hx225_3, hl225_3, hi225_3⟩ := at_T33 HR0_3.out x3_2 p225 q225
         cases e225
         replace hx225_0 := hcB HB.out hx225_0
         replace hx225_1 := hcB HB.out hx225_1
         replace hx225_2 := hcB HB.out hx225_2
         replace hx225_3 := hcB HB.out hx225_3
         have HR225_3 := Aside0.mk hi225_3
         have HC225_3 := Aside0.mk hl225_3
         clear hi225_3 hl225_3
         replace p225 := eq_true p225
         replace q225 := eq_true q225
         go_wp2_with (first | (refine gF 47 24 Tryd.func47 #[.agg #[.int .i64 ((rd_T33 l0_3 x3_2).f0), .string ((rd_T33 l0_3 x3_2).f1), .int .i64 ((rd_T33 l0_3 x3_2).f2), .slice A225_3 ((rd_T33 l0_3 x3_2).f3).length c225_3]] rfl rfl ?_; (with_reducible refine (incunableref25_isNote.calls k2 ((rd_T33 l0_3 x3_2).f0) ((rd_T33 l0_3 x3_2).f1) ((rd_T33 l0_3 x3_2).f2) _ _ ((rd_T33 l0_3 x3_2).f3) true _ ?side1 ?side2 A14.out).mono ?_); (case side1 => exact cU (Kd.C_below HR225_3.out HB.out)); (case side2 => exact HC225_3.out); rintro e w17 ⟨rfl, hb⟩; refine ⟨_, rfl, ?_⟩; have n_ := aC (blk_below (bU BK223.out) hb) (aE (bs hb)); clear BK223 HB; obtain ⟨BK223, HB⟩ := n_))
         go_roundg k2
         case measure => have := HJ1.out; have := HK2.out; omega
         case rel => exact ⟨(wrap64 (x3_2 + 1)), rq, H', ⟨by have := HJ1.out; have := HK2.out; omega⟩, ⟨bU BK223.out⟩, ⟨bl⟩⟩
        ·replace c15 := Bool.eq_false_iff.mpr c15
         subst c15
         rw [if_neg Bool.false_ne_true] at H
         obtain rfl := Option.some.inj H
         obtain ⟨hcz18_0, hcz18_1, hcz18_2, hcz18_3, hfz18_0, hfz18_1, hfz18_2, hfz18_3⟩ := cz4f BK223.out
         have p225 : 0 ≤ (x3_2 : Int) := dt
         have q225 : x3_2 < (l0_3.length : Int) := dt
         obtain ⟨ad225, A225_3, c225_3, e225, hx225_0, hx225_1, hx225_2, hx225_3, hl225_3, hi225_3⟩ := at_T33 HR0_3.out x3_2 p225 q225
         cases e225
         replace hx225_0 := hcB HB.out hx225_0
         replace hx225_1 := hcB HB.out hx225_1
         replace hx225_2 := hcB HB.out hx225_2
         replace hx225_3 := hcB HB.out hx225_3
         have HR225_3 := Aside0.mk hi225_3
         have HC225_3 := Aside0.mk hl225_3
         clear hi225_3 hl225_3
         replace p225 := eq_true p225
         replace q225 := eq_true q225
         go_wp2_with (first | (refine gF 47 24 Tryd.func47 #[.agg #[.int .i64 ((rd_T33 l0_3 x3_2).f0), .string ((rd_T33 l0_3 x3_2).f1), .int .i64 ((rd_T33 l0_3 x3_2).f2), .slice A225_3 ((rd_T33 l0_3 x3_2).f3).length c225_3]] rfl rfl ?_; (with_reducible refine (incunableref25_isNote.calls k2 ((rd_T33 l0_3 x3_2).f0) ((rd_T33 l0_3 x3_2).f1) ((rd_T33 l0_3 x3_2).f2) _ _ ((rd_T33 l0_3 x3_2).f3) false _ ?side1 ?side2 A14.out).mono ?_); (case side1 => exact cU (Kd.C_below HR225_3.out HB.out)); (case side2 => exact HC225_3.out); rintro e w19 ⟨rfl, hb⟩; refine ⟨_, rfl, ?_⟩; have n_ := aC (blk_below (bU BK223.out) hb) (aE (bs hb)); clear BK223 HB; obtain ⟨BK223, HB⟩ := n_))
         go_ret
         exact ⟨re, bl⟩
       ·rw [if_neg c13] at H
        exact absurd H (by simp)
      ·obtain rfl := Option.some.inj H
       obtain ⟨hcz20_0, hcz20_1, hcz20_2, hcz20_3, hfz20_0, hfz20_1, hfz20_2, hfz20_3⟩ := cz4f BK223.out
       go_wp2
       go_ret
       exact ⟨re, bl⟩
def incunableref25_Areas.l0 : Nat → List (S39) → Int → Int → ByteArray → Int → List (S33) → Option ((List (S39)) × Int)
 | 0, _, _, _, _, _, _ => none
 | k + 1, x4, x5, x228000, x228001, x228002, x228003 => if x5 < (x228003.length : Int) then (if 0 ≤ x5 then (if 3 < (((rd_T33 x228003 x5).f3).length : Int) then ((incunableref25_shape.f k ((rd_T33 ((rd_T33 x228003 x5).f3) 3).f0) ((rd_T33 ((rd_T33 x228003 x5).f3) 3).f1) ((rd_T33 ((rd_T33 x228003 x5).f3) 3).f2) ((rd_T33 ((rd_T33 x228003 x5).f3) 3).f3)).bind fun bt231 => (if x4.length < 4398046511104 then (incunableref25_Areas.l0 k (x4 ++ [(⟨bt231.1, bt231.2.1, bt231.2.2.1, bt231.2.2.2.1⟩ : S39)]) (wrap64 (x5 + 1)) x228000 x228001 x228002 x228003) else (none))) else (none)) else (none)) else (some (x4, 0))
def incunableref25_Areas.f (k : Nat) (a0_0 : Int) (a0_1 : ByteArray) (a0_2 : Int) (l0_3 : List (S33)) : Option ((List (S39)) × Int) := (incunableref25_IsNotes.f k a0_0 a0_1 a0_2 l0_3).bind fun t228 => (if t228 = true then (incunableref25_Areas.l0 k ([] : List (S39)) 0 a0_0 a0_1 a0_2 l0_3) else (some (([] : List (S39)), 95)))
theorem incunableref25_Areas.mono_l : ∀ k, (∀ y0 y1 y2 y3 y4 y5, LeO (incunableref25_Areas.l0 k y0 y1 y2 y3 y4 y5) (incunableref25_Areas.l0 (k + 1) y0 y1 y2 y3 y4 y5))
 | 0 => fun _ _ _ _ _ _ r h => by simp [incunableref25_Areas.l0] at h
 | k + 1 => by
  have ih0 := incunableref25_Areas.mono_l k
  ·intro y0 y1 y2 y3 y4 y5
   unfold incunableref25_Areas.l0
   repeat' first
   | (with_reducible exact ih0 _ _ _ _ _ _)
   | (with_reducible exact incunableref25_IsNotes.mono _ _ _ _ _)
   | (with_reducible exact incunableref25_shape.mono _ _ _ _ _)
   | (with_reducible first | exact LeO.refl _ | exact LeO.none _ | refine LeO.ite ?_ ?_ | refine LeO.bind ?_ (fun _ => ?_))
theorem incunableref25_Areas.mono : ∀ a0 a1 a2 a3 k, LeO (incunableref25_Areas.f k a0 a1 a2 a3) (incunableref25_Areas.f (k + 1) a0 a1 a2 a3) := by
 intro a0 a1 a2 a3 k
 have ih0 := incunableref25_Areas.mono_l k
 unfold incunableref25_Areas.f
 repeat' first
   | (with_reducible exact ih0 _ _ _ _ _ _)
   | (with_reducible exact incunableref25_IsNotes.mono _ _ _ _ _)
   | (with_reducible exact incunableref25_shape.mono _ _ _ _ _)
   | (with_reducible first | exact LeO.refl _ | exact LeO.none _ | refine LeO.ite ?_ ?_ | refine LeO.bind ?_ (fun _ => ?_))
set_option maxHeartbeats 8000000 in
set_option maxRecDepth 100000 in
theorem incunableref25_Areas.calls (k : Nat) (a0_0 : Int) (a0_1 : ByteArray) (a0_2 : Int) (A0_3 : Option Addr) (c0_3 : Nat) (l0_3 : List (S33)) (r1 : List (S39)) (r2 : Int) (w : World) (hr0_3 : Kd.C k33 w A0_3 l0_3.length l0_3) (hc0_3 : l0_3.length ≤ c0_3) (h : incunableref25_Areas.f k a0_0 a0_1 a0_2 l0_3 = some (r1, r2)) :
  Calls Tryd.prog 18 #[.agg #[.int .i64 a0_0, .string a0_1, .int .i64 a0_2, .slice A0_3 l0_3.length c0_3]] w fun e w' => ∃ v0_ : Value, e = .returned (.tuple #[v0_, .int .i64 r2]) ∧ Kd.R k39 39 w' w.heap.size (fun _ => True) v0_ r1 ∧ Below w.heap.size w w' := by
 have hu33 := Tryd.underlying33
 have hu39 := Tryd.underlying39
 have HR0_3 := Aside0.mk hr0_3
 have HC0_3 := Aside0.mk hc0_3
 clear hr0_3 hc0_3
 have HB := Aside0.mk (Below.refl w.heap.size w)
 have H := h
 unfold incunableref25_Areas.f at H
 clear h
 obtain ⟨t228, A2, H⟩ := oB H
 try dsimp only at H
 by_cases c3 : t228 = true
 ·subst c3
  rw [if_pos rfl] at H
  have H' := Aside0.mk H
  clear H
  go_enter Tryd.func18, Tryd.ntmps18
  go_wp2_with (first | ((with_reducible refine gd 1 rfl ?_); refine bx 1 #[.int .i64 a0_0, .string a0_1, .int .i64 a0_2, .slice A0_3 l0_3.length c0_3] 33 rfl rfl ?_; intro gb227 hg w4 hbox hb; have n_ := aC (bs hb) (aC hbox (aC (gz hg) (aE (gz hg)))); clear HB; obtain ⟨HB, BK227, GW227, GE227⟩ := n_; clear hb hbox hg; obtain ⟨hcz5_0, hcz5_1, hcz5_2, hcz5_3, hfz5_0, hfz5_1, hfz5_2, hfz5_3⟩ := cz4f BK227.out) | (refine gF 20 10 Tryd.func20 #[.agg #[.int .i64 a0_0, .string a0_1, .int .i64 a0_2, .slice A0_3 l0_3.length c0_3]] rfl rfl ?_; (with_reducible refine (incunableref25_IsNotes.calls k a0_0 a0_1 a0_2 _ _ l0_3 true _ ?side1 ?side2 A2.out).mono ?_); (case side1 => exact cU (Kd.C_below HR0_3.out HB.out)); (case side2 => exact HC0_3.out); rintro e w6 ⟨rfl, hb⟩; refine ⟨_, rfl, ?_⟩; have n_ := aC (blk_below (bU BK227.out) hb) (aE (bs hb)); clear BK227 HB; obtain ⟨BK227, HB⟩ := n_))
  go_loopg [4, 5] k (fun kq v4 v5 w' => ∃ (x4_1 : List (S39)) (x5_1 : Int), v5 = .int .i64 x5_1 ∧ Aside0 (incunableref25_Areas.l0 kq x4_1 x5_1 a0_0 a0_1 a0_2 l0_3 = some (r1, r2)) ∧ Aside0 (kq ≤ k) ∧ Aside0 (Kd.R k39 39 w' w.heap.size (fun _ => True) v4 x4_1) ∧ Aside0 (w'.heap[gb227]? = some (.cells #[.int .i64 a0_0, .string a0_1, .int .i64 a0_2, (.slice A0_3 l0_3.length c0_3)] 33 (0, 0))) ∧ Aside0 (Below w.heap.size w w'))
  case atStart => exact ⟨(([] : List (S39))), (0), rq, H', ⟨Nat.le_refl _⟩, ⟨by first | exact Kd.R_nil _ _ _ _ _ | exact Kd.N_nil _ _ _ _ _ | exact Kd.V_nil _ _ _ _ _ | exact Kd.Q_nil _ _ _ _ _ | exact Kd.S_nil _ _ _ _ _⟩, ⟨bU BK227.out⟩, ⟨bl⟩⟩
  case round =>
   clear H'
   obtain ⟨x4_1, x5_1, rfl, HA, HK1, HO_4, BK227, HB⟩ := hrel
   cases gk with
   | zero => exact absurd HA.out (by simp [incunableref25_Areas.l0])
   | succ k1 =>
    have H := HA.out
    clear HA
    simp only [incunableref25_Areas.l0] at H
    rcases iL H with H1 | H1 <;> clear H <;> obtain ⟨H, c7b0⟩ := H1
    ·by_cases c8 : 0 ≤ x5_1
     ·rw [if_pos c8] at H
      have c8b0 := decide_eq_true c8
      clear c8
      by_cases c9 : 3 < (((rd_T33 l0_3 x5_1).f3).length : Int)
      ·rw [if_pos c9] at H
       have c9b0 := decide_eq_true c9
       have c9b1 : decide (3 < ((rd_T33 l0_3 x5_1).f3).length) = true := decide_eq_true (by omega)
       clear c9
       obtain ⟨⟨t231, t232, t233, t234, t235, t236⟩, A10, H⟩ := oB H
       try dsimp only at H
       by_cases c11 : x4_1.length < 4398046511104
       ·rw [if_pos c11] at H
        have LMc11 := Aside0.mk c11
        clear c11
        obtain ⟨y238, hy_⟩ : ∃ y_ : List (S39), y_ = (x4_1 ++ [(⟨t231, t232, t233, t234⟩ : S39)]) := ⟨_, rfl⟩
        replace H : (incunableref25_Areas.l0 k1 y238 (wrap64 (x5_1 + 1)) a0_0 a0_1 a0_2 l0_3) = some (r1, r2) := rh
        have Ny238 := aE hy_
        clear hy_
        have H' := Aside0.mk H
        clear H
        obtain ⟨hcz12_0, hcz12_1, hcz12_2, hcz12_3, hfz12_0, hfz12_1, hfz12_2, hfz12_3⟩ := cz4f BK227.out
        have p229 : 0 ≤ (x5_1 : Int) := dt
        have q229 : x5_1 < (l0_3.length : Int) := dt
        obtain ⟨ad229, A229_3, c229_3, e229, hx229_0, hx229_1, hx229_2, hx229_3, hl229_3, hi229_3⟩ := at_T33 HR0_3.out x5_1 p229 q229
        cases e229
        replace hx229_0 := hcB HB.out hx229_0
        replace hx229_1 := hcB HB.out hx229_1
        replace hx229_2 := hcB HB.out hx229_2
        replace hx229_3 := hcB HB.out hx229_3
        have HR229_3 := Aside0.mk hi229_3
        have HC229_3 := Aside0.mk hl229_3
        clear hi229_3 hl229_3
        replace p229 := eq_true p229
        replace q229 := eq_true q229
        have p230 : 0 ≤ (3 : Int) := (by omega)
        have q230 : 3 < (((rd_T33 l0_3 x5_1).f3).length : Int) := dt
        obtain ⟨ad230, A230_3, c230_3, e230, hx230_0, hx230_1, hx230_2, hx230_3, hl230_3, hi230_3⟩ := at_T33 HR229_3.out 3 p230 q230
        cases e230
        (try simp only [show (3 : Int).toNat = 3 from rfl, Nat.reduceMul, Nat.reduceEqDiff, Go.Addr.add, ↓reduceIte] at hx230_0)
        (try simp only [show (3 : Int).toNat = 3 from rfl, Nat.reduceMul, Nat.reduceEqDiff, Go.Addr.add, ↓reduceIte] at hx230_1)
        (try simp only [show (3 : Int).toNat = 3 from rfl, Nat.reduceMul, Nat.reduceEqDiff, Go.Addr.add, ↓reduceIte] at hx230_2)
        (try simp only [show (3 : Int).toNat = 3 from rfl, Nat.reduceMul, Nat.reduceEqDiff, Go.Addr.add, ↓reduceIte] at hx230_3)
        have qi230 : (3 < ((rd_T33 l0_3 x5_1).f3).length) = True := eq_true (by omega)
        (try rw [show ((3 : Int)).toNat = 3 from rfl] at hx230_0)
        (try rw [show 3 * 4 = 12 from rfl] at hx230_0)
        (try rw [show ((3 : Int)).toNat = 3 from rfl] at hx230_1)
        (try rw [show 3 * 4 = 12 from rfl] at hx230_1)
        (try rw [show ((3 : Int)).toNat = 3 from rfl] at hx230_2)
        (try rw [show 3 * 4 = 12 from rfl] at hx230_2)
        (try rw [show ((3 : Int)).toNat = 3 from rfl] at hx230_3)
        (try rw [show 3 * 4 = 12 from rfl] at hx230_3)
        replace hx230_0 := hcB HB.out hx230_0
        replace hx230_1 := hcB HB.out hx230_1
        replace hx230_2 := hcB HB.out hx230_2
        replace hx230_3 := hcB HB.out hx230_3
        have HR230_3 := Aside0.mk hi230_3
        have HC230_3 := Aside0.mk hl230_3
        clear hi230_3 hl230_3
        replace p230 := eq_true p230
        replace q230 := eq_true q230
        go_wp2_with (first | (refine gF 43 28 Tryd.func43 #[.agg #[.int .i64 ((rd_T33 ((rd_T33 l0_3 x5_1).f3) 3).f0), .string ((rd_T33 ((rd_T33 l0_3 x5_1).f3) 3).f1), .int .i64 ((rd_T33 ((rd_T33 l0_3 x5_1).f3) 3).f2), .slice A230_3 ((rd_T33 ((rd_T33 l0_3 x5_1).f3) 3).f3).length c230_3]] rfl rfl ?_; (with_reducible refine (incunableref25_shape.calls k1 ((rd_T33 ((rd_T33 l0_3 x5_1).f3) 3).f0) ((rd_T33 ((rd_T33 l0_3 x5_1).f3) 3).f1) ((rd_T33 ((rd_T33 l0_3 x5_1).f3) 3).f2) _ _ ((rd_T33 ((rd_T33 l0_3 x5_1).f3) 3).f3) t231 t232 t233 t234 t235 t236 _ ?side1 ?side2 A10.out).mono ?_); (case side1 => exact cU (Kd.C_below HR230_3.out HB.out)); (case side2 => exact HC230_3.out); rintro e w13 ⟨rfl, hb⟩; refine ⟨_, rfl, ?_⟩; have n_ := aC (Kd.R_below (rU HO_4.out) hb) (aC (blk_below (bU BK227.out) hb) (aE (bs hb))); clear HO_4 BK227 HB; obtain ⟨HO_4, BK227, HB⟩ := n_) | ((with_reducible refine gd 6 rfl ?_); refine bx 6 #[.int .i64 0, .int .i64 0, .int .i64 0, .int .i64 0] 39 rfl rfl ?_; intro gb237 hg w14 hbox hb; have n_ := aC (Kd.R_below (Kd.R_elderB (rU HO_4.out) gb237 (Nat.le_of_eq hg.symm)) hb) (aC (blk_below (bU BK227.out) hb) (aC (bs hb) (aC hbox (aC (gz hg) (aC (gz hg) (aC (gn hg (bU BK227.out)) (aE (gm hg (bU BK227.out))))))))); clear HO_4 BK227 HB; obtain ⟨HO_4, BK227, HB, BK237, GW237, GE237, NB227_237, NB237_227⟩ := n_; clear hb hbox hg; have hnb15 := NB237_227.out; have hnc15 := NB227_237.out; obtain ⟨hcz16_0, hcz16_1, hcz16_2, hcz16_3, hfz16_0, hfz16_1, hfz16_2, hfz16_3⟩ := cz4f BK237.out) | ((with_reducible refine gate_builtin (b := .append) (xs := #[.tmp 32, .tmp 34]) rfl ?_); at_builtin; refine Kd.R_append k39 (w0 := w) w.heap.size rfl (.tmp 32) (.tmp 34) 35 39 (.agg #[(.int .i64 0), (.int .i64 0), (.int .i64 0), (.int .i64 0)]) 32 rfl Tryd.underlying35 info39 rfl (by decide) (by omega) u4 x4_1 (⟨t231, t232, t233, t234⟩ : S39) [.int .i64 t231, .int .i64 t232, .int .i64 t233, .int .i64 t234] (fun k_ => k_ ≠ gb237) (fun _ => False) rfl (by first | (go_simp; done) | (go_simp; rfl)) ?aP (fun _ hk => hk.elim) ?aF ?aO ?aB ?aS ?aL ?_; (case aP => exact k39_mkM _ _ _ (⟨t231, t232, t233, t234⟩ : S39)); (case aB => exact bl); (case aF => exact (fun k_ hk => Kd.freshB (g := gb237) (o := .cells #[.int .i64 t231, .int .i64 t232, .int .i64 t233, .int .i64 t234] 39 (0, 0)) (by (with_reducible repeat (first | refine blk_drewN ?_ _ | refine blk_drew ?_ | refine blk_alloc ?_ _)); refine blk_put (cs := #[.int .i64 t231, .int .i64 t232, .int .i64 t233, .int .i64 0]) ?_ 3 _ rfl; (with_reducible repeat (first | refine blk_drewN ?_ _ | refine blk_drew ?_ | refine blk_alloc ?_ _)); refine blk_put (cs := #[.int .i64 t231, .int .i64 t232, .int .i64 0, .int .i64 0]) ?_ 2 _ rfl; (with_reducible repeat (first | refine blk_drewN ?_ _ | refine blk_drew ?_ | refine blk_alloc ?_ _)); refine blk_put (cs := #[.int .i64 t231, .int .i64 0, .int .i64 0, .int .i64 0]) ?_ 1 _ rfl; (with_reducible repeat (first | refine blk_drewN ?_ _ | refine blk_drew ?_ | refine blk_alloc ?_ _)); refine blk_put (cs := #[.int .i64 0, .int .i64 0, .int .i64 0, .int .i64 0]) ?_ 0 _ rfl; (with_reducible repeat (first | refine blk_drewN ?_ _ | refine blk_drew ?_ | refine blk_alloc ?_ _)); exact BK237.out) k_ hk)); (case aO => exact (rU (Kd.R_mono (Kd.R_far (p := ⟨gb237, 3, none⟩) (Kd.R_far (p := ⟨gb237, 2, none⟩) (Kd.R_far (p := ⟨gb237, 1, none⟩) (Kd.R_far (p := ⟨gb237, 0, none⟩) (Kd.R_mono HO_4.out (fun k_ hk => (⟨hk, hk.2⟩ : _ ∧ k_ ≠ gb237))) (fun _ hk => hk.2) (.int .i64 t231)) (fun _ hk => hk.2) (.int .i64 t232)) (fun _ hk => hk.2) (.int .i64 t233)) (fun _ hk => hk.2) (.int .i64 t234)) (fun _ hk => hk.1.2)))); (case aS => exact bz); (case aL => have := LMc11.out; omega); intro v239 w17 ho hb hg hat; rw [← Ny238.out] at ho; have n_ := aC (blk_grown (g := gb227) (o := .cells #[.int .i64 a0_0, .string a0_1, .int .i64 a0_2, .slice (some ad229) l0_3.length c0_3] 33 (0, 0)) (by (with_reducible repeat (first | refine blk_drewN ?_ _ | refine blk_drew ?_ | refine blk_alloc ?_ _)); refine blk_far ?_ NB227_237.out _; (with_reducible repeat (first | refine blk_drewN ?_ _ | refine blk_drew ?_ | refine blk_alloc ?_ _)); refine blk_far ?_ NB227_237.out _; (with_reducible repeat (first | refine blk_drewN ?_ _ | refine blk_drew ?_ | refine blk_alloc ?_ _)); refine blk_far ?_ NB227_237.out _; (with_reducible repeat (first | refine blk_drewN ?_ _ | refine blk_drew ?_ | refine blk_alloc ?_ _)); refine blk_far ?_ NB227_237.out _; (with_reducible repeat (first | refine blk_drewN ?_ _ | refine blk_drew ?_ | refine blk_alloc ?_ _)); exact BK227.out) hg (Kd.R_ne HO_4.out BK227.out (by decide))) (aC (blk_grown (g := gb237) (o := .cells #[.int .i64 t231, .int .i64 t232, .int .i64 t233, .int .i64 t234] 39 (0, 0)) (by (with_reducible repeat (first | refine blk_drewN ?_ _ | refine blk_drew ?_ | refine blk_alloc ?_ _)); refine blk_put (cs := #[.int .i64 t231, .int .i64 t232, .int .i64 t233, .int .i64 0]) ?_ 3 _ rfl; (with_reducible repeat (first | refine blk_drewN ?_ _ | refine blk_drew ?_ | refine blk_alloc ?_ _)); refine blk_put (cs := #[.int .i64 t231, .int .i64 t232, .int .i64 0, .int .i64 0]) ?_ 2 _ rfl; (with_reducible repeat (first | refine blk_drewN ?_ _ | refine blk_drew ?_ | refine blk_alloc ?_ _)); refine blk_put (cs := #[.int .i64 t231, .int .i64 0, .int .i64 0, .int .i64 0]) ?_ 1 _ rfl; (with_reducible repeat (first | refine blk_drewN ?_ _ | refine blk_drew ?_ | refine blk_alloc ?_ _)); refine blk_put (cs := #[.int .i64 0, .int .i64 0, .int .i64 0, .int .i64 0]) ?_ 0 _ rfl; (with_reducible repeat (first | refine blk_drewN ?_ _ | refine blk_drew ?_ | refine blk_alloc ?_ _)); exact BK237.out) hg (Kd.R_away HO_4.out (fun _ hk => hk.2))) (aC hb (aE ho))); clear BK227 BK237 HB HO_4; obtain ⟨BK227, BK237, HB, HO240⟩ := n_; clear ho hb hg hat))
        go_roundg k1
        case measure => have := HK1.out; omega
        case rel => exact ⟨(y238), (wrap64 (x5_1 + 1)), rq, H', ⟨by have := HK1.out; omega⟩, ⟨rU (Kd.R_mono HO240.out (fun _ hk => trivial))⟩, ⟨bU BK227.out⟩, ⟨bl⟩⟩
       ·rw [if_neg c11] at H
        exact absurd H (by simp)
      ·rw [if_neg c9] at H
       exact absurd H (by simp)
     ·rw [if_neg c8] at H
      exact absurd H (by simp)
    ·simp only [Option.some.injEq, Prod.mk.injEq] at H
     obtain ⟨rfl, rfl⟩ := H
     obtain ⟨hcz18_0, hcz18_1, hcz18_2, hcz18_3, hfz18_0, hfz18_1, hfz18_2, hfz18_3⟩ := cz4f BK227.out
     go_wp2
     go_ret2
     exact ⟨_, re, rU HO_4.out, bl⟩
 ·replace c3 := Bool.eq_false_iff.mpr c3
  subst c3
  rw [if_neg Bool.false_ne_true] at H
  simp only [Option.some.injEq, Prod.mk.injEq] at H
  obtain ⟨rfl, rfl⟩ := H
  go_enter Tryd.func18, Tryd.ntmps18
  go_wp2_with (first | ((with_reducible refine gd 1 rfl ?_); refine bx 1 #[.int .i64 a0_0, .string a0_1, .int .i64 a0_2, .slice A0_3 l0_3.length c0_3] 33 rfl rfl ?_; intro gb227 hg w19 hbox hb; have n_ := aC (bs hb) (aC hbox (aC (gz hg) (aE (gz hg)))); clear HB; obtain ⟨HB, BK227, GW227, GE227⟩ := n_; clear hb hbox hg; obtain ⟨hcz20_0, hcz20_1, hcz20_2, hcz20_3, hfz20_0, hfz20_1, hfz20_2, hfz20_3⟩ := cz4f BK227.out) | (refine gF 20 10 Tryd.func20 #[.agg #[.int .i64 a0_0, .string a0_1, .int .i64 a0_2, .slice A0_3 l0_3.length c0_3]] rfl rfl ?_; (with_reducible refine (incunableref25_IsNotes.calls k a0_0 a0_1 a0_2 _ _ l0_3 false _ ?side1 ?side2 A2.out).mono ?_); (case side1 => exact cU (Kd.C_below HR0_3.out HB.out)); (case side2 => exact HC0_3.out); rintro e w21 ⟨rfl, hb⟩; refine ⟨_, rfl, ?_⟩; have n_ := aC (blk_below (bU BK227.out) hb) (aE (bs hb)); clear BK227 HB; obtain ⟨BK227, HB⟩ := n_))
  go_ret2
  exact ⟨_, re, by first | exact Kd.R_nil _ _ _ _ _ | exact Kd.N_nil _ _ _ _ _ | exact Kd.V_nil _ _ _ _ _ | exact Kd.Q_nil _ _ _ _ _ | exact Kd.S_nil _ _ _ _ _, bl⟩
end Go.Proofs.YtacdchogjpeffaaDoor.PNoteAreas
