-- printed (wip/tools/myprint.py)
import Derived.Test.YtacdchogjpeffaaDoorPNoteFormatsx0
import Derived.Test.YtacdchogjpeffaaDoorPNoteFormatsx3
namespace Go.Proofs.YtacdchogjpeffaaDoor.PNoteFormats
open Go.RowKit Go.Proofs.YtacdchogjpeffaaDoorW.PrintWords Go.Proofs.YtacdchogjpeffaaDoorW.PrintLast Go.Proofs.YtacdchogjpeffaaDoorW.PrintMore
attribute [local go_sem] max2_int min2_int max_two min_two max_three min_three max_four min_four
set_option linter.unusedVariables false
set_option linter.unusedSimpArgs false
mutual
def incunableref25_right.j0 : Nat → Bool → Int → ByteArray → Int → List (S33) → Option (Bool)
 | 0, _, _, _, _, _ => none
 | k + 1, x37, x126000, x126001, x126002, x126003 => if x37 = true then (some false) else (if x126000 = 0 then (incunableref25_right.l0 k 0 x126000 x126001 x126002 x126003) else (if x126000 = 1 then ((incunableref25_isName.f k x126001).bind fun t128 => (some t128)) else (if x126000 = 2 then (if x126002 ≥ (-999999) then (some (decide (x126002 ≤ 999999))) else (some false)) else (if x126000 = 3 then (some (decide ((x126001.size : Int) ≤ 200))) else (some false)))))
def incunableref25_right.l0 : Nat → Int → Int → ByteArray → Int → List (S33) → Option (Bool)
 | 0, _, _, _, _, _ => none
 | k + 1, x3, x126000, x126001, x126002, x126003 => if x3 < (x126003.length : Int) then (if 0 ≤ x3 then ((incunableref25_right.f k ((rd_T33 x126003 x3).f0) ((rd_T33 x126003 x3).f1) ((rd_T33 x126003 x3).f2) ((rd_T33 x126003 x3).f3)).bind fun t127 => (if t127 = true then (incunableref25_right.l0 k (wrap64 (x3 + 1)) x126000 x126001 x126002 x126003) else (some false))) else (none)) else (some true)
def incunableref25_right.f : Nat → Int → ByteArray → Int → List (S33) → Option (Bool)
 | 0, _, _, _, _ => none
 | k + 1, a0_0, a0_1, a0_2, l0_3 => if a0_0 = 0 then (if a0_0 = 2 then (incunableref25_right.j0 k (a0_1.toList != ([] : List UInt8)) a0_0 a0_1 a0_2 l0_3) else (if a0_2 = 0 then (incunableref25_right.j0 k (a0_1.toList != ([] : List UInt8)) a0_0 a0_1 a0_2 l0_3) else (incunableref25_right.j0 k true a0_0 a0_1 a0_2 l0_3))) else (if (l0_3.length : Int) > 0 then (incunableref25_right.j0 k true a0_0 a0_1 a0_2 l0_3) else (if a0_0 = 2 then (incunableref25_right.j0 k (a0_1.toList != ([] : List UInt8)) a0_0 a0_1 a0_2 l0_3) else (if a0_2 = 0 then (incunableref25_right.j0 k false a0_0 a0_1 a0_2 l0_3) else (incunableref25_right.j0 k true a0_0 a0_1 a0_2 l0_3))))
end
theorem incunableref25_right.mono_l : ∀ k, (∀ y0 y1 y2 y3, LeO (incunableref25_right.f k y0 y1 y2 y3) (incunableref25_right.f (k + 1) y0 y1 y2 y3)) ∧ (∀ y0 y1 y2 y3 y4, LeO (incunableref25_right.j0 k y0 y1 y2 y3 y4) (incunableref25_right.j0 (k + 1) y0 y1 y2 y3 y4)) ∧ (∀ y0 y1 y2 y3 y4, LeO (incunableref25_right.l0 k y0 y1 y2 y3 y4) (incunableref25_right.l0 (k + 1) y0 y1 y2 y3 y4))
 | 0 => ⟨fun _ _ _ _ r h => by simp [incunableref25_right.f] at h, fun _ _ _ _ _ r h => by simp [incunableref25_right.j0] at h, fun _ _ _ _ _ r h => by simp [incunableref25_right.l0] at h⟩
 | k + 1 => by
  obtain ⟨ih0, ih1, ih2⟩ := incunableref25_right.mono_l k
  refine ⟨?_, ?_, ?_⟩
  ·intro y0 y1 y2 y3
   unfold incunableref25_right.f
   repeat' first
   | (with_reducible exact ih0 _ _ _ _)
   | (with_reducible exact ih1 _ _ _ _ _)
   | (with_reducible exact ih2 _ _ _ _ _)
   | (with_reducible exact incunableref25_isName.mono _ _)
   | (with_reducible first | exact LeO.refl _ | exact LeO.none _ | refine LeO.ite ?_ ?_ | refine LeO.bind ?_ (fun _ => ?_))
  ·intro y0 y1 y2 y3 y4
   unfold incunableref25_right.j0
   repeat' first
   | (with_reducible exact ih0 _ _ _ _)
   | (with_reducible exact ih1 _ _ _ _ _)
   | (with_reducible exact ih2 _ _ _ _ _)
   | (with_reducible exact incunableref25_isName.mono _ _)
   | (with_reducible first | exact LeO.refl _ | exact LeO.none _ | refine LeO.ite ?_ ?_ | refine LeO.bind ?_ (fun _ => ?_))
  ·intro y0 y1 y2 y3 y4
   unfold incunableref25_right.l0
   repeat' first
   | (with_reducible exact ih0 _ _ _ _)
   | (with_reducible exact ih1 _ _ _ _ _)
   | (with_reducible exact ih2 _ _ _ _ _)
   | (with_reducible exact incunableref25_isName.mono _ _)
   | (with_reducible first | exact LeO.refl _ | exact LeO.none _ | refine LeO.ite ?_ ?_ | refine LeO.bind ?_ (fun _ => ?_))
theorem incunableref25_right.mono : ∀ a0 a1 a2 a3 k, LeO (incunableref25_right.f k a0 a1 a2 a3) (incunableref25_right.f (k + 1) a0 a1 a2 a3) := by
 intro a0 a1 a2 a3 k
 obtain ⟨ih0, ih1, ih2⟩ := incunableref25_right.mono_l k
 exact ih0 a0 a1 a2 a3
set_option maxHeartbeats 8000000 in
set_option maxRecDepth 100000 in
theorem incunableref25_right.calls (k : Nat) : ∀ (a0_0 : Int) (a0_1 : ByteArray) (a0_2 : Int) (A0_3 : Option Addr) (c0_3 : Nat) (l0_3 : List (S33)) (r : Bool) (w : World) (hr0_3 : Kd.C k33 w A0_3 l0_3.length l0_3) (hc0_3 : l0_3.length ≤ c0_3) (h : incunableref25_right.f k a0_0 a0_1 a0_2 l0_3 = some r),
  Calls Tryd.prog 60 #[.agg #[.int .i64 a0_0, .string a0_1, .int .i64 a0_2, .slice A0_3 l0_3.length c0_3]] w fun e w' => e = .returned (.bool r) ∧ Below w.heap.size w w' := by
 induction k using Nat.strongRecOn with
 | _ k ih =>
 intro a0_0 a0_1 a0_2 A0_3 c0_3 l0_3 r w hr0_3 hc0_3 h
 cases k with
 | zero => exact absurd h (by simp [incunableref25_right.f])
 | succ k =>
 simp only [incunableref25_right.f] at h
 have hu33 := Tryd.underlying33
 have HR0_3 := Aside0.mk hr0_3
 have HC0_3 := Aside0.mk hc0_3
 clear hr0_3 hc0_3
 have HB := Aside0.mk (Below.refl w.heap.size w)
 have H := h
 unfold incunableref25_right.f at H
 clear h
 have HC2 := Aside0.mk H
 clear H
 go_enter Tryd.func60, Tryd.ntmps60
 go_upto_region 1 with (first | ((with_reducible refine gd 1 rfl ?_); (try (refine gate_guard (by rfl) ?_; dsimp only)); refine bx 1 #[.int .i64 a0_0, .string a0_1, .int .i64 a0_2, .slice A0_3 l0_3.length c0_3] 33 rfl rfl ?_; intro gb125 hg w3 hbox hb; have n_ := aC (bs hb) (aC hbox (aC (gz hg) (aE (gz hg)))); clear HB; obtain ⟨HB, BK125, GW125, GE125⟩ := n_; clear hb hbox hg))
 (try simp only [Act.put, List.setIfInBounds_toArray, List.set_cons_zero, List.set_cons_succ])
 go_cut [37] (fun v37 wc => ∃ (kq : Nat) (x37_1 : Bool), v37 = .bool x37_1 ∧ Aside0 (incunableref25_right.j0 kq x37_1 a0_0 a0_1 a0_2 l0_3 = some r) ∧ Aside0 (kq ≤ k) ∧ Aside0 (wc.heap[gb125]? = some (.cells #[.int .i64 a0_0, .string a0_1, .int .i64 a0_2, (.slice A0_3 l0_3.length c0_3)] 33 (0, 0))) ∧ Aside0 (Below w.heap.size w wc))
 case first =>
  have H := HC2.out
  clear HC2
  rcases iE H with H1 | H1 <;> clear H <;> obtain ⟨H, c4b0, c4b1, c4⟩ := H1
  ·(first | rw [c4b0] | (simp only [i64_w, i32_w]; rw [c4b0]) | skip)
   rcases iE H with H1 | H1 <;> clear H <;> obtain ⟨H, c5b0, c5b1, c5⟩ := H1
   ·have H' := Aside0.mk H
    clear H
    obtain ⟨hcz6_0, hcz6_1, hcz6_2, hcz6_3, hfz6_0, hfz6_1, hfz6_2, hfz6_3⟩ := cz4f BK125.out
    go_wp2
    go_meet
    case rel => exact ⟨_, ((a0_1.toList != ([] : List UInt8))), rq, H', ⟨by first | omega | exact Nat.le_refl _⟩, ⟨bU BK125.out⟩, ⟨bl⟩⟩
   ·rcases iE H with H1 | H1 <;> clear H <;> obtain ⟨H, c7b0, c7b1, c7⟩ := H1
    ·have H' := Aside0.mk H
     clear H
     obtain ⟨hcz8_0, hcz8_1, hcz8_2, hcz8_3, hfz8_0, hfz8_1, hfz8_2, hfz8_3⟩ := cz4f BK125.out
     go_wp2
     go_meet
     case rel => exact ⟨_, ((a0_1.toList != ([] : List UInt8))), rq, H', ⟨by first | omega | exact Nat.le_refl _⟩, ⟨bU BK125.out⟩, ⟨bl⟩⟩
    ·have H' := Aside0.mk H
     clear H
     obtain ⟨hcz9_0, hcz9_1, hcz9_2, hcz9_3, hfz9_0, hfz9_1, hfz9_2, hfz9_3⟩ := cz4f BK125.out
     go_wp2
     go_meet
     case rel => exact ⟨_, (true), rq, H', ⟨by first | omega | exact Nat.le_refl _⟩, ⟨bU BK125.out⟩, ⟨bl⟩⟩
  ·(first | rw [c4b0] | (simp only [i64_w, i32_w]; rw [c4b0]) | skip)
   by_cases c10 : (l0_3.length : Int) > 0
   ·rw [if_pos c10] at H
    have c10b0 := decide_eq_true c10
    have c10b1 : decide (0 < l0_3.length) = true := decide_eq_true (by omega)
    clear c10
    have H' := Aside0.mk H
    clear H
    obtain ⟨hcz11_0, hcz11_1, hcz11_2, hcz11_3, hfz11_0, hfz11_1, hfz11_2, hfz11_3⟩ := cz4f BK125.out
    go_wp2
    go_meet
    case rel => exact ⟨_, (true), rq, H', ⟨by first | omega | exact Nat.le_refl _⟩, ⟨bU BK125.out⟩, ⟨bl⟩⟩
   ·rw [if_neg c10] at H
    have c10b0 := decide_eq_false c10
    have c10b1 : decide (0 < l0_3.length) = false := decide_eq_false (by omega)
    clear c10
    rcases iE H with H1 | H1 <;> clear H <;> obtain ⟨H, c12b0, c12b1, c12⟩ := H1
    ·have H' := Aside0.mk H
     clear H
     obtain ⟨hcz13_0, hcz13_1, hcz13_2, hcz13_3, hfz13_0, hfz13_1, hfz13_2, hfz13_3⟩ := cz4f BK125.out
     go_wp2
     go_meet
     case rel => exact ⟨_, ((a0_1.toList != ([] : List UInt8))), rq, H', ⟨by first | omega | exact Nat.le_refl _⟩, ⟨bU BK125.out⟩, ⟨bl⟩⟩
    ·rcases iE H with H1 | H1 <;> clear H <;> obtain ⟨H, c14b0, c14b1, c14⟩ := H1
     ·have H' := Aside0.mk H
      clear H
      obtain ⟨hcz15_0, hcz15_1, hcz15_2, hcz15_3, hfz15_0, hfz15_1, hfz15_2, hfz15_3⟩ := cz4f BK125.out
      go_wp2
      go_meet
      case rel => exact ⟨_, (false), rq, H', ⟨by first | omega | exact Nat.le_refl _⟩, ⟨bU BK125.out⟩, ⟨bl⟩⟩
     ·have H' := Aside0.mk H
      clear H
      obtain ⟨hcz16_0, hcz16_1, hcz16_2, hcz16_3, hfz16_0, hfz16_1, hfz16_2, hfz16_3⟩ := cz4f BK125.out
      go_wp2
      go_meet
      case rel => exact ⟨_, (true), rq, H', ⟨by first | omega | exact Nat.le_refl _⟩, ⟨bU BK125.out⟩, ⟨bl⟩⟩
 case rest =>
  clear HC2
  obtain ⟨kq, x37_1, rfl, HA, HJ1, BK125, HB⟩ := hcut
  cases kq with
  | zero => exact absurd HA.out (by simp [incunableref25_right.j0])
  | succ kj1 =>
   have H := HA.out
   clear HA
   simp only [incunableref25_right.j0] at H
   by_cases c17 : x37_1 = true
   ·subst c17
    rw [if_pos rfl] at H
    obtain rfl := Option.some.inj H
    go_wp2
    go_ret
    exact ⟨re, bl⟩
   ·replace c17 := Bool.eq_false_iff.mpr c17
    subst c17
    rw [if_neg Bool.false_ne_true] at H
    rcases iE H with H1 | H1 <;> clear H <;> obtain ⟨H, c18b0, c18b1, c18⟩ := H1
    ·have H' := Aside0.mk H
     clear H
     obtain ⟨hcz19_0, hcz19_1, hcz19_2, hcz19_3, hfz19_0, hfz19_1, hfz19_2, hfz19_3⟩ := cz4f BK125.out
     go_wp2
     go_loopg [3] kj1 (fun kq v3 w' => ∃ (x3_2 : Int), v3 = .int .i64 x3_2 ∧ Aside0 (incunableref25_right.l0 kq x3_2 a0_0 a0_1 a0_2 l0_3 = some r) ∧ Aside0 (kq ≤ kj1) ∧ Aside0 (w'.heap[gb125]? = some (.cells #[.int .i64 a0_0, .string a0_1, .int .i64 a0_2, (.slice A0_3 l0_3.length c0_3)] 33 (0, 0))) ∧ Aside0 (Below w.heap.size w w'))
     case atStart => exact ⟨(0), rq, H', ⟨Nat.le_refl _⟩, ⟨bU BK125.out⟩, ⟨bl⟩⟩
     case round =>
      clear H'
      obtain ⟨x3_2, rfl, HA, HK2, BK125, HB⟩ := hrel
      cases gk with
      | zero => exact absurd HA.out (by simp [incunableref25_right.l0])
      | succ k2 =>
       have H := HA.out
       clear HA
       simp only [incunableref25_right.l0] at H
       rcases iL H with H1 | H1 <;> clear H <;> obtain ⟨H, c20b0⟩ := H1
       ·by_cases c21 : 0 ≤ x3_2
        ·rw [if_pos c21] at H
         have c21b0 := decide_eq_true c21
         clear c21
         obtain ⟨t127, A22, H⟩ := oB H
         try dsimp only at H
         by_cases c23 : t127 = true
         ·subst c23
          rw [if_pos rfl] at H
          have H' := Aside0.mk H
          clear H
          obtain ⟨hcz24_0, hcz24_1, hcz24_2, hcz24_3, hfz24_0, hfz24_1, hfz24_2, hfz24_3⟩ := cz4f BK125.out
          have p126 : 0 ≤ (x3_2 : Int) := dt
          have q126 : x3_2 < (l0_3.length : Int) := dt
          obtain ⟨ad126, A126_3, c126_3, e126, hx126_0, hx126_1, hx126_2, hx126_3, hl126_3, hi126_3⟩ := at_T33 HR0_3.out x3_2 p126 q126
          cases e126
          replace hx126_0 := hcB HB.out hx126_0
          replace hx126_1 := hcB HB.out hx126_1
          replace hx126_2 := hcB HB.out hx126_2
          replace hx126_3 := hcB HB.out hx126_3
          have HR126_3 := Aside0.mk hi126_3
          have HC126_3 := Aside0.mk hl126_3
          clear hi126_3 hl126_3
          replace p126 := eq_true p126
          replace q126 := eq_true q126
          go_wp2_with (first | (refine gF 60 54 Tryd.func60 #[.agg #[.int .i64 ((rd_T33 l0_3 x3_2).f0), .string ((rd_T33 l0_3 x3_2).f1), .int .i64 ((rd_T33 l0_3 x3_2).f2), .slice A126_3 ((rd_T33 l0_3 x3_2).f3).length c126_3]] rfl rfl ?_; (with_reducible refine (ih k2 (by have := HJ1.out; have := HK2.out; omega) ((rd_T33 l0_3 x3_2).f0) ((rd_T33 l0_3 x3_2).f1) ((rd_T33 l0_3 x3_2).f2) _ _ ((rd_T33 l0_3 x3_2).f3) true _ ?side1 ?side2 A22.out).mono ?_); (case side1 => exact cU (Kd.C_below HR126_3.out HB.out)); (case side2 => exact HC126_3.out); rintro e w25 ⟨rfl, hb⟩; refine ⟨_, rfl, ?_⟩; have n_ := aC (blk_below (bU BK125.out) hb) (aE (bs hb)); clear BK125 HB; obtain ⟨BK125, HB⟩ := n_))
          go_roundg k2
          case measure => have := HJ1.out; have := HK2.out; omega
          case rel => exact ⟨(wrap64 (x3_2 + 1)), rq, H', ⟨by have := HJ1.out; have := HK2.out; omega⟩, ⟨bU BK125.out⟩, ⟨bl⟩⟩
         ·replace c23 := Bool.eq_false_iff.mpr c23
          subst c23
          rw [if_neg Bool.false_ne_true] at H
          obtain rfl := Option.some.inj H
          obtain ⟨hcz26_0, hcz26_1, hcz26_2, hcz26_3, hfz26_0, hfz26_1, hfz26_2, hfz26_3⟩ := cz4f BK125.out
          have p126 : 0 ≤ (x3_2 : Int) := dt
          have q126 : x3_2 < (l0_3.length : Int) := dt
          obtain ⟨ad126, A126_3, c126_3, e126, hx126_0, hx126_1, hx126_2, hx126_3, hl126_3, hi126_3⟩ := at_T33 HR0_3.out x3_2 p126 q126
          cases e126
          replace hx126_0 := hcB HB.out hx126_0
          replace hx126_1 := hcB HB.out hx126_1
          replace hx126_2 := hcB HB.out hx126_2
          replace hx126_3 := hcB HB.out hx126_3
          have HR126_3 := Aside0.mk hi126_3
          have HC126_3 := Aside0.mk hl126_3
          clear hi126_3 hl126_3
          replace p126 := eq_true p126
          replace q126 := eq_true q126
          go_wp2_with (first | (refine gF 60 54 Tryd.func60 #[.agg #[.int .i64 ((rd_T33 l0_3 x3_2).f0), .string ((rd_T33 l0_3 x3_2).f1), .int .i64 ((rd_T33 l0_3 x3_2).f2), .slice A126_3 ((rd_T33 l0_3 x3_2).f3).length c126_3]] rfl rfl ?_; (with_reducible refine (ih k2 (by have := HJ1.out; have := HK2.out; omega) ((rd_T33 l0_3 x3_2).f0) ((rd_T33 l0_3 x3_2).f1) ((rd_T33 l0_3 x3_2).f2) _ _ ((rd_T33 l0_3 x3_2).f3) false _ ?side1 ?side2 A22.out).mono ?_); (case side1 => exact cU (Kd.C_below HR126_3.out HB.out)); (case side2 => exact HC126_3.out); rintro e w27 ⟨rfl, hb⟩; refine ⟨_, rfl, ?_⟩; have n_ := aC (blk_below (bU BK125.out) hb) (aE (bs hb)); clear BK125 HB; obtain ⟨BK125, HB⟩ := n_))
          go_ret
          exact ⟨re, bl⟩
        ·rw [if_neg c21] at H
         exact absurd H (by simp)
       ·obtain rfl := Option.some.inj H
        obtain ⟨hcz28_0, hcz28_1, hcz28_2, hcz28_3, hfz28_0, hfz28_1, hfz28_2, hfz28_3⟩ := cz4f BK125.out
        go_wp2
        go_ret
        exact ⟨re, bl⟩
    ·rcases iE H with H1 | H1 <;> clear H <;> obtain ⟨H, c29b0, c29b1, c29⟩ := H1
     ·obtain ⟨t128, A30, H⟩ := oB H
      try dsimp only at H
      obtain rfl := Option.some.inj H
      obtain ⟨hcz31_0, hcz31_1, hcz31_2, hcz31_3, hfz31_0, hfz31_1, hfz31_2, hfz31_3⟩ := cz4f BK125.out
      go_wp2_with (first | (refine gF 81 60 Tryd.func81 #[.string a0_1] rfl rfl ?_; (with_reducible refine (incunableref25_isName.calls kj1 a0_1 t128 _ A30.out).mono ?_); rintro e w' ⟨rfl, ⟨nd, rfl⟩⟩; refine ⟨_, rfl, ?_⟩))
      go_ret
      exact ⟨re, bl⟩
     ·rcases iE H with H1 | H1 <;> clear H <;> obtain ⟨H, c32b0, c32b1, c32⟩ := H1
      ·rcases iL H with H1 | H1 <;> clear H <;> obtain ⟨H, c33b0⟩ := H1
       ·obtain rfl := Option.some.inj H
        obtain ⟨hcz34_0, hcz34_1, hcz34_2, hcz34_3, hfz34_0, hfz34_1, hfz34_2, hfz34_3⟩ := cz4f BK125.out
        go_wp2
        go_ret
        exact ⟨re, bl⟩
       ·obtain rfl := Option.some.inj H
        obtain ⟨hcz35_0, hcz35_1, hcz35_2, hcz35_3, hfz35_0, hfz35_1, hfz35_2, hfz35_3⟩ := cz4f BK125.out
        go_wp2
        go_ret
        exact ⟨re, bl⟩
      ·rcases iE H with H1 | H1 <;> clear H <;> obtain ⟨H, c36b0, c36b1, c36⟩ := H1
       ·obtain rfl := Option.some.inj H
        obtain ⟨hcz37_0, hcz37_1, hcz37_2, hcz37_3, hfz37_0, hfz37_1, hfz37_2, hfz37_3⟩ := cz4f BK125.out
        go_wp2
        go_ret
        exact ⟨re, bl⟩
       ·obtain rfl := Option.some.inj H
        obtain ⟨hcz38_0, hcz38_1, hcz38_2, hcz38_3, hfz38_0, hfz38_1, hfz38_2, hfz38_3⟩ := cz4f BK125.out
        go_wp2
        go_ret
        exact ⟨re, bl⟩
mutual
def incunableref25_measure.l0 : Nat → Int → Int → Int → Int → ByteArray → Int → List (S33) → Option (Int × Int)
 | 0, _, _, _, _, _, _, _ => none
 | k + 1, x4, x5, x6, x130000, x130001, x130002, x130003 => if x6 < (x130003.length : Int) then (if 0 ≤ x6 then ((incunableref25_measure.f k ((rd_T33 x130003 x6).f0) ((rd_T33 x130003 x6).f1) ((rd_T33 x130003 x6).f2) ((rd_T33 x130003 x6).f3)).bind fun bt131 => (incunableref25_measure.l0 k (wrap64 (x4 + bt131.1)) (mx x5 bt131.2) (wrap64 (x6 + 1)) x130000 x130001 x130002 x130003)) else (none)) else (some (x4, wrap64 (x5 + 1)))
def incunableref25_measure.f : Nat → Int → ByteArray → Int → List (S33) → Option (Int × Int)
 | 0, _, _, _, _ => none
 | k + 1, a0_0, a0_1, a0_2, l0_3 => incunableref25_measure.l0 k 1 0 0 a0_0 a0_1 a0_2 l0_3
end
theorem incunableref25_measure.mono_l : ∀ k, (∀ y0 y1 y2 y3, LeO (incunableref25_measure.f k y0 y1 y2 y3) (incunableref25_measure.f (k + 1) y0 y1 y2 y3)) ∧ (∀ y0 y1 y2 y3 y4 y5 y6, LeO (incunableref25_measure.l0 k y0 y1 y2 y3 y4 y5 y6) (incunableref25_measure.l0 (k + 1) y0 y1 y2 y3 y4 y5 y6))
 | 0 => ⟨fun _ _ _ _ r h => by simp [incunableref25_measure.f] at h, fun _ _ _ _ _ _ _ r h => by simp [incunableref25_measure.l0] at h⟩
 | k + 1 => by
  obtain ⟨ih0, ih1⟩ := incunableref25_measure.mono_l k
  refine ⟨?_, ?_⟩
  ·intro y0 y1 y2 y3
   unfold incunableref25_measure.f
   repeat' first
   | (with_reducible exact ih0 _ _ _ _)
   | (with_reducible exact ih1 _ _ _ _ _ _ _)
   | (with_reducible first | exact LeO.refl _ | exact LeO.none _ | refine LeO.ite ?_ ?_ | refine LeO.bind ?_ (fun _ => ?_))
  ·intro y0 y1 y2 y3 y4 y5 y6
   unfold incunableref25_measure.l0
   repeat' first
   | (with_reducible exact ih0 _ _ _ _)
   | (with_reducible exact ih1 _ _ _ _ _ _ _)
   | (with_reducible first | exact LeO.refl _ | exact LeO.none _ | refine LeO.ite ?_ ?_ | refine LeO.bind ?_ (fun _ => ?_))
theorem incunableref25_measure.mono : ∀ a0 a1 a2 a3 k, LeO (incunableref25_measure.f k a0 a1 a2 a3) (incunableref25_measure.f (k + 1) a0 a1 a2 a3) := by
 intro a0 a1 a2 a3 k
 obtain ⟨ih0, ih1⟩ := incunableref25_measure.mono_l k
 exact ih0 a0 a1 a2 a3
set_option maxHeartbeats 8000000 in
set_option maxRecDepth 100000 in
theorem incunableref25_measure.calls (k : Nat) : ∀ (a0_0 : Int) (a0_1 : ByteArray) (a0_2 : Int) (A0_3 : Option Addr) (c0_3 : Nat) (l0_3 : List (S33)) (r1 : Int) (r2 : Int) (w : World) (hr0_3 : Kd.C k33 w A0_3 l0_3.length l0_3) (hc0_3 : l0_3.length ≤ c0_3) (h : incunableref25_measure.f k a0_0 a0_1 a0_2 l0_3 = some (r1, r2)),
  Calls Tryd.prog 82 #[.agg #[.int .i64 a0_0, .string a0_1, .int .i64 a0_2, .slice A0_3 l0_3.length c0_3]] w fun e w' => e = .returned (.tuple #[.int .i64 r1, .int .i64 r2]) ∧ Below w.heap.size w w' := by
 induction k using Nat.strongRecOn with
 | _ k ih =>
 intro a0_0 a0_1 a0_2 A0_3 c0_3 l0_3 r1 r2 w hr0_3 hc0_3 h
 cases k with
 | zero => exact absurd h (by simp [incunableref25_measure.f])
 | succ k =>
 simp only [incunableref25_measure.f] at h
 have hu33 := Tryd.underlying33
 have HR0_3 := Aside0.mk hr0_3
 have HC0_3 := Aside0.mk hc0_3
 clear hr0_3 hc0_3
 have HB := Aside0.mk (Below.refl w.heap.size w)
 have H : (incunableref25_measure.l0 k 1 0 0 a0_0 a0_1 a0_2 l0_3) = some (r1, r2) := h
 clear h
 have H' := Aside0.mk H
 clear H
 go_enter Tryd.func82, Tryd.ntmps82
 go_wp2_with (first | ((with_reducible refine gd 1 rfl ?_); refine bx 1 #[.int .i64 a0_0, .string a0_1, .int .i64 a0_2, .slice A0_3 l0_3.length c0_3] 33 rfl rfl ?_; intro gb129 hg w2 hbox hb; have n_ := aC (bs hb) (aC hbox (aC (gz hg) (aE (gz hg)))); clear HB; obtain ⟨HB, BK129, GW129, GE129⟩ := n_; clear hb hbox hg))
 go_loopg [4, 5, 6] k (fun kq v4 v5 v6 w' => ∃ (x4_1 : Int) (x5_1 : Int) (x6_1 : Int), v4 = .int .i64 x4_1 ∧ v5 = .int .i64 x5_1 ∧ v6 = .int .i64 x6_1 ∧ Aside0 (incunableref25_measure.l0 kq x4_1 x5_1 x6_1 a0_0 a0_1 a0_2 l0_3 = some (r1, r2)) ∧ Aside0 (kq ≤ k) ∧ Aside0 (w'.heap[gb129]? = some (.cells #[.int .i64 a0_0, .string a0_1, .int .i64 a0_2, (.slice A0_3 l0_3.length c0_3)] 33 (0, 0))) ∧ Aside0 (Below w.heap.size w w'))
 case atStart => exact ⟨(1), (0), (0), rq, rq, rq, H', ⟨Nat.le_refl _⟩, ⟨bU BK129.out⟩, ⟨bl⟩⟩
 case round =>
  clear H'
  obtain ⟨x4_1, x5_1, x6_1, rfl, rfl, rfl, HA, HK1, BK129, HB⟩ := hrel
  cases gk with
  | zero => exact absurd HA.out (by simp [incunableref25_measure.l0])
  | succ k1 =>
   have H := HA.out
   clear HA
   simp only [incunableref25_measure.l0] at H
   rcases iL H with H1 | H1 <;> clear H <;> obtain ⟨H, c3b0⟩ := H1
   ·by_cases c4 : 0 ≤ x6_1
    ·rw [if_pos c4] at H
     have c4b0 := decide_eq_true c4
     clear c4
     obtain ⟨⟨t131, t132⟩, A5, H⟩ := oB H
     try dsimp only at H
     obtain ⟨ji6, hji6⟩ : ∃ j_ : Int, (mx x5_1 t132) = j_ := ⟨_, rfl⟩
     replace H : (incunableref25_measure.l0 k1 (wrap64 (x4_1 + t131)) ji6 (wrap64 (x6_1 + 1)) a0_0 a0_1 a0_2 l0_3) = some (r1, r2) := by first | (rw [hji6] at H; exact H) | (simp only [hji6] at H ⊢; exact H)
     (try rw [hji6] at A5)
     have hji6_ : (if x5_1 < t132 then t132 else x5_1) = ji6 := hji6
     have H' := Aside0.mk H
     clear H
     obtain ⟨hcz7_0, hcz7_1, hcz7_2, hcz7_3, hfz7_0, hfz7_1, hfz7_2, hfz7_3⟩ := cz4f BK129.out
     have p130 : 0 ≤ (x6_1 : Int) := dt
     have q130 : x6_1 < (l0_3.length : Int) := dt
     obtain ⟨ad130, A130_3, c130_3, e130, hx130_0, hx130_1, hx130_2, hx130_3, hl130_3, hi130_3⟩ := at_T33 HR0_3.out x6_1 p130 q130
     cases e130
     replace hx130_0 := hcB HB.out hx130_0
     replace hx130_1 := hcB HB.out hx130_1
     replace hx130_2 := hcB HB.out hx130_2
     replace hx130_3 := hcB HB.out hx130_3
     have HR130_3 := Aside0.mk hi130_3
     have HC130_3 := Aside0.mk hl130_3
     clear hi130_3 hl130_3
     replace p130 := eq_true p130
     replace q130 := eq_true q130
     go_wp2_with (first | (refine gF 82 22 Tryd.func82 #[.agg #[.int .i64 ((rd_T33 l0_3 x6_1).f0), .string ((rd_T33 l0_3 x6_1).f1), .int .i64 ((rd_T33 l0_3 x6_1).f2), .slice A130_3 ((rd_T33 l0_3 x6_1).f3).length c130_3]] rfl rfl ?_; (with_reducible refine (ih k1 (by have := HK1.out; omega) ((rd_T33 l0_3 x6_1).f0) ((rd_T33 l0_3 x6_1).f1) ((rd_T33 l0_3 x6_1).f2) _ _ ((rd_T33 l0_3 x6_1).f3) t131 t132 _ ?side1 ?side2 A5.out).mono ?_); (case side1 => exact cU (Kd.C_below HR130_3.out HB.out)); (case side2 => exact HC130_3.out); rintro e w8 ⟨rfl, hb⟩; refine ⟨_, rfl, ?_⟩; have n_ := aC (blk_below (bU BK129.out) hb) (aE (bs hb)); clear BK129 HB; obtain ⟨BK129, HB⟩ := n_))
     go_roundg k1
     case measure => have := HK1.out; omega
     case rel => exact ⟨(wrap64 (x4_1 + t131)), (ji6), (wrap64 (x6_1 + 1)), rq, (by first | rfl | (simp; done) | (simp only [← hji6] <;> (first | rfl | simp)) | (simp [*]; done)), rq, H', ⟨by have := HK1.out; omega⟩, ⟨bU BK129.out⟩, ⟨bl⟩⟩
    ·rw [if_neg c4] at H
     exact absurd H (by simp)
   ·simp only [Option.some.injEq, Prod.mk.injEq] at H
    obtain ⟨rfl, rfl⟩ := H
    obtain ⟨hcz9_0, hcz9_1, hcz9_2, hcz9_3, hfz9_0, hfz9_1, hfz9_2, hfz9_3⟩ := cz4f BK129.out
    go_wp2
    go_ret2
    exact ⟨re, bl⟩
def incunableref25_small.f (k : Nat) (a0_0 : Int) (a0_1 : ByteArray) (a0_2 : Int) (l0_3 : List (S33)) : Option (Bool) := (incunableref25_measure.f k a0_0 a0_1 a0_2 l0_3).bind fun bt134 => (if bt134.1 ≤ 400 then (some (decide (bt134.2 ≤ 20))) else (some false))
theorem incunableref25_small.mono : ∀ a0 a1 a2 a3 k, LeO (incunableref25_small.f k a0 a1 a2 a3) (incunableref25_small.f (k + 1) a0 a1 a2 a3) := by
 intro a0 a1 a2 a3 k
 unfold incunableref25_small.f
 repeat' first
   | (with_reducible exact incunableref25_measure.mono _ _ _ _ _)
   | (with_reducible first | exact LeO.refl _ | exact LeO.none _ | refine LeO.ite ?_ ?_ | refine LeO.bind ?_ (fun _ => ?_))
set_option maxHeartbeats 8000000 in
set_option maxRecDepth 100000 in
theorem incunableref25_small.calls (k : Nat) (a0_0 : Int) (a0_1 : ByteArray) (a0_2 : Int) (A0_3 : Option Addr) (c0_3 : Nat) (l0_3 : List (S33)) (r : Bool) (w : World) (hr0_3 : Kd.C k33 w A0_3 l0_3.length l0_3) (hc0_3 : l0_3.length ≤ c0_3) (h : incunableref25_small.f k a0_0 a0_1 a0_2 l0_3 = some r) :
  Calls Tryd.prog 61 #[.agg #[.int .i64 a0_0, .string a0_1, .int .i64 a0_2, .slice A0_3 l0_3.length c0_3]] w fun e w' => e = .returned (.bool r) ∧ Below w.heap.size w w' := by
 have hu33 := Tryd.underlying33
 have HR0_3 := Aside0.mk hr0_3
 have HC0_3 := Aside0.mk hc0_3
 clear hr0_3 hc0_3
 have HB := Aside0.mk (Below.refl w.heap.size w)
 have H := h
 unfold incunableref25_small.f at H
 clear h
 obtain ⟨⟨t134, t135⟩, A2, H⟩ := oB H
 try dsimp only at H
 rcases iL H with H1 | H1 <;> clear H <;> obtain ⟨H, c3b0⟩ := H1
 ·obtain rfl := Option.some.inj H
  go_enter Tryd.func61, Tryd.ntmps61
  go_wp2_with (first | ((with_reducible refine gd 1 rfl ?_); refine bx 1 #[.int .i64 a0_0, .string a0_1, .int .i64 a0_2, .slice A0_3 l0_3.length c0_3] 33 rfl rfl ?_; intro gb133 hg w4 hbox hb; have n_ := aC (bs hb) (aC hbox (aC (gz hg) (aE (gz hg)))); clear HB; obtain ⟨HB, BK133, GW133, GE133⟩ := n_; clear hb hbox hg; obtain ⟨hcz5_0, hcz5_1, hcz5_2, hcz5_3, hfz5_0, hfz5_1, hfz5_2, hfz5_3⟩ := cz4f BK133.out) | (refine gF 82 7 Tryd.func82 #[.agg #[.int .i64 a0_0, .string a0_1, .int .i64 a0_2, .slice A0_3 l0_3.length c0_3]] rfl rfl ?_; (with_reducible refine (incunableref25_measure.calls k a0_0 a0_1 a0_2 _ _ l0_3 t134 t135 _ ?side1 ?side2 A2.out).mono ?_); (case side1 => exact cU (Kd.C_below HR0_3.out HB.out)); (case side2 => exact HC0_3.out); rintro e w6 ⟨rfl, hb⟩; refine ⟨_, rfl, ?_⟩; have n_ := aC (blk_below (bU BK133.out) hb) (aE (bs hb)); clear BK133 HB; obtain ⟨BK133, HB⟩ := n_))
  go_ret
  exact ⟨re, bl⟩
 ·obtain rfl := Option.some.inj H
  go_enter Tryd.func61, Tryd.ntmps61
  go_wp2_with (first | ((with_reducible refine gd 1 rfl ?_); refine bx 1 #[.int .i64 a0_0, .string a0_1, .int .i64 a0_2, .slice A0_3 l0_3.length c0_3] 33 rfl rfl ?_; intro gb133 hg w7 hbox hb; have n_ := aC (bs hb) (aC hbox (aC (gz hg) (aE (gz hg)))); clear HB; obtain ⟨HB, BK133, GW133, GE133⟩ := n_; clear hb hbox hg; obtain ⟨hcz8_0, hcz8_1, hcz8_2, hcz8_3, hfz8_0, hfz8_1, hfz8_2, hfz8_3⟩ := cz4f BK133.out) | (refine gF 82 7 Tryd.func82 #[.agg #[.int .i64 a0_0, .string a0_1, .int .i64 a0_2, .slice A0_3 l0_3.length c0_3]] rfl rfl ?_; (with_reducible refine (incunableref25_measure.calls k a0_0 a0_1 a0_2 _ _ l0_3 t134 t135 _ ?side1 ?side2 A2.out).mono ?_); (case side1 => exact cU (Kd.C_below HR0_3.out HB.out)); (case side2 => exact HC0_3.out); rintro e w9 ⟨rfl, hb⟩; refine ⟨_, rfl, ?_⟩; have n_ := aC (blk_below (bU BK133.out) hb) (aE (bs hb)); clear BK133 HB; obtain ⟨BK133, HB⟩ := n_))
  go_ret
  exact ⟨re, bl⟩
end Go.Proofs.YtacdchogjpeffaaDoor.PNoteFormats
