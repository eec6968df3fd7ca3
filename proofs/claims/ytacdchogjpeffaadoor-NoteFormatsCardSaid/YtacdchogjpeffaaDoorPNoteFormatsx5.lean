-- printed (wip/tools/myprint.py)
import Derived.Test.YtacdchogjpeffaaDoorPNoteFormatsx0
import Derived.Test.YtacdchogjpeffaaDoorPNoteFormatsx1
import Derived.Test.YtacdchogjpeffaaDoorPNoteFormatsx4
namespace Go.Proofs.YtacdchogjpeffaaDoor.PNoteFormats
open Go.RowKit Go.Proofs.YtacdchogjpeffaaDoorW.PrintWords Go.Proofs.YtacdchogjpeffaaDoorW.PrintLast Go.Proofs.YtacdchogjpeffaaDoorW.PrintMore
attribute [local go_sem] max2_int min2_int max_two min_two max_three min_three max_four min_four
set_option linter.unusedVariables false
set_option linter.unusedSimpArgs false
def incunableref25_Valid.f (k : Nat) (a0_0 : Int) (a0_1 : ByteArray) (a0_2 : Int) (l0_3 : List (S33)) : Option (Bool) := (incunableref25_right.f k a0_0 a0_1 a0_2 l0_3).bind fun t137 => (if t137 = true then ((incunableref25_small.f k a0_0 a0_1 a0_2 l0_3).bind fun t138 => (some t138)) else (some false))
theorem incunableref25_Valid.mono : ∀ a0 a1 a2 a3 k, LeO (incunableref25_Valid.f k a0 a1 a2 a3) (incunableref25_Valid.f (k + 1) a0 a1 a2 a3) := by
 intro a0 a1 a2 a3 k
 unfold incunableref25_Valid.f
 repeat' first
   | (with_reducible exact incunableref25_right.mono _ _ _ _ _)
   | (with_reducible exact incunableref25_small.mono _ _ _ _ _)
   | (with_reducible first | exact LeO.refl _ | exact LeO.none _ | refine LeO.ite ?_ ?_ | refine LeO.bind ?_ (fun _ => ?_))
set_option maxHeartbeats 8000000 in
set_option maxRecDepth 100000 in
theorem incunableref25_Valid.calls (k : Nat) (a0_0 : Int) (a0_1 : ByteArray) (a0_2 : Int) (A0_3 : Option Addr) (c0_3 : Nat) (l0_3 : List (S33)) (r : Bool) (w : World) (hr0_3 : Kd.C k33 w A0_3 l0_3.length l0_3) (hc0_3 : l0_3.length ≤ c0_3) (h : incunableref25_Valid.f k a0_0 a0_1 a0_2 l0_3 = some r) :
  Calls Tryd.prog 34 #[.agg #[.int .i64 a0_0, .string a0_1, .int .i64 a0_2, .slice A0_3 l0_3.length c0_3]] w fun e w' => e = .returned (.bool r) ∧ Below w.heap.size w w' := by
 have hu33 := Tryd.underlying33
 have HR0_3 := Aside0.mk hr0_3
 have HC0_3 := Aside0.mk hc0_3
 clear hr0_3 hc0_3
 have HB := Aside0.mk (Below.refl w.heap.size w)
 have H := h
 unfold incunableref25_Valid.f at H
 clear h
 obtain ⟨t137, A2, H⟩ := oB H
 try dsimp only at H
 by_cases c3 : t137 = true
 ·subst c3
  rw [if_pos rfl] at H
  obtain ⟨t138, A4, H⟩ := oB H
  try dsimp only at H
  obtain rfl := Option.some.inj H
  go_enter Tryd.func34, Tryd.ntmps34
  go_wp2_with (first | ((with_reducible refine gd 1 rfl ?_); refine bx 1 #[.int .i64 a0_0, .string a0_1, .int .i64 a0_2, .slice A0_3 l0_3.length c0_3] 33 rfl rfl ?_; intro gb136 hg w5 hbox hb; have n_ := aC (bs hb) (aC hbox (aC (gz hg) (aE (gz hg)))); clear HB; obtain ⟨HB, BK136, GW136, GE136⟩ := n_; clear hb hbox hg; obtain ⟨hcz6_0, hcz6_1, hcz6_2, hcz6_3, hfz6_0, hfz6_1, hfz6_2, hfz6_3⟩ := cz4f BK136.out) | (refine gF 60 4 Tryd.func60 #[.agg #[.int .i64 a0_0, .string a0_1, .int .i64 a0_2, .slice A0_3 l0_3.length c0_3]] rfl rfl ?_; (with_reducible refine (incunableref25_right.calls k a0_0 a0_1 a0_2 _ _ l0_3 true _ ?side1 ?side2 A2.out).mono ?_); (case side1 => exact cU (Kd.C_below HR0_3.out HB.out)); (case side2 => exact HC0_3.out); rintro e w7 ⟨rfl, hb⟩; refine ⟨_, rfl, ?_⟩; have n_ := aC (blk_below (bU BK136.out) hb) (aE (bs hb)); clear BK136 HB; obtain ⟨BK136, HB⟩ := n_; obtain ⟨hcz8_0, hcz8_1, hcz8_2, hcz8_3, hfz8_0, hfz8_1, hfz8_2, hfz8_3⟩ := cz4f BK136.out) | (go_at_call 61; (with_reducible refine (incunableref25_small.calls k a0_0 a0_1 a0_2 _ _ l0_3 t138 _ ?side1 ?side2 A4.out).mono ?_); (case side1 => exact cU (Kd.C_below HR0_3.out HB.out)); (case side2 => exact HC0_3.out); rintro e w9 ⟨rfl, hb⟩; have n_ := aC (blk_below (bU BK136.out) hb) (aE (bs hb)); clear BK136 HB; obtain ⟨BK136, HB⟩ := n_))
  go_ret
  exact ⟨re, bl⟩
 ·replace c3 := Bool.eq_false_iff.mpr c3
  subst c3
  rw [if_neg Bool.false_ne_true] at H
  obtain rfl := Option.some.inj H
  go_enter Tryd.func34, Tryd.ntmps34
  go_wp2_with (first | ((with_reducible refine gd 1 rfl ?_); refine bx 1 #[.int .i64 a0_0, .string a0_1, .int .i64 a0_2, .slice A0_3 l0_3.length c0_3] 33 rfl rfl ?_; intro gb136 hg w10 hbox hb; have n_ := aC (bs hb) (aC hbox (aC (gz hg) (aE (gz hg)))); clear HB; obtain ⟨HB, BK136, GW136, GE136⟩ := n_; clear hb hbox hg; obtain ⟨hcz11_0, hcz11_1, hcz11_2, hcz11_3, hfz11_0, hfz11_1, hfz11_2, hfz11_3⟩ := cz4f BK136.out) | (refine gF 60 4 Tryd.func60 #[.agg #[.int .i64 a0_0, .string a0_1, .int .i64 a0_2, .slice A0_3 l0_3.length c0_3]] rfl rfl ?_; (with_reducible refine (incunableref25_right.calls k a0_0 a0_1 a0_2 _ _ l0_3 false _ ?side1 ?side2 A2.out).mono ?_); (case side1 => exact cU (Kd.C_below HR0_3.out HB.out)); (case side2 => exact HC0_3.out); rintro e w12 ⟨rfl, hb⟩; refine ⟨_, rfl, ?_⟩; have n_ := aC (blk_below (bU BK136.out) hb) (aE (bs hb)); clear BK136 HB; obtain ⟨BK136, HB⟩ := n_))
  go_ret
  exact ⟨re, bl⟩
mutual
def incunableref25_Text.l0 : Nat → ByteArray → Int → Int → ByteArray → Int → List (S33) → Option (ByteArray)
 | 0, _, _, _, _, _, _ => none
 | k + 1, x3, x4, x140000, x140001, x140002, x140003 => if x4 < (x140003.length : Int) then (if x4 > 0 then (if x3.size + 1 ≤ 9223372036854775807 then (if 0 ≤ x4 then ((incunableref25_Text.f k ((rd_T33 x140003 x4).f0) ((rd_T33 x140003 x4).f1) ((rd_T33 x140003 x4).f2) ((rd_T33 x140003 x4).f3)).bind fun t141 => (if (x3 ++ (⟨#[32]⟩ : ByteArray)).size + t141.size ≤ 9223372036854775807 then (incunableref25_Text.l0 k ((x3 ++ (⟨#[32]⟩ : ByteArray)) ++ t141) (wrap64 (x4 + 1)) x140000 x140001 x140002 x140003) else (none))) else (none)) else (none)) else (if 0 ≤ x4 then ((incunableref25_Text.f k ((rd_T33 x140003 x4).f0) ((rd_T33 x140003 x4).f1) ((rd_T33 x140003 x4).f2) ((rd_T33 x140003 x4).f3)).bind fun t143 => (if x3.size + t143.size ≤ 9223372036854775807 then (incunableref25_Text.l0 k (x3 ++ t143) (wrap64 (x4 + 1)) x140000 x140001 x140002 x140003) else (none))) else (none))) else (if x3.size + 1 ≤ 9223372036854775807 then (some (x3 ++ (⟨#[41]⟩ : ByteArray))) else (none))
def incunableref25_Text.l1 : Nat → List Int → Int → Int → ByteArray → Int → List (S33) → Option (ByteArray)
 | 0, _, _, _, _, _, _ => none
 | k + 1, x5, x6, x140000, x140001, x140002, x140003 => if x6 < (x140001.size : Int) then (if 0 ≤ x6 then (if (bt x140001 x6) = 34 then (if x5.length < 140737488355328 then ((some (x5 ++ [92] : List Int)).bind fun y148 => (if y148.length < 140737488355328 then (incunableref25_Text.l1 k (y148 ++ [bt x140001 x6]) (wrap64 (x6 + 1)) x140000 x140001 x140002 x140003) else (none))) else (none)) else (if (bt x140001 x6) = 92 then (if x5.length < 140737488355328 then ((some (x5 ++ [92] : List Int)).bind fun y154 => (if y154.length < 140737488355328 then (incunableref25_Text.l1 k (y154 ++ [bt x140001 x6]) (wrap64 (x6 + 1)) x140000 x140001 x140002 x140003) else (none))) else (none)) else (if x5.length < 140737488355328 then (incunableref25_Text.l1 k (x5 ++ [bt x140001 x6]) (wrap64 (x6 + 1)) x140000 x140001 x140002 x140003) else (none)))) else (none)) else (if x5.length < 140737488355328 then (some (strOfNums (x5 ++ [34]))) else (none))
def incunableref25_Text.f : Nat → Int → ByteArray → Int → List (S33) → Option (ByteArray)
 | 0, _, _, _, _ => none
 | k + 1, a0_0, a0_1, a0_2, l0_3 => if a0_0 = 0 then (incunableref25_Text.l0 k (⟨#[40]⟩ : ByteArray) 0 a0_0 a0_1 a0_2 l0_3) else (if a0_0 = 1 then (some a0_1) else (if a0_0 = 2 then ((strconv_Itoa_79.f a0_2).bind fun t144 => (some t144)) else (incunableref25_Text.l1 k (([34] : List Int)) 0 a0_0 a0_1 a0_2 l0_3)))
end
theorem incunableref25_Text.mono_l : ∀ k, (∀ y0 y1 y2 y3, LeO (incunableref25_Text.f k y0 y1 y2 y3) (incunableref25_Text.f (k + 1) y0 y1 y2 y3)) ∧ (∀ y0 y1 y2 y3 y4 y5, LeO (incunableref25_Text.l0 k y0 y1 y2 y3 y4 y5) (incunableref25_Text.l0 (k + 1) y0 y1 y2 y3 y4 y5)) ∧ (∀ y0 y1 y2 y3 y4 y5, LeO (incunableref25_Text.l1 k y0 y1 y2 y3 y4 y5) (incunableref25_Text.l1 (k + 1) y0 y1 y2 y3 y4 y5))
 | 0 => ⟨fun _ _ _ _ r h => by simp [incunableref25_Text.f] at h, fun _ _ _ _ _ _ r h => by simp [incunableref25_Text.l0] at h, fun _ _ _ _ _ _ r h => by simp [incunableref25_Text.l1] at h⟩
 | k + 1 => by
  obtain ⟨ih0, ih1, ih2⟩ := incunableref25_Text.mono_l k
  refine ⟨?_, ?_, ?_⟩
  ·intro y0 y1 y2 y3
   unfold incunableref25_Text.f
   repeat' first
   | (with_reducible exact ih0 _ _ _ _)
   | (with_reducible exact ih1 _ _ _ _ _ _)
   | (with_reducible exact ih2 _ _ _ _ _ _)
   | (with_reducible first | exact LeO.refl _ | exact LeO.none _ | refine LeO.ite ?_ ?_ | refine LeO.bind ?_ (fun _ => ?_))
  ·intro y0 y1 y2 y3 y4 y5
   unfold incunableref25_Text.l0
   repeat' first
   | (with_reducible exact ih0 _ _ _ _)
   | (with_reducible exact ih1 _ _ _ _ _ _)
   | (with_reducible exact ih2 _ _ _ _ _ _)
   | (with_reducible first | exact LeO.refl _ | exact LeO.none _ | refine LeO.ite ?_ ?_ | refine LeO.bind ?_ (fun _ => ?_))
  ·intro y0 y1 y2 y3 y4 y5
   unfold incunableref25_Text.l1
   repeat' first
   | (with_reducible exact ih0 _ _ _ _)
   | (with_reducible exact ih1 _ _ _ _ _ _)
   | (with_reducible exact ih2 _ _ _ _ _ _)
   | (with_reducible first | exact LeO.refl _ | exact LeO.none _ | refine LeO.ite ?_ ?_ | refine LeO.bind ?_ (fun _ => ?_))
theorem incunableref25_Text.mono : ∀ a0 a1 a2 a3 k, LeO (incunableref25_Text.f k a0 a1 a2 a3) (incunableref25_Text.f (k + 1) a0 a1 a2 a3) := by
 intro a0 a1 a2 a3 k
 obtain ⟨ih0, ih1, ih2⟩ := incunableref25_Text.mono_l k
 exact ih0 a0 a1 a2 a3
set_option maxHeartbeats 8000000 in
set_option maxRecDepth 100000 in
theorem incunableref25_Text.calls (k : Nat) : ∀ (a0_0 : Int) (a0_1 : ByteArray) (a0_2 : Int) (A0_3 : Option Addr) (c0_3 : Nat) (l0_3 : List (S33)) (r : ByteArray) (w : World) (hT0 : TIs w) (hr0_3 : Kd.C k33 w A0_3 l0_3.length l0_3) (hc0_3 : l0_3.length ≤ c0_3) (h : incunableref25_Text.f k a0_0 a0_1 a0_2 l0_3 = some r),
  Calls Tryd.prog 58 #[.agg #[.int .i64 a0_0, .string a0_1, .int .i64 a0_2, .slice A0_3 l0_3.length c0_3]] w fun e w' => e = .returned (.string r) ∧ Below w.heap.size w w' := by
 induction k using Nat.strongRecOn with
 | _ k ih =>
 intro a0_0 a0_1 a0_2 A0_3 c0_3 l0_3 r w hT0 hr0_3 hc0_3 h
 have HTI := Aside0.mk hT0
 clear hT0
 cases k with
 | zero => exact absurd h (by simp [incunableref25_Text.f])
 | succ k =>
 simp only [incunableref25_Text.f] at h
 have hu33 := Tryd.underlying33
 have HR0_3 := Aside0.mk hr0_3
 have HC0_3 := Aside0.mk hc0_3
 clear hr0_3 hc0_3
 have HB := Aside0.mk (Below.refl w.heap.size w)
 have H := h
 unfold incunableref25_Text.f at H
 clear h
 rcases iE H with H1 | H1 <;> clear H <;> obtain ⟨H, c2b0, c2b1, c2⟩ := H1
 ·have H' := Aside0.mk H
  clear H
  go_enter Tryd.func58, Tryd.ntmps58
  go_wp2_with (first | ((with_reducible refine gd 1 rfl ?_); refine bx 1 #[.int .i64 a0_0, .string a0_1, .int .i64 a0_2, .slice A0_3 l0_3.length c0_3] 33 rfl rfl ?_; intro gb139 hg w3 hbox hb; have n_ := aC (bs hb) (aC hbox (aC (gz hg) (aE (gz hg)))); clear HB; obtain ⟨HB, BK139, GW139, GE139⟩ := n_; clear hb hbox hg; obtain ⟨hcz4_0, hcz4_1, hcz4_2, hcz4_3, hfz4_0, hfz4_1, hfz4_2, hfz4_3⟩ := cz4f BK139.out))
  go_loopg [3, 4] k (fun kq v3 v4 w' => ∃ (x3_1 : ByteArray) (x4_1 : Int), v3 = .string x3_1 ∧ v4 = .int .i64 x4_1 ∧ Aside0 (incunableref25_Text.l0 kq x3_1 x4_1 a0_0 a0_1 a0_2 l0_3 = some r) ∧ Aside0 (kq ≤ k) ∧ Aside0 (w'.heap[gb139]? = some (.cells #[.int .i64 a0_0, .string a0_1, .int .i64 a0_2, (.slice A0_3 l0_3.length c0_3)] 33 (0, 0))) ∧ Aside0 (Below w.heap.size w w'))
  case atStart => exact ⟨((⟨#[40]⟩ : ByteArray)), (0), rq, rq, H', ⟨Nat.le_refl _⟩, ⟨bU BK139.out⟩, ⟨bl⟩⟩
  case round =>
   clear H'
   obtain ⟨x3_1, x4_1, rfl, rfl, HA, HK1, BK139, HB⟩ := hrel
   cases gk with
   | zero => exact absurd HA.out (by simp [incunableref25_Text.l0])
   | succ k1 =>
    have H := HA.out
    clear HA
    simp only [incunableref25_Text.l0] at H
    rcases iL H with H1 | H1 <;> clear H <;> obtain ⟨H, c5b0⟩ := H1
    ·rcases iL H with H1 | H1 <;> clear H <;> obtain ⟨H, c6b0⟩ := H1
     ·by_cases c7 : x3_1.size + 1 ≤ 9223372036854775807
      ·rw [if_pos c7] at H
       have c7b0 := eq_true c7
       try (have c7b9 := c7; simp [show (⟨#[32]⟩ : ByteArray).size = 1 from rfl, show (⟨#[40]⟩ : ByteArray).size = 1 from rfl, show (⟨#[41]⟩ : ByteArray).size = 1 from rfl] at c7b9; have c7b8 := eq_true c7b9; have c7b7 := eq_false (Nat.not_lt.2 c7b9))
       have c7b1 := decide_eq_true c7
       try have c7b2 : (9223372036854775807 < x3_1.size + 1) = False := eq_false (Nat.not_lt.2 c7)
       by_cases c8 : 0 ≤ x4_1
       ·rw [if_pos c8] at H
        have c8b0 := decide_eq_true c8
        clear c8
        obtain ⟨t141, A9, H⟩ := oB H
        try dsimp only at H
        by_cases c10 : (x3_1 ++ (⟨#[32]⟩ : ByteArray)).size + t141.size ≤ 9223372036854775807
        ·rw [if_pos c10] at H
         have c10b0 := eq_true c10
         try (have c10b9 := c10; simp [show (⟨#[32]⟩ : ByteArray).size = 1 from rfl, show (⟨#[40]⟩ : ByteArray).size = 1 from rfl, show (⟨#[41]⟩ : ByteArray).size = 1 from rfl] at c10b9; have c10b8 := eq_true c10b9; have c10b7 := eq_false (Nat.not_lt.2 c10b9))
         have c10b1 := decide_eq_true c10
         try have c10b2 : (9223372036854775807 < (x3_1 ++ (⟨#[32]⟩ : ByteArray)).size + t141.size) = False := eq_false (Nat.not_lt.2 c10)
         have H' := Aside0.mk H
         clear H
         obtain ⟨hcz11_0, hcz11_1, hcz11_2, hcz11_3, hfz11_0, hfz11_1, hfz11_2, hfz11_3⟩ := cz4f BK139.out
         have p140 : 0 ≤ (x4_1 : Int) := dt
         have q140 : x4_1 < (l0_3.length : Int) := dt
         obtain ⟨ad140, A140_3, c140_3, e140, hx140_0, hx140_1, hx140_2, hx140_3, hl140_3, hi140_3⟩ := at_T33 HR0_3.out x4_1 p140 q140
         cases e140
         replace hx140_0 := hcB HB.out hx140_0
         replace hx140_1 := hcB HB.out hx140_1
         replace hx140_2 := hcB HB.out hx140_2
         replace hx140_3 := hcB HB.out hx140_3
         have HR140_3 := Aside0.mk hi140_3
         have HC140_3 := Aside0.mk hl140_3
         clear hi140_3 hl140_3
         replace p140 := eq_true p140
         replace q140 := eq_true q140
         go_wp2_with (first | (refine gF 58 28 Tryd.func58 #[.agg #[.int .i64 ((rd_T33 l0_3 x4_1).f0), .string ((rd_T33 l0_3 x4_1).f1), .int .i64 ((rd_T33 l0_3 x4_1).f2), .slice A140_3 ((rd_T33 l0_3 x4_1).f3).length c140_3]] rfl rfl ?_; (with_reducible refine (ih k1 (by have := HK1.out; omega) ((rd_T33 l0_3 x4_1).f0) ((rd_T33 l0_3 x4_1).f1) ((rd_T33 l0_3 x4_1).f2) _ _ ((rd_T33 l0_3 x4_1).f3) t141 _ (TIs.on HTI) ?side1 ?side2 A9.out).mono ?_); (case side1 => exact cU (Kd.C_below HR140_3.out HB.out)); (case side2 => exact HC140_3.out); rintro e w12 ⟨rfl, hb⟩; refine ⟨_, rfl, ?_⟩; have n_ := aC (blk_below (bU BK139.out) hb) (aE (bs hb)); clear BK139 HB; obtain ⟨BK139, HB⟩ := n_))
         go_roundg k1
         case measure => have := HK1.out; omega
         case rel => exact ⟨((x3_1 ++ (⟨#[32]⟩ : ByteArray)) ++ t141), (wrap64 (x4_1 + 1)), rq, rq, H', ⟨by have := HK1.out; omega⟩, ⟨bU BK139.out⟩, ⟨bl⟩⟩
        ·rw [if_neg c10] at H
         exact absurd H (by simp)
       ·rw [if_neg c8] at H
        exact absurd H (by simp)
      ·rw [if_neg c7] at H
       exact absurd H (by simp)
     ·by_cases c13 : 0 ≤ x4_1
      ·rw [if_pos c13] at H
       have c13b0 := decide_eq_true c13
       clear c13
       obtain ⟨t143, A14, H⟩ := oB H
       try dsimp only at H
       by_cases c15 : x3_1.size + t143.size ≤ 9223372036854775807
       ·rw [if_pos c15] at H
        have c15b0 := eq_true c15
        try (have c15b9 := c15; simp [show (⟨#[32]⟩ : ByteArray).size = 1 from rfl, show (⟨#[40]⟩ : ByteArray).size = 1 from rfl, show (⟨#[41]⟩ : ByteArray).size = 1 from rfl] at c15b9; have c15b8 := eq_true c15b9; have c15b7 := eq_false (Nat.not_lt.2 c15b9))
        have c15b1 := decide_eq_true c15
        try have c15b2 : (9223372036854775807 < x3_1.size + t143.size) = False := eq_false (Nat.not_lt.2 c15)
        have H' := Aside0.mk H
        clear H
        obtain ⟨hcz16_0, hcz16_1, hcz16_2, hcz16_3, hfz16_0, hfz16_1, hfz16_2, hfz16_3⟩ := cz4f BK139.out
        have p142 : 0 ≤ (x4_1 : Int) := dt
        have q142 : x4_1 < (l0_3.length : Int) := dt
        obtain ⟨ad142, A142_3, c142_3, e142, hx142_0, hx142_1, hx142_2, hx142_3, hl142_3, hi142_3⟩ := at_T33 HR0_3.out x4_1 p142 q142
        cases e142
        replace hx142_0 := hcB HB.out hx142_0
        replace hx142_1 := hcB HB.out hx142_1
        replace hx142_2 := hcB HB.out hx142_2
        replace hx142_3 := hcB HB.out hx142_3
        have HR142_3 := Aside0.mk hi142_3
        have HC142_3 := Aside0.mk hl142_3
        clear hi142_3 hl142_3
        replace p142 := eq_true p142
        replace q142 := eq_true q142
        go_wp2_with (first | (refine gF 58 28 Tryd.func58 #[.agg #[.int .i64 ((rd_T33 l0_3 x4_1).f0), .string ((rd_T33 l0_3 x4_1).f1), .int .i64 ((rd_T33 l0_3 x4_1).f2), .slice A142_3 ((rd_T33 l0_3 x4_1).f3).length c142_3]] rfl rfl ?_; (with_reducible refine (ih k1 (by have := HK1.out; omega) ((rd_T33 l0_3 x4_1).f0) ((rd_T33 l0_3 x4_1).f1) ((rd_T33 l0_3 x4_1).f2) _ _ ((rd_T33 l0_3 x4_1).f3) t143 _ (TIs.on HTI) ?side1 ?side2 A14.out).mono ?_); (case side1 => exact cU (Kd.C_below HR142_3.out HB.out)); (case side2 => exact HC142_3.out); rintro e w17 ⟨rfl, hb⟩; refine ⟨_, rfl, ?_⟩; have n_ := aC (blk_below (bU BK139.out) hb) (aE (bs hb)); clear BK139 HB; obtain ⟨BK139, HB⟩ := n_))
        go_roundg k1
        case measure => have := HK1.out; omega
        case rel => exact ⟨(x3_1 ++ t143), (wrap64 (x4_1 + 1)), rq, rq, H', ⟨by have := HK1.out; omega⟩, ⟨bU BK139.out⟩, ⟨bl⟩⟩
       ·rw [if_neg c15] at H
        exact absurd H (by simp)
      ·rw [if_neg c13] at H
       exact absurd H (by simp)
    ·by_cases c18 : x3_1.size + 1 ≤ 9223372036854775807
     ·rw [if_pos c18] at H
      have c18b0 := eq_true c18
      try (have c18b9 := c18; simp [show (⟨#[32]⟩ : ByteArray).size = 1 from rfl, show (⟨#[40]⟩ : ByteArray).size = 1 from rfl, show (⟨#[41]⟩ : ByteArray).size = 1 from rfl] at c18b9; have c18b8 := eq_true c18b9; have c18b7 := eq_false (Nat.not_lt.2 c18b9))
      have c18b1 := decide_eq_true c18
      try have c18b2 : (9223372036854775807 < x3_1.size + 1) = False := eq_false (Nat.not_lt.2 c18)
      obtain rfl := Option.some.inj H
      obtain ⟨hcz19_0, hcz19_1, hcz19_2, hcz19_3, hfz19_0, hfz19_1, hfz19_2, hfz19_3⟩ := cz4f BK139.out
      go_wp2
      go_ret
      exact ⟨re, bl⟩
     ·rw [if_neg c18] at H
      exact absurd H (by simp)
 ·rcases iE H with H1 | H1 <;> clear H <;> obtain ⟨H, c20b0, c20b1, c20⟩ := H1
  ·obtain rfl := Option.some.inj H
   go_enter Tryd.func58, Tryd.ntmps58
   go_wp2_with (first | ((with_reducible refine gd 1 rfl ?_); refine bx 1 #[.int .i64 a0_0, .string a0_1, .int .i64 a0_2, .slice A0_3 l0_3.length c0_3] 33 rfl rfl ?_; intro gb139 hg w21 hbox hb; have n_ := aC (bs hb) (aC hbox (aC (gz hg) (aE (gz hg)))); clear HB; obtain ⟨HB, BK139, GW139, GE139⟩ := n_; clear hb hbox hg; obtain ⟨hcz22_0, hcz22_1, hcz22_2, hcz22_3, hfz22_0, hfz22_1, hfz22_2, hfz22_3⟩ := cz4f BK139.out))
   go_ret
   exact ⟨re, bl⟩
  ·rcases iE H with H1 | H1 <;> clear H <;> obtain ⟨H, c23b0, c23b1, c23⟩ := H1
   ·obtain ⟨t144, A24, H⟩ := oB H
    try dsimp only at H
    obtain rfl := Option.some.inj H
    go_enter Tryd.func58, Tryd.ntmps58
    go_wp2_with (first | ((with_reducible refine gd 1 rfl ?_); refine bx 1 #[.int .i64 a0_0, .string a0_1, .int .i64 a0_2, .slice A0_3 l0_3.length c0_3] 33 rfl rfl ?_; intro gb139 hg w25 hbox hb; have n_ := aC (bs hb) (aC hbox (aC (gz hg) (aE (gz hg)))); clear HB; obtain ⟨HB, BK139, GW139, GE139⟩ := n_; clear hb hbox hg; obtain ⟨hcz26_0, hcz26_1, hcz26_2, hcz26_3, hfz26_0, hfz26_1, hfz26_2, hfz26_3⟩ := cz4f BK139.out) | (refine gF 79 40 Tryd.func79 #[.int .i64 a0_2] rfl rfl ?_; (with_reducible refine (strconv_Itoa_79.calls a0_2 t144 _ (TIs.on HTI) A24.out).mono ?_); rintro e w27 ⟨rfl, hb⟩; refine ⟨_, rfl, ?_⟩; have n_ := aC (blk_below (bU BK139.out) hb) (aE (bs hb)); clear BK139 HB; obtain ⟨BK139, HB⟩ := n_))
    go_ret
    exact ⟨re, bl⟩
   ·obtain ⟨y145, hy_⟩ : ∃ y_ : List Int, y_ = (([34] : List Int)) := ⟨_, rfl⟩
    replace H : (incunableref25_Text.l1 k y145 0 a0_0 a0_1 a0_2 l0_3) = some r := rh
    have Ny145 := aE hy_
    clear hy_
    have H' := Aside0.mk H
    clear H
    go_enter Tryd.func58, Tryd.ntmps58
    go_wp2_with (first | ((with_reducible refine gd 1 rfl ?_); refine bx 1 #[.int .i64 a0_0, .string a0_1, .int .i64 a0_2, .slice A0_3 l0_3.length c0_3] 33 rfl rfl ?_; intro gb139 hg w28 hbox hb; have n_ := aC (bs hb) (aC hbox (aC (gz hg) (aE (gz hg)))); clear HB; obtain ⟨HB, BK139, GW139, GE139⟩ := n_; clear hb hbox hg; obtain ⟨hcz29_0, hcz29_1, hcz29_2, hcz29_3, hfz29_0, hfz29_1, hfz29_2, hfz29_3⟩ := cz4f BK139.out) | ((with_reducible refine gd 41 rfl ?_); refine Kd.R_lit (Kd.int .u8) _ 5 ?hg (N := 41) ?hd (xs := ([34] : List Int)) (inner := [.int .u8 34]) (ok := fun _ => True) (okp := fun _ => True) ?hr ?hp (fun _ hk => hk) trivial (Below.refl _ _) (Nat.le_refl _) (by simp) ?_; (case hd => rfl); (case hg => rfl); (case hr => first | (go_simp; done) | (go_simp; rfl)); (case hp => exact (Reps.one (show Kd.M (Kd.int .u8) _ _ _ 34 [.int .u8 34] from rfl) (Reps.none _ _))); intro v146 w30 ho31 hb hg_ hnew_; clear hg_ hnew_; (first | rw [← Ny145.out] at ho31 | (simp only [Int.reduceToNat] at ho31; rw [← Ny145.out] at ho31)); have n_ := aC (Kd.R_lower ho31 bz) (aC (blk_below (bU BK139.out) hb) (aE (bs hb))); clear BK139 HB; obtain ⟨HO147, BK139, HB⟩ := n_; clear hb ho31))
    go_loopg [5, 6] k (fun kq v5 v6 w' => ∃ (x5_1 : List Int) (x6_1 : Int), v6 = .int .i64 x6_1 ∧ Aside0 (incunableref25_Text.l1 kq x5_1 x6_1 a0_0 a0_1 a0_2 l0_3 = some r) ∧ Aside0 (kq ≤ k) ∧ Aside0 (Kd.R (Kd.int .u8) 5 w' w.heap.size (fun _ => True) v5 x5_1) ∧ Aside0 (w'.heap[gb139]? = some (.cells #[.int .i64 a0_0, .string a0_1, .int .i64 a0_2, (.slice A0_3 l0_3.length c0_3)] 33 (0, 0))) ∧ Aside0 (Below w.heap.size w w'))
    case atStart => exact ⟨(y145), (0), rq, H', ⟨Nat.le_refl _⟩, ⟨rU HO147.out⟩, ⟨bU BK139.out⟩, ⟨bl⟩⟩
    case round =>
     clear H'
     obtain ⟨x5_1, x6_1, rfl, HA, HK1, HO_5, BK139, HB⟩ := hrel
     cases gk with
     | zero => exact absurd HA.out (by simp [incunableref25_Text.l1])
     | succ k1 =>
      have H := HA.out
      clear HA
      simp only [incunableref25_Text.l1] at H
      rcases iL H with H1 | H1 <;> clear H <;> obtain ⟨H, c32b0⟩ := H1
      ·by_cases c33 : 0 ≤ x6_1
       ·rw [if_pos c33] at H
        have c33b0 := decide_eq_true c33
        clear c33
        rcases iE H with H1 | H1 <;> clear H <;> obtain ⟨H, c35b0, c35b1, c35⟩ := H1
        ·by_cases c36 : x5_1.length < 140737488355328
         ·rw [if_pos c36] at H
          have LMc36 := Aside0.mk c36
          clear c36
          obtain ⟨y148, hy_⟩ : ∃ y_ : List Int, y_ = (x5_1 ++ [92]) := ⟨_, rfl⟩
          replace H : (if y148.length < 140737488355328 then (incunableref25_Text.l1 k1 (y148 ++ [bt a0_1 x6_1]) (wrap64 (x6_1 + 1)) a0_0 a0_1 a0_2 l0_3) else (none)) = some r := rh
          have Ny148 := aE hy_
          clear hy_
          by_cases c38 : y148.length < 140737488355328
          ·rw [if_pos c38] at H
           have LMc38 := Aside0.mk c38
           clear c38
           obtain ⟨y151, hy_⟩ : ∃ y_ : List Int, y_ = (y148 ++ [bt a0_1 x6_1]) := ⟨_, rfl⟩
           replace H : (incunableref25_Text.l1 k1 y151 (wrap64 (x6_1 + 1)) a0_0 a0_1 a0_2 l0_3) = some r := rh
           have Ny151 := aE hy_
           clear hy_
           have H' := Aside0.mk H
           clear H
           obtain ⟨hcz39_0, hcz39_1, hcz39_2, hcz39_3, hfz39_0, hfz39_1, hfz39_2, hfz39_3⟩ := cz4f BK139.out
           have p34 : 0 ≤ (x6_1 : Int) := dt
           have q34 : x6_1 < (a0_1.size : Int) := dt
           have hx34 := bt_at a0_1 x6_1
           replace p34 := eq_true p34
           replace q34 := eq_true q34
           go_wp2_with (first | ((with_reducible refine gate_builtin (b := .append) (xs := #[.tmp 61, .tmp 62]) rfl ?_); at_builtin; refine Kd.R_append (Kd.int .u8) (w0 := w) w.heap.size rfl (.tmp 61) (.tmp 62) 44 5 (.int .u8 0) 1 rfl Tryd.underlying44 info5 rfl (by decide) (by omega) u5 x5_1 92 [.int .u8 92] (fun _ => True) (fun _ => False) rfl rfl ?aP (fun _ hk => hk.elim) ?aF ?aO ?aB ?aS ?aL ?_; (case aP => exact rfl); (case aB => exact bl); (case aF => exact (fun _ _ => trivial)); (case aO => exact (rU HO_5.out)); (case aS => exact bz); (case aL => have := LMc36.out; omega); intro v149 w40 ho hb hg hat; rw [← Ny148.out] at ho; have n_ := aC (blk_grown (bU BK139.out) hg (Kd.R_ne HO_5.out BK139.out (by decide))) (aC hb (aE ho)); clear BK139 HB HO_5; obtain ⟨BK139, HB, HO150⟩ := n_; clear ho hb hg hat; obtain ⟨hcz41_0, hcz41_1, hcz41_2, hcz41_3, hfz41_0, hfz41_1, hfz41_2, hfz41_3⟩ := cz4f BK139.out; have p37 : 0 ≤ (x6_1 : Int) := dt; have q37 : x6_1 < (a0_1.size : Int) := dt; have hx37 := bt_at a0_1 x6_1; replace p37 := eq_true p37; replace q37 := eq_true q37) | ((with_reducible refine gate_builtin (b := .append) (xs := #[.tmp 64, .tmp 69]) rfl ?_); at_builtin; refine Kd.R_append (Kd.int .u8) (w0 := w) w.heap.size rfl (.tmp 64) (.tmp 69) 44 5 (.int .u8 0) 1 rfl Tryd.underlying44 info5 rfl (by decide) (by omega) v149 y148 (bt a0_1 x6_1) [.int .u8 (bt a0_1 x6_1)] (fun _ => True) (fun _ => False) rfl rfl ?aP (fun _ hk => hk.elim) ?aF ?aO ?aB ?aS ?aL ?_; (case aP => exact rfl); (case aB => exact bl); (case aF => exact (fun _ _ => trivial)); (case aO => exact (rU HO150.out)); (case aS => exact bz); (case aL => have := LMc38.out; omega); intro v152 w42 ho hb hg hat; rw [← Ny151.out] at ho; have n_ := aC (blk_grown (bU BK139.out) hg (Kd.R_ne HO150.out BK139.out (by decide))) (aC hb (aE ho)); clear BK139 HB HO150; obtain ⟨BK139, HB, HO153⟩ := n_; clear ho hb hg hat))
           go_roundg k1
           case measure => have := HK1.out; omega
           case rel => exact ⟨(y151), (wrap64 (x6_1 + 1)), rq, H', ⟨by have := HK1.out; omega⟩, ⟨rU HO153.out⟩, ⟨bU BK139.out⟩, ⟨bl⟩⟩
          ·rw [if_neg c38] at H
           exact absurd H (by simp)
         ·rw [if_neg c36] at H
          exact absurd H (by simp)
        ·rcases iE H with H1 | H1 <;> clear H <;> obtain ⟨H, c44b0, c44b1, c44⟩ := H1
         ·by_cases c45 : x5_1.length < 140737488355328
          ·rw [if_pos c45] at H
           have LMc45 := Aside0.mk c45
           clear c45
           obtain ⟨y154, hy_⟩ : ∃ y_ : List Int, y_ = (x5_1 ++ [92]) := ⟨_, rfl⟩
           replace H : (if y154.length < 140737488355328 then (incunableref25_Text.l1 k1 (y154 ++ [bt a0_1 x6_1]) (wrap64 (x6_1 + 1)) a0_0 a0_1 a0_2 l0_3) else (none)) = some r := rh
           have Ny154 := aE hy_
           clear hy_
           by_cases c47 : y154.length < 140737488355328
           ·rw [if_pos c47] at H
            have LMc47 := Aside0.mk c47
            clear c47
            obtain ⟨y157, hy_⟩ : ∃ y_ : List Int, y_ = (y154 ++ [bt a0_1 x6_1]) := ⟨_, rfl⟩
            replace H : (incunableref25_Text.l1 k1 y157 (wrap64 (x6_1 + 1)) a0_0 a0_1 a0_2 l0_3) = some r := rh
            have Ny157 := aE hy_
            clear hy_
            have H' := Aside0.mk H
            clear H
            obtain ⟨hcz48_0, hcz48_1, hcz48_2, hcz48_3, hfz48_0, hfz48_1, hfz48_2, hfz48_3⟩ := cz4f BK139.out
            have p34 : 0 ≤ (x6_1 : Int) := dt
            have q34 : x6_1 < (a0_1.size : Int) := dt
            have hx34 := bt_at a0_1 x6_1
            replace p34 := eq_true p34
            replace q34 := eq_true q34
            have p43 : 0 ≤ (x6_1 : Int) := dt
            have q43 : x6_1 < (a0_1.size : Int) := dt
            have hx43 := bt_at a0_1 x6_1
            replace p43 := eq_true p43
            replace q43 := eq_true q43
            go_wp2_with (first | ((with_reducible refine gate_builtin (b := .append) (xs := #[.tmp 61, .tmp 62]) rfl ?_); at_builtin; refine Kd.R_append (Kd.int .u8) (w0 := w) w.heap.size rfl (.tmp 61) (.tmp 62) 44 5 (.int .u8 0) 1 rfl Tryd.underlying44 info5 rfl (by decide) (by omega) u5 x5_1 92 [.int .u8 92] (fun _ => True) (fun _ => False) rfl rfl ?aP (fun _ hk => hk.elim) ?aF ?aO ?aB ?aS ?aL ?_; (case aP => exact rfl); (case aB => exact bl); (case aF => exact (fun _ _ => trivial)); (case aO => exact (rU HO_5.out)); (case aS => exact bz); (case aL => have := LMc45.out; omega); intro v155 w49 ho hb hg hat; rw [← Ny154.out] at ho; have n_ := aC (blk_grown (bU BK139.out) hg (Kd.R_ne HO_5.out BK139.out (by decide))) (aC hb (aE ho)); clear BK139 HB HO_5; obtain ⟨BK139, HB, HO156⟩ := n_; clear ho hb hg hat; obtain ⟨hcz50_0, hcz50_1, hcz50_2, hcz50_3, hfz50_0, hfz50_1, hfz50_2, hfz50_3⟩ := cz4f BK139.out; have p46 : 0 ≤ (x6_1 : Int) := dt; have q46 : x6_1 < (a0_1.size : Int) := dt; have hx46 := bt_at a0_1 x6_1; replace p46 := eq_true p46; replace q46 := eq_true q46) | ((with_reducible refine gate_builtin (b := .append) (xs := #[.tmp 64, .tmp 69]) rfl ?_); at_builtin; refine Kd.R_append (Kd.int .u8) (w0 := w) w.heap.size rfl (.tmp 64) (.tmp 69) 44 5 (.int .u8 0) 1 rfl Tryd.underlying44 info5 rfl (by decide) (by omega) v155 y154 (bt a0_1 x6_1) [.int .u8 (bt a0_1 x6_1)] (fun _ => True) (fun _ => False) rfl rfl ?aP (fun _ hk => hk.elim) ?aF ?aO ?aB ?aS ?aL ?_; (case aP => exact rfl); (case aB => exact bl); (case aF => exact (fun _ _ => trivial)); (case aO => exact (rU HO156.out)); (case aS => exact bz); (case aL => have := LMc47.out; omega); intro v158 w51 ho hb hg hat; rw [← Ny157.out] at ho; have n_ := aC (blk_grown (bU BK139.out) hg (Kd.R_ne HO156.out BK139.out (by decide))) (aC hb (aE ho)); clear BK139 HB HO156; obtain ⟨BK139, HB, HO159⟩ := n_; clear ho hb hg hat))
            go_roundg k1
            case measure => have := HK1.out; omega
            case rel => exact ⟨(y157), (wrap64 (x6_1 + 1)), rq, H', ⟨by have := HK1.out; omega⟩, ⟨rU HO159.out⟩, ⟨bU BK139.out⟩, ⟨bl⟩⟩
           ·rw [if_neg c47] at H
            exact absurd H (by simp)
          ·rw [if_neg c45] at H
           exact absurd H (by simp)
         ·by_cases c53 : x5_1.length < 140737488355328
          ·rw [if_pos c53] at H
           have LMc53 := Aside0.mk c53
           clear c53
           obtain ⟨y160, hy_⟩ : ∃ y_ : List Int, y_ = (x5_1 ++ [bt a0_1 x6_1]) := ⟨_, rfl⟩
           replace H : (incunableref25_Text.l1 k1 y160 (wrap64 (x6_1 + 1)) a0_0 a0_1 a0_2 l0_3) = some r := rh
           have Ny160 := aE hy_
           clear hy_
           have H' := Aside0.mk H
           clear H
           obtain ⟨hcz54_0, hcz54_1, hcz54_2, hcz54_3, hfz54_0, hfz54_1, hfz54_2, hfz54_3⟩ := cz4f BK139.out
           have p34 : 0 ≤ (x6_1 : Int) := dt
           have q34 : x6_1 < (a0_1.size : Int) := dt
           have hx34 := bt_at a0_1 x6_1
           replace p34 := eq_true p34
           replace q34 := eq_true q34
           have p43 : 0 ≤ (x6_1 : Int) := dt
           have q43 : x6_1 < (a0_1.size : Int) := dt
           have hx43 := bt_at a0_1 x6_1
           replace p43 := eq_true p43
           replace q43 := eq_true q43
           have p52 : 0 ≤ (x6_1 : Int) := dt
           have q52 : x6_1 < (a0_1.size : Int) := dt
           have hx52 := bt_at a0_1 x6_1
           replace p52 := eq_true p52
           replace q52 := eq_true q52
           go_wp2_with (first | ((with_reducible refine gate_builtin (b := .append) (xs := #[.tmp 64, .tmp 69]) rfl ?_); at_builtin; refine Kd.R_append (Kd.int .u8) (w0 := w) w.heap.size rfl (.tmp 64) (.tmp 69) 44 5 (.int .u8 0) 1 rfl Tryd.underlying44 info5 rfl (by decide) (by omega) u5 x5_1 (bt a0_1 x6_1) [.int .u8 (bt a0_1 x6_1)] (fun _ => True) (fun _ => False) rfl rfl ?aP (fun _ hk => hk.elim) ?aF ?aO ?aB ?aS ?aL ?_; (case aP => exact rfl); (case aB => exact bl); (case aF => exact (fun _ _ => trivial)); (case aO => exact (rU HO_5.out)); (case aS => exact bz); (case aL => have := LMc53.out; omega); intro v161 w55 ho hb hg hat; rw [← Ny160.out] at ho; have n_ := aC (blk_grown (bU BK139.out) hg (Kd.R_ne HO_5.out BK139.out (by decide))) (aC hb (aE ho)); clear BK139 HB HO_5; obtain ⟨BK139, HB, HO162⟩ := n_; clear ho hb hg hat))
           go_roundg k1
           case measure => have := HK1.out; omega
           case rel => exact ⟨(y160), (wrap64 (x6_1 + 1)), rq, H', ⟨by have := HK1.out; omega⟩, ⟨rU HO162.out⟩, ⟨bU BK139.out⟩, ⟨bl⟩⟩
          ·rw [if_neg c53] at H
           exact absurd H (by simp)
       ·rw [if_neg c33] at H
        exact absurd H (by simp)
      ·by_cases c56 : x5_1.length < 140737488355328
       ·rw [if_pos c56] at H
        have LMc56 := Aside0.mk c56
        clear c56
        obtain ⟨y163, hy_⟩ : ∃ y_ : List Int, y_ = (x5_1 ++ [34]) := ⟨_, rfl⟩
        replace H : (some (strOfNums y163)) = some r := rh
        have Ny163 := aE hy_
        clear hy_
        obtain rfl := Option.some.inj H
        obtain ⟨hcz57_0, hcz57_1, hcz57_2, hcz57_3, hfz57_0, hfz57_1, hfz57_2, hfz57_3⟩ := cz4f BK139.out
        go_wp2_with (first | ((with_reducible refine gate_builtin (b := .append) (xs := #[.tmp 71, .tmp 72]) rfl ?_); at_builtin; refine Kd.R_append (Kd.int .u8) (w0 := w) w.heap.size rfl (.tmp 71) (.tmp 72) 44 5 (.int .u8 0) 1 rfl Tryd.underlying44 info5 rfl (by decide) (by omega) u5 x5_1 34 [.int .u8 34] (fun _ => True) (fun _ => False) rfl rfl ?aP (fun _ hk => hk.elim) ?aF ?aO ?aB ?aS ?aL ?_; (case aP => exact rfl); (case aB => exact bl); (case aF => exact (fun _ _ => trivial)); (case aO => exact (rU HO_5.out)); (case aS => exact bz); (case aL => have := LMc56.out; omega); intro v164 w58 ho hb hg hat; rw [← Ny163.out] at ho; have n_ := aC (blk_grown (bU BK139.out) hg (Kd.R_ne HO_5.out BK139.out (by decide))) (aC hb (aE ho)); clear BK139 HB HO_5; obtain ⟨BK139, HB, HO165⟩ := n_; clear ho hb hg hat; have hcv59 := own_string (P := Tryd.prog) Tryd.underlying44 Tryd.underlying5 Tryd.underlying9 (Kd.own_of_R HO165.out)))
        go_ret
        exact ⟨re, bl⟩
       ·rw [if_neg c56] at H
        exact absurd H (by simp)
def incunableref25_Format.f (k : Nat) (a0_0 : Int) (a0_1 : ByteArray) (a0_2 : Int) (l0_3 : List (S33)) : Option (ByteArray × Int) := (incunableref25_Valid.f k a0_0 a0_1 a0_2 l0_3).bind fun t167 => (if t167 = true then ((incunableref25_Text.f k a0_0 a0_1 a0_2 l0_3).bind fun t168 => (some (t168, 0))) else (some ((⟨#[]⟩ : ByteArray), 95)))
theorem incunableref25_Format.mono : ∀ a0 a1 a2 a3 k, LeO (incunableref25_Format.f k a0 a1 a2 a3) (incunableref25_Format.f (k + 1) a0 a1 a2 a3) := by
 intro a0 a1 a2 a3 k
 unfold incunableref25_Format.f
 repeat' first
   | (with_reducible exact incunableref25_Text.mono _ _ _ _ _)
   | (with_reducible exact incunableref25_Valid.mono _ _ _ _ _)
   | (with_reducible first | exact LeO.refl _ | exact LeO.none _ | refine LeO.ite ?_ ?_ | refine LeO.bind ?_ (fun _ => ?_))
set_option maxHeartbeats 8000000 in
set_option maxRecDepth 100000 in
theorem incunableref25_Format.calls (k : Nat) (a0_0 : Int) (a0_1 : ByteArray) (a0_2 : Int) (A0_3 : Option Addr) (c0_3 : Nat) (l0_3 : List (S33)) (r1 : ByteArray) (r2 : Int) (w : World) (hT0 : TIs w) (hr0_3 : Kd.C k33 w A0_3 l0_3.length l0_3) (hc0_3 : l0_3.length ≤ c0_3) (h : incunableref25_Format.f k a0_0 a0_1 a0_2 l0_3 = some (r1, r2)) :
  Calls Tryd.prog 32 #[.agg #[.int .i64 a0_0, .string a0_1, .int .i64 a0_2, .slice A0_3 l0_3.length c0_3]] w fun e w' => e = .returned (.tuple #[.string r1, .int .i64 r2]) ∧ Below w.heap.size w w' := by
 have HTI := Aside0.mk hT0
 clear hT0
 have hu33 := Tryd.underlying33
 have HR0_3 := Aside0.mk hr0_3
 have HC0_3 := Aside0.mk hc0_3
 clear hr0_3 hc0_3
 have HB := Aside0.mk (Below.refl w.heap.size w)
 have H := h
 unfold incunableref25_Format.f at H
 clear h
 obtain ⟨t167, A2, H⟩ := oB H
 try dsimp only at H
 by_cases c3 : t167 = true
 ·subst c3
  rw [if_pos rfl] at H
  obtain ⟨t168, A4, H⟩ := oB H
  try dsimp only at H
  simp only [Option.some.injEq, Prod.mk.injEq] at H
  obtain ⟨rfl, rfl⟩ := H
  go_enter Tryd.func32, Tryd.ntmps32
  go_wp2_with (first | ((with_reducible refine gd 1 rfl ?_); refine bx 1 #[.int .i64 a0_0, .string a0_1, .int .i64 a0_2, .slice A0_3 l0_3.length c0_3] 33 rfl rfl ?_; intro gb166 hg w5 hbox hb; have n_ := aC (bs hb) (aC hbox (aC (gz hg) (aE (gz hg)))); clear HB; obtain ⟨HB, BK166, GW166, GE166⟩ := n_; clear hb hbox hg; obtain ⟨hcz6_0, hcz6_1, hcz6_2, hcz6_3, hfz6_0, hfz6_1, hfz6_2, hfz6_3⟩ := cz4f BK166.out) | (refine gF 34 5 Tryd.func34 #[.agg #[.int .i64 a0_0, .string a0_1, .int .i64 a0_2, .slice A0_3 l0_3.length c0_3]] rfl rfl ?_; (with_reducible refine (incunableref25_Valid.calls k a0_0 a0_1 a0_2 _ _ l0_3 true _ ?side1 ?side2 A2.out).mono ?_); (case side1 => exact cU (Kd.C_below HR0_3.out HB.out)); (case side2 => exact HC0_3.out); rintro e w7 ⟨rfl, hb⟩; refine ⟨_, rfl, ?_⟩; have n_ := aC (blk_below (bU BK166.out) hb) (aE (bs hb)); clear BK166 HB; obtain ⟨BK166, HB⟩ := n_; obtain ⟨hcz8_0, hcz8_1, hcz8_2, hcz8_3, hfz8_0, hfz8_1, hfz8_2, hfz8_3⟩ := cz4f BK166.out) | (refine gF 58 8 Tryd.func58 #[.agg #[.int .i64 a0_0, .string a0_1, .int .i64 a0_2, .slice A0_3 l0_3.length c0_3]] rfl rfl ?_; (with_reducible refine (incunableref25_Text.calls k a0_0 a0_1 a0_2 _ _ l0_3 t168 _ (TIs.on HTI) ?side1 ?side2 A4.out).mono ?_); (case side1 => exact cU (Kd.C_below HR0_3.out HB.out)); (case side2 => exact HC0_3.out); rintro e w9 ⟨rfl, hb⟩; refine ⟨_, rfl, ?_⟩; have n_ := aC (blk_below (bU BK166.out) hb) (aE (bs hb)); clear BK166 HB; obtain ⟨BK166, HB⟩ := n_))
  go_ret2
  exact ⟨re, bl⟩
 ·replace c3 := Bool.eq_false_iff.mpr c3
  subst c3
  rw [if_neg Bool.false_ne_true] at H
  simp only [Option.some.injEq, Prod.mk.injEq] at H
  obtain ⟨rfl, rfl⟩ := H
  go_enter Tryd.func32, Tryd.ntmps32
  go_wp2_with (first | ((with_reducible refine gd 1 rfl ?_); refine bx 1 #[.int .i64 a0_0, .string a0_1, .int .i64 a0_2, .slice A0_3 l0_3.length c0_3] 33 rfl rfl ?_; intro gb166 hg w10 hbox hb; have n_ := aC (bs hb) (aC hbox (aC (gz hg) (aE (gz hg)))); clear HB; obtain ⟨HB, BK166, GW166, GE166⟩ := n_; clear hb hbox hg; obtain ⟨hcz11_0, hcz11_1, hcz11_2, hcz11_3, hfz11_0, hfz11_1, hfz11_2, hfz11_3⟩ := cz4f BK166.out) | (refine gF 34 5 Tryd.func34 #[.agg #[.int .i64 a0_0, .string a0_1, .int .i64 a0_2, .slice A0_3 l0_3.length c0_3]] rfl rfl ?_; (with_reducible refine (incunableref25_Valid.calls k a0_0 a0_1 a0_2 _ _ l0_3 false _ ?side1 ?side2 A2.out).mono ?_); (case side1 => exact cU (Kd.C_below HR0_3.out HB.out)); (case side2 => exact HC0_3.out); rintro e w12 ⟨rfl, hb⟩; refine ⟨_, rfl, ?_⟩; have n_ := aC (blk_below (bU BK166.out) hb) (aE (bs hb)); clear BK166 HB; obtain ⟨BK166, HB⟩ := n_))
  go_ret2
  exact ⟨re, bl⟩
end Go.Proofs.YtacdchogjpeffaaDoor.PNoteFormats
