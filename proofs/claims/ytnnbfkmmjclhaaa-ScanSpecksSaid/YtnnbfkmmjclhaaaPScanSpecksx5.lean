-- printed (wip/tools/myprint.py)
import Derived.Test.YtnnbfkmmjclhaaaPScanSpecksx0
import Derived.Test.YtnnbfkmmjclhaaaPScanSpecksx1
import Derived.Test.YtnnbfkmmjclhaaaPScanSpecksx4
namespace Go.Proofs.Ytnnbfkmmjclhaaa.PScanSpecks
open Go.RowKit Go.Proofs.YtnnbfkmmjclhaaaW.PrintWords Go.Proofs.YtnnbfkmmjclhaaaW.PrintLast Go.Proofs.YtnnbfkmmjclhaaaW.PrintMore
attribute [local go_sem] max2_int min2_int max_two min_two max_three min_three max_four min_four
set_option linter.unusedVariables false
set_option linter.unusedSimpArgs false
def scan_Despeckle_1.f (k : Nat) (a0_0 : Int) (a0_1 : Int) (l0_2 : List Int) (a0_3 : Int) (a0_4 : Int) (a1_0 : Int) : Option (Bool) := (bitmap_Count.f k a0_0 a0_1 l0_2).bind fun bt223 => (some (decide (bt223.1 ≤ a1_0)))
theorem scan_Despeckle_1.mono : ∀ a0 a1 a2 a3 a4 a5 k, LeO (scan_Despeckle_1.f k a0 a1 a2 a3 a4 a5) (scan_Despeckle_1.f (k + 1) a0 a1 a2 a3 a4 a5) := by
 intro a0 a1 a2 a3 a4 a5 k
 unfold scan_Despeckle_1.f
 repeat' first
   | (with_reducible exact bitmap_Count.mono _ _ _ _)
   | (with_reducible first | exact LeO.refl _ | exact LeO.none _ | refine LeO.ite ?_ ?_ | refine LeO.bind ?_ (fun _ => ?_))
set_option maxHeartbeats 8000000 in
set_option maxRecDepth 100000 in
theorem scan_Despeckle_1.calls (k : Nat) (a0_0 : Int) (a0_1 : Int) (A0_2 : Option Addr) (c0_2 : Nat) (l0_2 : List Int) (a0_3 : Int) (a0_4 : Int) (b1_0 : Nat) (a1_0 : Int) (r : Bool) (w : World) (hr0_2 : Kd.C (Kd.int .u8) w A0_2 l0_2.length l0_2) (hc0_2 : l0_2.length ≤ c0_2) (hbx1_0 : w.heap[b1_0]? = some (.cells #[.int .i64 a1_0] 3 (0, 0))) (h : scan_Despeckle_1.f k a0_0 a0_1 l0_2 a0_3 a0_4 a1_0 = some r) :
  Calls Try.prog 15 #[.agg #[.int .i64 a0_0, .int .i64 a0_1, .slice A0_2 l0_2.length c0_2, .int .i64 a0_3, .int .i64 a0_4], .pointer (some ⟨b1_0, 0, none⟩)] w fun e w' => e = .returned (.bool r) ∧ Below w.heap.size w w' := by
 have hu35 := Try.underlying35
 have hu24 := Try.underlying24
 have HR0_2 := Aside0.mk hr0_2
 have HC0_2 := Aside0.mk hc0_2
 clear hr0_2 hc0_2
 have BK221 := Aside0.mk hbx1_0
 clear hbx1_0
 have HB := Aside0.mk (Below.refl w.heap.size w)
 have H : ((bitmap_Count.f k a0_0 a0_1 l0_2).bind fun bt223 => (some (decide (bt223.1 ≤ a1_0)))) = some r := h
 clear h
 obtain ⟨⟨t223, t224⟩, A3, H⟩ := oB H
 try dsimp only at H
 obtain rfl := Option.some.inj H
 go_enter Try.func15, Try.ntmps15
 go_wp2_with (first | ((with_reducible refine gd 2 rfl ?_); refine bx 2 #[.int .i64 a0_0, .int .i64 a0_1, .slice A0_2 l0_2.length c0_2, .int .i64 a0_3, .int .i64 a0_4] 35 rfl rfl ?_; intro gb222 hg w4 hbox hb; have n_ := aC (blk_below (bU BK221.out) hb) (aC (bs hb) (aC hbox (aC (gz hg) (aC (gz hg) (aC ((by rw [hg]; exact Nat.ne_of_lt (blk_lt (bU BK221.out)) : b1_0 ≠ gb222)) (aE ((by rw [hg]; exact Nat.ne_of_gt (blk_lt (bU BK221.out)) : gb222 ≠ b1_0)))))))); clear BK221 HB; obtain ⟨BK221, HB, BK222, GW222, GE222, NB221_222, NB222_221⟩ := n_; clear hb hbox hg; have hnb5 := NB222_221.out; have hnc5 := NB221_222.out; obtain ⟨hcz6_0, hcz6_1, hcz6_2, hcz6_3, hcz6_4, hfz6_0, hfz6_1, hfz6_2, hfz6_3, hfz6_4⟩ := cz5f BK222.out) | ((with_reducible refine gf 16 rfl ?_); refine gL (some 9) rfl rfl Try.func16 rfl #[.agg #[.int .i64 a0_0, .int .i64 a0_1, .slice A0_2 l0_2.length c0_2]] rfl ?_; (with_reducible refine (bitmap_Count.calls k a0_0 a0_1 _ _ l0_2 t223 t224 _ ?side1 ?side2 A3.out).mono ?_); (case side1 => exact cU (Kd.C_below HR0_2.out HB.out)); (case side2 => exact HC0_2.out); rintro e w7 ⟨rfl, hb⟩; refine ⟨_, rfl, ?_⟩; have n_ := aC (blk_below (bU BK221.out) hb) (aC (blk_below (bU BK222.out) hb) (aE (bs hb))); clear BK221 BK222 HB; obtain ⟨BK221, BK222, HB⟩ := n_; obtain ⟨hcz8_0, hfz8_0⟩ := cz1f BK221.out))
 go_ret
 exact ⟨re, bl⟩
def shape_rightPlaced_1.f (k : Nat) (a0_0 : Int) (a0_1 : Int) (l0_2 : List Int) (a0_3 : Int) (a0_4 : Int) : Option (Bool) := (bitmap_Valid.f k a0_0 a0_1 l0_2).bind fun t226 => (some (!t226))
theorem shape_rightPlaced_1.mono : ∀ a0 a1 a2 a3 a4 k, LeO (shape_rightPlaced_1.f k a0 a1 a2 a3 a4) (shape_rightPlaced_1.f (k + 1) a0 a1 a2 a3 a4) := by
 intro a0 a1 a2 a3 a4 k
 unfold shape_rightPlaced_1.f
 repeat' first
   | (with_reducible exact bitmap_Valid.mono _ _ _ _)
   | (with_reducible first | exact LeO.refl _ | exact LeO.none _ | refine LeO.ite ?_ ?_ | refine LeO.bind ?_ (fun _ => ?_))
set_option maxHeartbeats 8000000 in
set_option maxRecDepth 100000 in
theorem shape_rightPlaced_1.calls (k : Nat) (a0_0 : Int) (a0_1 : Int) (A0_2 : Option Addr) (c0_2 : Nat) (l0_2 : List Int) (a0_3 : Int) (a0_4 : Int) (r : Bool) (w : World) (hr0_2 : Kd.C (Kd.int .u8) w A0_2 l0_2.length l0_2) (hc0_2 : l0_2.length ≤ c0_2) (h : shape_rightPlaced_1.f k a0_0 a0_1 l0_2 a0_3 a0_4 = some r) :
  Calls Try.prog 45 #[.agg #[.int .i64 a0_0, .int .i64 a0_1, .slice A0_2 l0_2.length c0_2, .int .i64 a0_3, .int .i64 a0_4]] w fun e w' => e = .returned (.bool r) ∧ Below w.heap.size w w' := by
 have hu35 := Try.underlying35
 have hu24 := Try.underlying24
 have HR0_2 := Aside0.mk hr0_2
 have HC0_2 := Aside0.mk hc0_2
 clear hr0_2 hc0_2
 have HB := Aside0.mk (Below.refl w.heap.size w)
 have H : ((bitmap_Valid.f k a0_0 a0_1 l0_2).bind fun t226 => (some (!t226))) = some r := h
 clear h
 obtain ⟨t226, A2, H⟩ := oB H
 try dsimp only at H
 obtain rfl := Option.some.inj H
 go_enter Try.func45, Try.ntmps45
 go_wp2_with (first | ((with_reducible refine gd 1 rfl ?_); refine bx 1 #[.int .i64 a0_0, .int .i64 a0_1, .slice A0_2 l0_2.length c0_2, .int .i64 a0_3, .int .i64 a0_4] 35 rfl rfl ?_; intro gb225 hg w3 hbox hb; have n_ := aC (bs hb) (aC hbox (aC (gz hg) (aE (gz hg)))); clear HB; obtain ⟨HB, BK225, GW225, GE225⟩ := n_; clear hb hbox hg; obtain ⟨hcz4_0, hcz4_1, hcz4_2, hcz4_3, hcz4_4, hfz4_0, hfz4_1, hfz4_2, hfz4_3, hfz4_4⟩ := cz5f BK225.out) | ((with_reducible refine gf 24 rfl ?_); refine gL (some 5) rfl rfl Try.func24 rfl #[.agg #[.int .i64 a0_0, .int .i64 a0_1, .slice A0_2 l0_2.length c0_2]] rfl ?_; (with_reducible refine (bitmap_Valid.calls k a0_0 a0_1 _ _ l0_2 t226 _ ?side1 ?side2 A2.out).mono ?_); (case side1 => exact cU (Kd.C_below HR0_2.out HB.out)); (case side2 => exact HC0_2.out); rintro e w5 ⟨rfl, hb⟩; refine ⟨_, rfl, ?_⟩; have n_ := aC (blk_below (bU BK225.out) hb) (aE (bs hb)); clear BK225 HB; obtain ⟨BK225, HB⟩ := n_))
 go_ret
 exact ⟨re, bl⟩
def slices_IndexFunc_45.l0 : Nat → List (S35) → Int → Int → Option (Int)
 | 0, _, _, _ => none
 | k + 1, x0, x7, x8 => if x8 < x7 then (if 0 ≤ x8 then (if x8 < (x0.length : Int) then ((shape_rightPlaced_1.f k ((rd_T35 x0 x8).f0.f0) ((rd_T35 x0 x8).f0.f1) ((rd_T35 x0 x8).f0.f2) ((rd_T35 x0 x8).f1) ((rd_T35 x0 x8).f2)).bind fun t228 => (if t228 = true then (some x8) else (slices_IndexFunc_45.l0 k x0 x7 (wrap64 (x8 + 1))))) else (none)) else (none)) else (some (-1))
def slices_IndexFunc_45.f (k : Nat) (l0 : List (S35))  : Option (Int) := slices_IndexFunc_45.l0 k l0 (l0.length : Int) 0
theorem slices_IndexFunc_45.mono_l : ∀ k, (∀ y0 y1 y2, LeO (slices_IndexFunc_45.l0 k y0 y1 y2) (slices_IndexFunc_45.l0 (k + 1) y0 y1 y2))
 | 0 => fun _ _ _ r h => by simp [slices_IndexFunc_45.l0] at h
 | k + 1 => by
  have ih0 := slices_IndexFunc_45.mono_l k
  ·intro y0 y1 y2
   unfold slices_IndexFunc_45.l0
   repeat' first
   | (with_reducible exact ih0 _ _ _)
   | (with_reducible exact shape_rightPlaced_1.mono _ _ _ _ _ _)
   | (with_reducible first | exact LeO.refl _ | exact LeO.none _ | refine LeO.ite ?_ ?_ | refine LeO.bind ?_ (fun _ => ?_))
theorem slices_IndexFunc_45.mono : ∀ a0 k, LeO (slices_IndexFunc_45.f k a0) (slices_IndexFunc_45.f (k + 1) a0) := by
 intro a0 k
 have ih0 := slices_IndexFunc_45.mono_l k
 unfold slices_IndexFunc_45.f
 repeat' first
   | (with_reducible exact ih0 _ _ _)
   | (with_reducible exact shape_rightPlaced_1.mono _ _ _ _ _ _)
   | (with_reducible first | exact LeO.refl _ | exact LeO.none _ | refine LeO.ite ?_ ?_ | refine LeO.bind ?_ (fun _ => ?_))
set_option maxHeartbeats 8000000 in
set_option maxRecDepth 100000 in
theorem slices_IndexFunc_45.calls (k : Nat) (A0 : Option Addr) (c0 : Nat) (l0 : List (S35))  (r : Int) (w : World) (hr0 : Kd.C k35 w A0 l0.length l0) (hc0 : l0.length ≤ c0) (h : slices_IndexFunc_45.f k l0 = some r) :
  Calls Try.prog 26 #[.slice A0 l0.length c0, .func (.func 45) #[] #[]] w fun e w' => e = .returned (.int .i64 r) ∧ Below w.heap.size w w' := by
 have hu35 := Try.underlying35
 have HR0 := Aside0.mk hr0
 have HC0 := Aside0.mk hc0
 clear hr0 hc0
 have HB := Aside0.mk (Below.refl w.heap.size w)
 have H : (slices_IndexFunc_45.l0 k l0 (l0.length : Int) 0) = some r := h
 clear h
 have H' := Aside0.mk H
 clear H
 go_enter Try.func26, Try.ntmps26
 go_wp2
 go_loopg [8] k (fun kq v8 w' => ∃ (x8_1 : Int), v8 = .int .i64 x8_1 ∧ Aside0 (slices_IndexFunc_45.l0 kq l0 (l0.length : Int) x8_1 = some r) ∧ Aside0 (kq ≤ k) ∧ Aside0 (Below w.heap.size w w'))
 case atStart => exact ⟨(0), rq, H', ⟨Nat.le_refl _⟩, ⟨bl⟩⟩
 case round =>
  clear H'
  obtain ⟨x8_1, rfl, HA, HK1, HB⟩ := hrel
  cases gk with
  | zero => exact absurd HA.out (by simp [slices_IndexFunc_45.l0])
  | succ k1 =>
   have H := HA.out
   clear HA
   simp only [slices_IndexFunc_45.l0] at H
   rcases iL H with H1 | H1 <;> clear H <;> obtain ⟨H, c3b0⟩ := H1
   ·by_cases c4 : 0 ≤ x8_1
    ·rw [if_pos c4] at H
     have c4b0 := decide_eq_true c4
     clear c4
     by_cases c5 : x8_1 < (l0.length : Int)
     ·rw [if_pos c5] at H
      have c5b0 := decide_eq_true c5
      clear c5
      obtain ⟨t228, A6, H⟩ := oB H
      try dsimp only at H
      by_cases c7 : t228 = true
      ·subst c7
       rw [if_pos rfl] at H
       obtain rfl := Option.some.inj H
       have p227 : 0 ≤ (x8_1 : Int) := dt
       have q227 : x8_1 < (l0.length : Int) := dt
       obtain ⟨ad227, A227_2, c227_2, e227, hx227_0, hx227_1, hx227_2, hx227_3, hx227_4, hl227_2, hi227_2⟩ := at_T35 HR0.out x8_1 p227 q227
       cases e227
       replace hx227_0 := hcB HB.out hx227_0
       replace hx227_1 := hcB HB.out hx227_1
       replace hx227_2 := hcB HB.out hx227_2
       replace hx227_3 := hcB HB.out hx227_3
       replace hx227_4 := hcB HB.out hx227_4
       have HR227_2 := Aside0.mk hi227_2
       have HC227_2 := Aside0.mk hl227_2
       clear hi227_2 hl227_2
       replace p227 := eq_true p227
       replace q227 := eq_true q227
       go_wp2_with (first | ((with_reducible refine gate_value rfl ?_); refine goesV_ (some 16) rfl rfl Try.func45 (by kernel_rfl) rfl #[.agg #[.int .i64 ((rd_T35 l0 x8_1).f0.f0), .int .i64 ((rd_T35 l0 x8_1).f0.f1), .slice A227_2 ((rd_T35 l0 x8_1).f0.f2).length c227_2, .int .i64 ((rd_T35 l0 x8_1).f1), .int .i64 ((rd_T35 l0 x8_1).f2)]] rfl rfl (by (try simp only [List.map_toArray, List.map_cons, List.map_nil]); first | done | rfl | (simp only [List.length_drop, List.length_take]; rfl)) ?_; (with_reducible refine (shape_rightPlaced_1.calls k1 ((rd_T35 l0 x8_1).f0.f0) ((rd_T35 l0 x8_1).f0.f1) _ _ ((rd_T35 l0 x8_1).f0.f2) ((rd_T35 l0 x8_1).f1) ((rd_T35 l0 x8_1).f2) true _ ?side1 ?side2 A6.out).mono ?_); (case side1 => exact cU (Kd.C_below HR227_2.out HB.out)); (case side2 => exact HC227_2.out); rintro e w8 ⟨rfl, hb⟩; refine ⟨_, rfl, ?_⟩; have n_ := aE (bs hb); clear HB; have HB := n_; clear n_))
       go_ret
       exact ⟨re, bl⟩
      ·replace c7 := Bool.eq_false_iff.mpr c7
       subst c7
       rw [if_neg Bool.false_ne_true] at H
       have H' := Aside0.mk H
       clear H
       have p227 : 0 ≤ (x8_1 : Int) := dt
       have q227 : x8_1 < (l0.length : Int) := dt
       obtain ⟨ad227, A227_2, c227_2, e227, hx227_0, hx227_1, hx227_2, hx227_3, hx227_4, hl227_2, hi227_2⟩ := at_T35 HR0.out x8_1 p227 q227
       cases e227
       replace hx227_0 := hcB HB.out hx227_0
       replace hx227_1 := hcB HB.out hx227_1
       replace hx227_2 := hcB HB.out hx227_2
       replace hx227_3 := hcB HB.out hx227_3
       replace hx227_4 := hcB HB.out hx227_4
       have HR227_2 := Aside0.mk hi227_2
       have HC227_2 := Aside0.mk hl227_2
       clear hi227_2 hl227_2
       replace p227 := eq_true p227
       replace q227 := eq_true q227
       go_wp2_with (first | ((with_reducible refine gate_value rfl ?_); refine goesV_ (some 16) rfl rfl Try.func45 (by kernel_rfl) rfl #[.agg #[.int .i64 ((rd_T35 l0 x8_1).f0.f0), .int .i64 ((rd_T35 l0 x8_1).f0.f1), .slice A227_2 ((rd_T35 l0 x8_1).f0.f2).length c227_2, .int .i64 ((rd_T35 l0 x8_1).f1), .int .i64 ((rd_T35 l0 x8_1).f2)]] rfl rfl (by (try simp only [List.map_toArray, List.map_cons, List.map_nil]); first | done | rfl | (simp only [List.length_drop, List.length_take]; rfl)) ?_; (with_reducible refine (shape_rightPlaced_1.calls k1 ((rd_T35 l0 x8_1).f0.f0) ((rd_T35 l0 x8_1).f0.f1) _ _ ((rd_T35 l0 x8_1).f0.f2) ((rd_T35 l0 x8_1).f1) ((rd_T35 l0 x8_1).f2) false _ ?side1 ?side2 A6.out).mono ?_); (case side1 => exact cU (Kd.C_below HR227_2.out HB.out)); (case side2 => exact HC227_2.out); rintro e w9 ⟨rfl, hb⟩; refine ⟨_, rfl, ?_⟩; have n_ := aE (bs hb); clear HB; have HB := n_; clear n_))
       go_roundg k1
       case measure => have := HK1.out; omega
       case rel => exact ⟨(wrap64 (x8_1 + 1)), rq, H', ⟨by have := HK1.out; omega⟩, ⟨bl⟩⟩
     ·rw [if_neg c5] at H
      exact absurd H (by simp)
    ·rw [if_neg c4] at H
     exact absurd H (by simp)
   ·obtain rfl := Option.some.inj H
    go_wp2
    go_ret
    exact ⟨re, bl⟩
def slices_ContainsFunc_45.f (k : Nat) (l0 : List (S35))  : Option (Bool) := (slices_IndexFunc_45.f k l0).bind fun t229 => (some (decide (t229 ≥ 0)))
theorem slices_ContainsFunc_45.mono : ∀ a0 k, LeO (slices_ContainsFunc_45.f k a0) (slices_ContainsFunc_45.f (k + 1) a0) := by
 intro a0 k
 unfold slices_ContainsFunc_45.f
 repeat' first
   | (with_reducible exact slices_IndexFunc_45.mono _ _)
   | (with_reducible first | exact LeO.refl _ | exact LeO.none _ | refine LeO.ite ?_ ?_ | refine LeO.bind ?_ (fun _ => ?_))
set_option maxHeartbeats 8000000 in
set_option maxRecDepth 100000 in
theorem slices_ContainsFunc_45.calls (k : Nat) (A0 : Option Addr) (c0 : Nat) (l0 : List (S35))  (r : Bool) (w : World) (hr0 : Kd.C k35 w A0 l0.length l0) (hc0 : l0.length ≤ c0) (h : slices_ContainsFunc_45.f k l0 = some r) :
  Calls Try.prog 44 #[.slice A0 l0.length c0, .func (.func 45) #[] #[]] w fun e w' => e = .returned (.bool r) ∧ Below w.heap.size w w' := by
 have HR0 := Aside0.mk hr0
 have HC0 := Aside0.mk hc0
 clear hr0 hc0
 have HB := Aside0.mk (Below.refl w.heap.size w)
 have H : ((slices_IndexFunc_45.f k l0).bind fun t229 => (some (decide (t229 ≥ 0)))) = some r := h
 clear h
 obtain ⟨t229, A3, H⟩ := oB H
 try dsimp only at H
 obtain rfl := Option.some.inj H
 go_enter Try.func44, Try.ntmps44
 go_wp2_with (first | ((with_reducible refine gf 26 rfl ?_); refine gL (some 7) rfl rfl Try.func26 rfl #[.slice A0 l0.length c0, .func (.func 45) #[] #[]] rfl ?_; (with_reducible refine (slices_IndexFunc_45.calls k _ _ l0  t229 _ ?side1 ?side2 A3.out).mono ?_); (case side1 => exact cU HR0.out); (case side2 => exact HC0.out); rintro e w4 ⟨rfl, hb⟩; refine ⟨_, rfl, ?_⟩; have n_ := aE (bs hb); clear HB; have HB := n_; clear n_))
 go_ret
 exact ⟨re, bl⟩
def shape_rightPlaced.f (k : Nat) (l0 : List (S35)) : Option (Bool) := (slices_ContainsFunc_45.f k l0).bind fun t230 => (some (!t230))
theorem shape_rightPlaced.mono : ∀ a0 k, LeO (shape_rightPlaced.f k a0) (shape_rightPlaced.f (k + 1) a0) := by
 intro a0 k
 unfold shape_rightPlaced.f
 repeat' first
   | (with_reducible exact slices_ContainsFunc_45.mono _ _)
   | (with_reducible first | exact LeO.refl _ | exact LeO.none _ | refine LeO.ite ?_ ?_ | refine LeO.bind ?_ (fun _ => ?_))
set_option maxHeartbeats 8000000 in
set_option maxRecDepth 100000 in
theorem shape_rightPlaced.calls (k : Nat) (A0 : Option Addr) (c0 : Nat) (l0 : List (S35)) (r : Bool) (w : World) (hr0 : Kd.C k35 w A0 l0.length l0) (hc0 : l0.length ≤ c0) (h : shape_rightPlaced.f k l0 = some r) :
  Calls Try.prog 29 #[.slice A0 l0.length c0] w fun e w' => e = .returned (.bool r) ∧ Below w.heap.size w w' := by
 have HR0 := Aside0.mk hr0
 have HC0 := Aside0.mk hc0
 clear hr0 hc0
 have HB := Aside0.mk (Below.refl w.heap.size w)
 have H : ((slices_ContainsFunc_45.f k l0).bind fun t230 => (some (!t230))) = some r := h
 clear h
 obtain ⟨t230, A2, H⟩ := oB H
 try dsimp only at H
 obtain rfl := Option.some.inj H
 go_enter Try.func29, Try.ntmps29
 go_wp2_with (first | ((with_reducible refine gf 44 rfl ?_); refine gL (some 4) rfl rfl Try.func44 rfl #[.slice A0 l0.length c0, .func (.func 45) #[] #[]] rfl ?_; (with_reducible refine (slices_ContainsFunc_45.calls k _ _ l0  t230 _ ?side1 ?side2 A2.out).mono ?_); (case side1 => exact cU HR0.out); (case side2 => exact HC0.out); rintro e w3 ⟨rfl, hb⟩; refine ⟨_, rfl, ?_⟩; have n_ := aE (bs hb); clear HB; have HB := n_; clear n_))
 go_ret
 exact ⟨re, bl⟩
def shape_near.f (a0 : Int) : Option (Bool) := if a0 ≥ (-100000) then (some (decide (a0 ≤ 100000))) else (some false)
set_option maxHeartbeats 8000000 in
set_option maxRecDepth 100000 in
theorem shape_near.calls (a0 : Int) (r : Bool) (w : World) (h : shape_near.f a0 = some r) :
  Calls Try.prog 30 #[.int .i64 a0] w fun e w' => e = .returned (.bool r) ∧ Drawn0 w w' := by
 have H : (if a0 ≥ (-100000) then (some (decide (a0 ≤ 100000))) else (some false)) = some r := h
 clear h
 rcases iL H with H1 | H1 <;> clear H <;> obtain ⟨H, c2b0⟩ := H1
 ·obtain rfl := Option.some.inj H
  go_enter Try.func30, Try.ntmps30
  go_wp2
  go_ret
  exact ⟨by first | rfl | (simp; done) | (simp [*]; done), by repeat (first | exact Drawn0.refl _ | apply Drawn0.step)⟩
 ·obtain rfl := Option.some.inj H
  go_enter Try.func30, Try.ntmps30
  go_wp2
  go_ret
  exact ⟨by first | rfl | (simp; done) | (simp [*]; done), by repeat (first | exact Drawn0.refl _ | apply Drawn0.step)⟩
def bitmap_isShift.f (a0 : Int) (a1 : Int) : Option (Bool) := if (mn a0 a1) ≥ (-100000) then (some (decide ((mx a0 a1) ≤ 100000))) else (some false)
set_option maxHeartbeats 8000000 in
set_option maxRecDepth 100000 in
theorem bitmap_isShift.calls (a0 : Int) (a1 : Int) (r : Bool) (w : World) (h : bitmap_isShift.f a0 a1 = some r) :
  Calls Try.prog 46 #[.int .i64 a0, .int .i64 a1] w fun e w' => e = .returned (.bool r) ∧ Below w.heap.size w w' := by
 have HB := Aside0.mk (Below.refl w.heap.size w)
 have H : (if (mn a0 a1) ≥ (-100000) then (some (decide ((mx a0 a1) ≤ 100000))) else (some false)) = some r := h
 clear h
 obtain ⟨ji3, hji3⟩ : ∃ j_ : Int, (mn a0 a1) = j_ := ⟨_, rfl⟩
 replace H : (if (ji3) ≥ (-100000) then (some (decide ((mx a0 a1) ≤ 100000))) else (some false)) = some r := by first | (rw [hji3] at H; exact H) | (simp only [hji3] at H ⊢; exact H)
 have hji3_ : (if a1 < a0 then a1 else a0) = ji3 := hji3
 rcases iL H with H1 | H1 <;> clear H <;> obtain ⟨H, c4b0⟩ := H1
 ·obtain ⟨ji5, hji5⟩ : ∃ j_ : Int, (mx a0 a1) = j_ := ⟨_, rfl⟩
  replace H : (some (decide ((ji5) ≤ 100000))) = some r := by first | (rw [hji5] at H; exact H) | (simp only [hji5] at H ⊢; exact H)
  have hji5_ : (if a0 < a1 then a1 else a0) = ji5 := hji5
  obtain rfl := Option.some.inj H
  go_enter Try.func46, Try.ntmps46
  go_wp2
  go_ret
  exact ⟨by first | rfl | (simp [errW_none, errW_some] <;> rfl) | (simp only [← hji3, ← hji5]; first | rfl | (simp [errW_none, errW_some] <;> rfl)) | (simp [*, errW_none, errW_some] <;> rfl), bl⟩
 ·obtain rfl := Option.some.inj H
  go_enter Try.func46, Try.ntmps46
  go_wp2
  go_ret
  exact ⟨by first | rfl | (simp [errW_none, errW_some] <;> rfl) | (simp only [← hji3]; first | rfl | (simp [errW_none, errW_some] <;> rfl)) | (simp [*, errW_none, errW_some] <;> rfl), bl⟩
def bytes_Clone.f (l0 : List Int) : Option (List Int) := (some (([] : List Int) : List Int)).bind fun y231 => (if y231.length + l0.length < 140737488355328 then (some (y231 ++ l0)) else (none))
set_option maxHeartbeats 8000000 in
set_option maxRecDepth 100000 in
theorem bytes_Clone.calls_some (a0_ : Addr) (c0 : Nat) (l0 : List Int) (r : List Int) (w : World) (hr0 : Kd.C (Kd.int .u8) w (some a0_) l0.length l0) (hc0 : l0.length ≤ c0) (h : bytes_Clone.f l0 = some r) :
  Calls Try.prog 60 #[.slice (some a0_) l0.length c0] w fun e w' => ∃ v0_ : Value, e = .returned (v0_) ∧ Kd.R (Kd.int .u8) 5 w' w.heap.size (fun _ => True) v0_ r ∧ Below w.heap.size w w' := by
 have HR0 := Aside0.mk hr0
 have HC0 := Aside0.mk hc0
 clear hr0 hc0
 have hnilq : ∀ W : World, (Go.binOp .eql 22 (.slice (some a0_) l0.length c0) (.slice none 0 0)).run Try.prog W = .ok (.bool false) W := fun W => by rw [Lib.run_eql_slice_nil W 22 5 (some a0_) l0.length c0 0 0 Try.underlying22]; rfl
 have HB := Aside0.mk (Below.refl w.heap.size w)
 have H := h
 unfold bytes_Clone.f at H
 clear h
 obtain ⟨y231, hy_⟩ : ∃ y_ : List Int, y_ = (([] : List Int)) := ⟨_, rfl⟩
 replace H : (if y231.length + l0.length < 140737488355328 then (some (y231 ++ l0)) else (none)) = some r := rh
 have Ny231 := aE hy_
 clear hy_
 by_cases c2 : y231.length + l0.length < 140737488355328
 ·rw [if_pos c2] at H
  have LMc2 := Aside0.mk c2
  clear c2
  obtain ⟨y234, hy_⟩ : ∃ y_ : List Int, y_ = (y231 ++ l0) := ⟨_, rfl⟩
  replace H : (some y234) = some r := rh
  have Ny234 := aE hy_
  clear hy_
  obtain rfl := Option.some.inj H
  go_enter Try.func60, Try.ntmps60
  go_wp2_with (first | ((with_reducible refine gd 5 rfl ?_); refine Kd.R_lit (Kd.int .u8) _ 5 ?hg (N := 5) ?hd (xs := ([] : List Int)) (inner := []) (ok := fun _ => True) (okp := fun _ => True) ?hr ?hp (fun _ hk => hk) trivial (Below.refl _ _) (Nat.le_refl _) (by simp) ?_; (case hd => rfl); (case hg => rfl); (case hr => first | (go_simp; done) | (go_simp; rfl)); (case hp => exact (Reps.none _ _)); intro v232 w3 ho4 hb hg_ hnew_; clear hg_ hnew_; (first | rw [← Ny231.out] at ho4 | (simp only [Int.reduceToNat] at ho4; rw [← Ny231.out] at ho4)); have n_ := aC (Kd.R_lower ho4 bz) (aE (bs hb)); clear HB; obtain ⟨HO233, HB⟩ := n_; clear hb ho4) | ((with_reducible refine gate_builtin (b := .append) (xs := #[.tmp 5, .tmp 6]) rfl ?_); at_builtin; refine Kd.R_append_rows (Kd.int .u8) (w0 := w) w.heap.size rfl (.tmp 5) (.tmp 6) 22 5 (.int .u8 0) 1 rfl Try.underlying22 info5 rfl (by decide) (by omega) v232 y231 l0 _ _ _ (fun _ => True) (fun _ => False) rfl rfl ?aO ?aR (fun _ _ h => h) (fun _ h => h.elim) ?aF ?aB ?aS ?aL ?_; (case aR => repeat (first | exact (Kd.C_below HR0.out HB.out) | (with_reducible refine Kd.C_alloc ?_ _) | (with_reducible refine Kd.C_drewN ?_ _) | (with_reducible refine Kd.C_drew ?_))); (case aB => exact bl); (case aF => exact (fun _ _ => trivial)); (case aO => exact (rU HO233.out)); (case aS => exact bz); (case aL => have := LMc2.out; omega); intro v235 w5 ho hb hg hat; rw [← Ny234.out] at ho; have n_ := aC hb (aE ho); clear HB HO233; obtain ⟨HB, HO236⟩ := n_; clear ho hb hg hat))
  go_ret
  exact ⟨_, re, rU HO236.out, bl⟩
 ·rw [if_neg c2] at H
  exact absurd H (by simp)
theorem bytes_Clone.calls_none (c0 : Nat) (w : World) :
  Calls Try.prog 60 #[.slice none 0 c0] w fun e w' => ∃ v0_ : Value, e = .returned (v0_) ∧ Kd.R (Kd.int .u8) 5 w' w.heap.size (fun _ => True) v0_ [] ∧ Below w.heap.size w w' := by
 have hnilq : ∀ W : World, (Go.binOp .eql 22 (.slice none 0 c0) (.slice none 0 0)).run Try.prog W = .ok (.bool true) W := fun W => by rw [Lib.run_eql_slice_nil W 22 5 none 0 c0 0 0 Try.underlying22]; rfl
 go_enter Try.func60, Try.ntmps60
 go_wp2
 go_ret
 exact ⟨_, rfl, Kd.R_nil _ _ _ _ _, Below.refl _ _⟩
theorem bytes_Clone.calls (A0 : Option Addr) (c0 : Nat) (l0 : List Int) (r : List Int) (w : World) (hr0 : Kd.C (Kd.int .u8) w A0 l0.length l0) (hc0 : l0.length ≤ c0) (h : bytes_Clone.f l0 = some r) :
  Calls Try.prog 60 #[.slice A0 l0.length c0] w fun e w' => ∃ v0_ : Value, e = .returned (v0_) ∧ Kd.R (Kd.int .u8) 5 w' w.heap.size (fun _ => True) v0_ r ∧ Below w.heap.size w w' := by
 cases A0 with
 | some a => exact bytes_Clone.calls_some a c0 l0 r w hr0 hc0 h
 | none =>
  obtain rfl : l0 = [] := C_none_nil hr0
  obtain rfl : r = [] := by simpa [bytes_Clone.f] using h.symm
  exact bytes_Clone.calls_none c0 w
def bitmap_clone.f (a0_0 : Int) (a0_1 : Int) (l0_2 : List Int) : Option (Int × Int × List Int) := (bytes_Clone.f l0_2).bind fun t239 => (some (a0_0, a0_1, t239))
def bitmap_clone.T1 : Bool × List (List Nat × List Nat) := (true, [([], []), ([0], [0]), ([], []), ([2], [2]), ([], []), ([4], [4]), ([5], [5]), ([1, 3, 6], [1, 3, 6]), ([7, 6, 0, 1, 2, 3, 4, 5, 6, 7], [7])])
def bitmap_clone.B1 : List Nat := [0, 1, 0, 4, 0, 16, 48, 127, 255]
theorem bitmap_clone.tab1 : rtab .any (opsOf Try.f47 1) = bitmap_clone.T1 := by kernel_rfl
theorem bitmap_clone.bits1 : waitsOk bitmap_clone.T1.2 bitmap_clone.B1 = true := by kernel_rfl
set_option maxHeartbeats 8000000 in
set_option maxRecDepth 100000 in
theorem bitmap_clone.calls (a0_0 : Int) (a0_1 : Int) (A0_2 : Option Addr) (c0_2 : Nat) (l0_2 : List Int) (r1 : Int) (r2 : Int) (r3 : List Int) (w : World) (hr0_2 : Kd.C (Kd.int .u8) w A0_2 l0_2.length l0_2) (hc0_2 : l0_2.length ≤ c0_2) (h : bitmap_clone.f a0_0 a0_1 l0_2 = some (r1, r2, r3)) :
  Calls Try.prog 47 #[.agg #[.int .i64 a0_0, .int .i64 a0_1, .slice A0_2 l0_2.length c0_2]] w fun e w' => ∃ v2_ : Value, e = .returned (.agg #[.int .i64 r1, .int .i64 r2, v2_]) ∧ Kd.R (Kd.int .u8) 5 w' w.heap.size (fun _ => True) v2_ r3 ∧ Below w.heap.size w w' := by
 have hu24 := Try.underlying24
 have HR0_2 := Aside0.mk hr0_2
 have HC0_2 := Aside0.mk hc0_2
 clear hr0_2 hc0_2
 have HB := Aside0.mk (Below.refl w.heap.size w)
 have H : ((bytes_Clone.f l0_2).bind fun t239 => (some (a0_0, a0_1, t239))) = some (r1, r2, r3) := h
 clear h
 obtain ⟨t239, A2, H⟩ := oB H
 try dsimp only at H
 simp only [Option.some.injEq, Prod.mk.injEq] at H
 obtain ⟨rfl, rfl, rfl⟩ := H
 go_enter Try.func47, Try.ntmps47
 try go_wp2_with (first | ((with_reducible refine gd 1 rfl ?_); refine bx 1 #[.int .i64 a0_0, .int .i64 a0_1, .slice A0_2 l0_2.length c0_2] 24 rfl rfl ?_; intro gb237 hg w3 hbox hb; have n_ := aC (bs hb) (aC hbox (aC (gz hg) (aE (gz hg)))); clear HB; obtain ⟨HB, BK237, GW237, GE237⟩ := n_; clear hb hbox hg) | ((with_reducible refine gd 2 rfl ?_); refine bx 2 #[.int .i64 0, .int .i64 0, .slice none 0 0] 24 rfl rfl ?_; intro gb238 hg w4 hbox hb; have n_ := aC (blk_below (bU BK237.out) hb) (aC (bs hb) (aC hbox (aC (gz hg) (aC (gz hg) (aC (gn hg (bU BK237.out)) (aE (gm hg (bU BK237.out)))))))); clear BK237 HB; obtain ⟨BK237, HB, BK238, GW238, GE238, NB237_238, NB238_237⟩ := n_; clear hb hbox hg))
 have n_ := aC (blk_drew BK237.out) (aC (blk_drew BK238.out) (aE (below_drew1 HB.out)))
 clear BK237 BK238 HB
 obtain ⟨BK237, BK238, HB⟩ := n_
 refine st 9 (fun w' => w'.cell? ⟨gb237, 0, none⟩ = some (.int .i64 a0_0) ∧ w'.cell? ⟨gb237, 1, none⟩ = some (.int .i64 a0_1) ∧ w'.cell? ⟨gb237, 2, none⟩ = some (.slice A0_2 l0_2.length c0_2)) [] (bv 9 0) bitmap_clone.tab1 bitmap_clone.bits1 ⟨kc0 BK237.out, kc1 BK237.out, kc2 BK237.out⟩ (fun hHeld HT_ HW_ => ?_)
 generalize w4.drew = w5 at BK237 BK238 HB hHeld ⊢
 refine pu 0 3 (bv 9 1) HT_ rfl rfl ?_
 refine pu 2 5 (bv 9 5) HT_ rfl rfl ?_
 refine pu 4 7 (bv 9 21) HT_ rfl rfl ?_
 refine tk 1 4 (bv 9 23) HT_ HW_ hHeld rfl rfl (by rintro w' ⟨s0, s1, s2⟩; exact yl) ?_
 refine tk 3 6 (bv 9 31) HT_ HW_ hHeld rfl rfl (by rintro w' ⟨s0, s1, s2⟩; exact yl) ?_
 refine tk 5 8 (bv 9 63) HT_ HW_ hHeld rfl rfl (by rintro w' ⟨s0, s1, s2⟩; exact yl) ?_
 refine one_ (i := 6) (N := some 9) (bv 9 127) rfl rfl (one_of HT_.out (by kernel_rfl)) (by decide) (fun K hK => ?_)
 refine gK Try.func60 rfl #[.slice A0_2 l0_2.length c0_2] rfl rfl ?_
 with_reducible refine (bytes_Clone.calls _ _ l0_2 t239 _ ?side1 ?side2 A2.out).mono ?_
 (case side1 => exact cU (Kd.C_below HR0_2.out HB.out))
 (case side2 => exact HC0_2.out)
 rintro e w6 ⟨v240, rfl, ho0, hb⟩
 refine ⟨_, rfl, ?_⟩
 have n_ := aC (Kd.R_lower ho0 bz) (aC (blk_below (bU BK237.out) hb) (aC (blk_below (bU BK238.out) hb) (aE (bs hb))))
 clear BK237 BK238 HB
 obtain ⟨HO241, BK237, BK238, HB⟩ := n_
 (try clear hb)
 (try clear hb2)
 (try clear hk)
 (try clear hi)
 (try clear ho0)
 obtain ⟨Ao7, co7, eo7⟩ := Kd.R_slice HO241.out
 (first | subst eo7 | (injection eo7 with f1_ f2_ f3_; have f4_ := f1_.symm; have f5_ := f3_.symm; clear f1_ f2_ f3_; subst f4_; subst f5_))
 refine hK.out _ _ ⟨kc0 BK237.out, kc1 BK237.out, kc2 BK237.out⟩ (fun hHeld => ?_)
 clear hK K
 refine nm (some 9) ?_
 refine pu 7 10 (bv 9 255) HT_ rfl rfl ?_
 refine one_ (i := 8) (N := none) (bv 9 511) rfl rfl (one_of HT_.out (by kernel_rfl)) (by decide) (fun K hK => ?_)
 have hs8 : w6.cell? ⟨gb238, 0, none⟩ = some (.int .i64 0) := (blk_cell BK238.out 0).trans rfl
 have hfs8 := blk_frozen BK238.out 0
 have hns8_0 := NB237_238.out
 have hms8_0 := NB238_237.out
 have hs9 : w6.cell? ⟨gb238, 1, none⟩ = some (.int .i64 0) := (blk_cell BK238.out 1).trans rfl
 have hfs9 := blk_frozen BK238.out 1
 have hns9_0 := NB237_238.out
 have hms9_0 := NB238_237.out
 have hs10 : w6.cell? ⟨gb238, 2, none⟩ = some (.slice none 0 0) := (blk_cell BK238.out 2).trans rfl
 have hfs10 := blk_frozen BK238.out 2
 have hns10_0 := NB237_238.out
 have hms10_0 := NB238_237.out
 refine skip_ (w1 := ?_) (by rfl) rfl ?_ ?_
 rotate_left
 ·go_simp
  rfl
 refine hK.out _ _ ⟨((cell_far (p := ⟨gb238, _, none⟩) NB237_238.out _).trans (((cell_far (p := ⟨gb238, _, none⟩) NB237_238.out _).trans (((cell_far (p := ⟨gb238, _, none⟩) NB237_238.out _).trans (hHeld.1)))))), ((cell_far (p := ⟨gb238, _, none⟩) NB237_238.out _).trans (((cell_far (p := ⟨gb238, _, none⟩) NB237_238.out _).trans (((cell_far (p := ⟨gb238, _, none⟩) NB237_238.out _).trans (hHeld.2.1)))))), ((cell_far (p := ⟨gb238, _, none⟩) NB237_238.out _).trans (((cell_far (p := ⟨gb238, _, none⟩) NB237_238.out _).trans (((cell_far (p := ⟨gb238, _, none⟩) NB237_238.out _).trans (hHeld.2.2))))))⟩ (fun hHeld => ?_)
 clear hK K
 refine done_ (done_of HT_.out (by kernel_rfl)) ?_
 try go_wp2
 refine bodyPost_ret (results_cell_row rfl _ _ gb238 24 #[.int .i64 a0_0, .int .i64 a0_1, .slice Ao7 t239.length co7] (0, 0) _ rfl (by (with_reducible repeat (first | refine blk_drewN ?_ _ | refine blk_drew ?_ | refine blk_alloc ?_ _)); refine blk_put (cs := #[.int .i64 a0_0, .int .i64 a0_1, .slice none 0 0]) ?_ 2 _ rfl; (with_reducible repeat (first | refine blk_drewN ?_ _ | refine blk_drew ?_ | refine blk_alloc ?_ _)); refine blk_put (cs := #[.int .i64 a0_0, .int .i64 0, .slice none 0 0]) ?_ 1 _ rfl; (with_reducible repeat (first | refine blk_drewN ?_ _ | refine blk_drew ?_ | refine blk_alloc ?_ _)); refine blk_put (cs := #[.int .i64 0, .int .i64 0, .slice none 0 0]) ?_ 0 _ rfl; exact bU BK238.out) Try.underlying24 rfl (by kernel_rfl)) rfl ?_
 exact ⟨_, re, rU (Kd.R_mono (Kd.R_far (p := ⟨gb238, 2, none⟩) (Kd.R_far (p := ⟨gb238, 1, none⟩) (Kd.R_far (p := ⟨gb238, 0, none⟩) (Kd.R_types HO241.out BK238.out (by decide)) (fun _ hk => hk.2) (.int .i64 a0_0)) (fun _ hk => hk.2) (.int .i64 a0_1)) (fun _ hk => hk.2) (.slice Ao7 t239.length co7)) (fun _ hk => trivial)), bl⟩
def bitmap_combine.f (a0 : Int) (a1 : Int) (a2 : Int) : Option (Int) := if a2 = 1 then (some (Go.bits .or .u8 a0 a1)) else (if a2 = 2 then (some (Go.bits .and .u8 a0 a1)) else (if a2 = 3 then (some (Go.bits .xor .u8 a0 a1)) else (if a2 = 4 then (some (Go.bits .xor .u8 ((1 - a0) % 256) a1)) else (some a1))))
set_option maxHeartbeats 8000000 in
set_option maxRecDepth 100000 in
theorem bitmap_combine.calls (a0 : Int) (a1 : Int) (a2 : Int) (r : Int) (w : World) (h : bitmap_combine.f a0 a1 a2 = some r) :
  Calls Try.prog 48 #[.int .u8 a0, .int .u8 a1, .int .i64 a2] w fun e w' => e = .returned (.int .u8 r) ∧ Drawn0 w w' := by
 have H := h
 unfold bitmap_combine.f at H
 clear h
 rcases iE H with H1 | H1 <;> clear H <;> obtain ⟨H, c4b0, c4b1, c4⟩ := H1
 ·obtain rfl := Option.some.inj H
  go_enter Try.func48, Try.ntmps48
  go_wp2
  go_ret
  exact ⟨by first | rfl | (simp; done) | (simp [*]; done), by repeat (first | exact Drawn0.refl _ | apply Drawn0.step)⟩
 ·rcases iE H with H1 | H1 <;> clear H <;> obtain ⟨H, c5b0, c5b1, c5⟩ := H1
  ·obtain rfl := Option.some.inj H
   go_enter Try.func48, Try.ntmps48
   go_wp2
   go_ret
   exact ⟨by first | rfl | (simp; done) | (simp [*]; done), by repeat (first | exact Drawn0.refl _ | apply Drawn0.step)⟩
  ·rcases iE H with H1 | H1 <;> clear H <;> obtain ⟨H, c6b0, c6b1, c6⟩ := H1
   ·obtain rfl := Option.some.inj H
    go_enter Try.func48, Try.ntmps48
    go_wp2
    go_ret
    exact ⟨by first | rfl | (simp; done) | (simp [*]; done), by repeat (first | exact Drawn0.refl _ | apply Drawn0.step)⟩
   ·rcases iE H with H1 | H1 <;> clear H <;> obtain ⟨H, c7b0, c7b1, c7⟩ := H1
    ·obtain rfl := Option.some.inj H
     go_enter Try.func48, Try.ntmps48
     go_wp2
     go_ret
     exact ⟨by first | rfl | (simp; done) | (simp [*]; done), by repeat (first | exact Drawn0.refl _ | apply Drawn0.step)⟩
    ·obtain rfl := Option.some.inj H
     go_enter Try.func48, Try.ntmps48
     go_wp2
     go_ret
     exact ⟨by first | rfl | (simp; done) | (simp [*]; done), by repeat (first | exact Drawn0.refl _ | apply Drawn0.step)⟩
def bitmap_at.f (a0_0 : Int) (a0_1 : Int) (l0_2 : List Int) (a1 : Int) (a2 : Int) : Option (Int) := if a1 < 0 then (some 0) else (if a2 < 0 then (some 0) else (if a1 ≥ a0_0 then (some 0) else (if a2 ≥ a0_1 then (some 0) else (if 0 ≤ (wrap64 ((wrap64 (a2 * a0_0)) + a1)) then (if (wrap64 ((wrap64 (a2 * a0_0)) + a1)) < (l0_2.length : Int) then (some (rd l0_2 (wrap64 ((wrap64 (a2 * a0_0)) + a1)))) else (none)) else (none)))))
set_option maxHeartbeats 8000000 in
set_option maxRecDepth 100000 in
theorem bitmap_at.calls (a0_0 : Int) (a0_1 : Int) (A0_2 : Option Addr) (c0_2 : Nat) (l0_2 : List Int) (a1 : Int) (a2 : Int) (r : Int) (w : World) (hr0_2 : Kd.C (Kd.int .u8) w A0_2 l0_2.length l0_2) (hc0_2 : l0_2.length ≤ c0_2) (h : bitmap_at.f a0_0 a0_1 l0_2 a1 a2 = some r) :
  Calls Try.prog 49 #[.agg #[.int .i64 a0_0, .int .i64 a0_1, .slice A0_2 l0_2.length c0_2], .int .i64 a1, .int .i64 a2] w fun e w' => e = .returned (.int .u8 r) ∧ Below w.heap.size w w' := by
 have hu24 := Try.underlying24
 have HR0_2 := Aside0.mk hr0_2
 have HC0_2 := Aside0.mk hc0_2
 clear hr0_2 hc0_2
 have HB := Aside0.mk (Below.refl w.heap.size w)
 have H := h
 unfold bitmap_at.f at H
 clear h
 rcases iL H with H1 | H1 <;> clear H <;> obtain ⟨H, c4b0⟩ := H1
 ·obtain rfl := Option.some.inj H
  go_enter Try.func49, Try.ntmps49
  go_wp2_with (first | ((with_reducible refine gd 3 rfl ?_); refine bx 3 #[.int .i64 a0_0, .int .i64 a0_1, .slice A0_2 l0_2.length c0_2] 24 rfl rfl ?_; intro gb242 hg w5 hbox hb; have n_ := aC (bs hb) (aC hbox (aC (gz hg) (aE (gz hg)))); clear HB; obtain ⟨HB, BK242, GW242, GE242⟩ := n_; clear hb hbox hg))
  go_ret
  exact ⟨re, bl⟩
 ·rcases iL H with H1 | H1 <;> clear H <;> obtain ⟨H, c6b0⟩ := H1
  ·obtain rfl := Option.some.inj H
   go_enter Try.func49, Try.ntmps49
   go_wp2_with (first | ((with_reducible refine gd 3 rfl ?_); refine bx 3 #[.int .i64 a0_0, .int .i64 a0_1, .slice A0_2 l0_2.length c0_2] 24 rfl rfl ?_; intro gb242 hg w7 hbox hb; have n_ := aC (bs hb) (aC hbox (aC (gz hg) (aE (gz hg)))); clear HB; obtain ⟨HB, BK242, GW242, GE242⟩ := n_; clear hb hbox hg))
   go_ret
   exact ⟨re, bl⟩
  ·rcases iL H with H1 | H1 <;> clear H <;> obtain ⟨H, c8b0⟩ := H1
   ·obtain rfl := Option.some.inj H
    go_enter Try.func49, Try.ntmps49
    go_wp2_with (first | ((with_reducible refine gd 3 rfl ?_); refine bx 3 #[.int .i64 a0_0, .int .i64 a0_1, .slice A0_2 l0_2.length c0_2] 24 rfl rfl ?_; intro gb242 hg w9 hbox hb; have n_ := aC (bs hb) (aC hbox (aC (gz hg) (aE (gz hg)))); clear HB; obtain ⟨HB, BK242, GW242, GE242⟩ := n_; clear hb hbox hg; obtain ⟨hcz10_0, hcz10_1, hcz10_2, hfz10_0, hfz10_1, hfz10_2⟩ := cz3f BK242.out))
    go_ret
    exact ⟨re, bl⟩
   ·rcases iL H with H1 | H1 <;> clear H <;> obtain ⟨H, c11b0⟩ := H1
    ·obtain rfl := Option.some.inj H
     go_enter Try.func49, Try.ntmps49
     go_wp2_with (first | ((with_reducible refine gd 3 rfl ?_); refine bx 3 #[.int .i64 a0_0, .int .i64 a0_1, .slice A0_2 l0_2.length c0_2] 24 rfl rfl ?_; intro gb242 hg w12 hbox hb; have n_ := aC (bs hb) (aC hbox (aC (gz hg) (aE (gz hg)))); clear HB; obtain ⟨HB, BK242, GW242, GE242⟩ := n_; clear hb hbox hg; obtain ⟨hcz13_0, hcz13_1, hcz13_2, hfz13_0, hfz13_1, hfz13_2⟩ := cz3f BK242.out))
     go_ret
     exact ⟨re, bl⟩
    ·obtain ⟨ji14, hji14⟩ : ∃ j_ : Int, (wrap64 ((wrap64 (a2 * a0_0)) + a1)) = j_ := ⟨_, rfl⟩
     replace H : (if 0 ≤ (ji14) then (if (ji14) < (l0_2.length : Int) then (some (rd l0_2 (ji14))) else (none)) else (none)) = some r := by first | (rw [hji14] at H; exact H) | (simp only [hji14] at H ⊢; exact H)
     have hji14w : (IntKind.i64.wrap ((wrap64 (a2 * a0_0)) + a1)) = ji14 := (i64_w _).trans hji14
     by_cases c15 : 0 ≤ (ji14)
     ·rw [if_pos c15] at H
      have c15b0 := decide_eq_true c15
      clear c15
      by_cases c16 : (ji14) < (l0_2.length : Int)
      ·rw [if_pos c16] at H
       have c16b0 := decide_eq_true c16
       clear c16
       obtain rfl := Option.some.inj H
       go_enter Try.func49, Try.ntmps49
       go_wp2_with (first | ((with_reducible refine gd 3 rfl ?_); refine bx 3 #[.int .i64 a0_0, .int .i64 a0_1, .slice A0_2 l0_2.length c0_2] 24 rfl rfl ?_; intro gb242 hg w17 hbox hb; have n_ := aC (bs hb) (aC hbox (aC (gz hg) (aE (gz hg)))); clear HB; obtain ⟨HB, BK242, GW242, GE242⟩ := n_; clear hb hbox hg; obtain ⟨hcz18_0, hcz18_1, hcz18_2, hfz18_0, hfz18_1, hfz18_2⟩ := cz3f BK242.out; have p243 : 0 ≤ ((ji14) : Int) := dt; have q243 : (ji14) < (l0_2.length : Int) := dt; obtain ⟨ad243, e243, hx243_0⟩ := Kd.at_int HR0_2.out (ji14) p243 q243; cases e243; replace hx243_0 := hcB HB.out hx243_0; replace p243 := eq_true p243; replace q243 := eq_true q243))
       go_ret
       exact ⟨by first | rfl | (simp [errW_none, errW_some] <;> rfl) | (simp only [← hji14]; first | rfl | (simp [errW_none, errW_some] <;> rfl)) | (simp [*, errW_none, errW_some] <;> rfl), bl⟩
      ·rw [if_neg c16] at H
       exact absurd H (by simp)
     ·rw [if_neg c15] at H
      exact absurd H (by simp)
end Go.Proofs.Ytnnbfkmmjclhaaa.PScanSpecks
