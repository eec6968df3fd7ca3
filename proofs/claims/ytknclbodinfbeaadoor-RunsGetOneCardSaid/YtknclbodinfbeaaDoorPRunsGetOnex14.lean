-- Written by a program of this session (wip/tools/myprint.py) over the kit's print. Not trusted: Lean checks it.
import Derived.Test.YtknclbodinfbeaaDoorPRunsGetOnex0
import Derived.Test.YtknclbodinfbeaaDoorPRunsGetOnex11
import Derived.Test.YtknclbodinfbeaaDoorPRunsGetOnex12
import Derived.Test.YtknclbodinfbeaaDoorPRunsGetOnex13
namespace Go.Proofs.YtknclbodinfbeaaDoor.PRunsGetOne
open Go.RowKit Go.Proofs.YtknclbodinfbeaaDoorW.PrintWords Go.Proofs.YtknclbodinfbeaaDoorW.PrintLast Go.Proofs.YtknclbodinfbeaaDoorW.PrintMore
attribute [local go_sem] max2_int min2_int max_two min_two max_three min_three max_four min_four   -- for this text's walks alone
set_option linter.unusedVariables false
set_option linter.unusedSimpArgs false

/-! ### incunableref04_Codes: function 127 -/
def incunableref04_Codes.l0 : Nat → List (S87) → List (List Int) → List (S87) → Int → Int → Option ((List (List Int)))
 | 0, _, _, _, _, _ => none
 | k + 1, x0, x3, x6, x7, x8 => if x8 < x7 then (if 0 ≤ x8 then (if x8 < (x6.length : Int) then ((incunableref04_used.f ((rd_T87 x6 x8).f0) ((rd_T87 x6 x8).f1) ((rd_T87 x6 x8).f2) ((rd_T87 x6 x8).f3)).bind fun t451 => (if t451 = true then ((incunableref04_Code.f k x0 x8).bind fun t452 => (if x3.length < 5864062014805 then (incunableref04_Codes.l0 k x0 (x3 ++ [t452]) x6 x7 (wrap64 (x8 + 1))) else (none))) else (if x3.length < 5864062014805 then (incunableref04_Codes.l0 k x0 (x3 ++ [[]]) x6 x7 (wrap64 (x8 + 1))) else (none)))) else (none)) else (none)) else (some x3)
def incunableref04_Codes.f (k : Nat) (l0 : List (S87)) : Option ((List (List Int))) := incunableref04_Codes.l0 k l0 ([] : List (List Int)) l0 (l0.length : Int) 0
theorem incunableref04_Codes.mono_l : ∀ k, (∀ y0 y1 y2 y3 y4, LeO (incunableref04_Codes.l0 k y0 y1 y2 y3 y4) (incunableref04_Codes.l0 (k + 1) y0 y1 y2 y3 y4))
 | 0 => fun _ _ _ _ _ r h => by simp [incunableref04_Codes.l0] at h
 | k + 1 => by
  have ih0 := incunableref04_Codes.mono_l k
  ·intro y0 y1 y2 y3 y4
   unfold incunableref04_Codes.l0
   repeat' first
   | (with_reducible exact ih0 _ _ _ _ _)
   | (with_reducible exact incunableref04_Code.mono _ _ _)
   | (with_reducible first | exact LeO.refl _ | exact LeO.none _ | refine LeO.ite ?_ ?_ | refine LeO.bind ?_ (fun _ => ?_))
   | exact ih0 _ _ _ _ _
   | exact incunableref04_Code.mono _ _ _
   | exact LeO.none _ | refine LeO.ite ?_ ?_ | refine LeO.bind ?_ (fun _ => ?_)
theorem incunableref04_Codes.mono : ∀ a0 k, LeO (incunableref04_Codes.f k a0) (incunableref04_Codes.f (k + 1) a0) := by
 intro a0 k
 have ih0 := incunableref04_Codes.mono_l k
 unfold incunableref04_Codes.f
 repeat' first
   | (with_reducible exact ih0 _ _ _ _ _)
   | (with_reducible exact incunableref04_Code.mono _ _ _)
   | (with_reducible first | exact LeO.refl _ | exact LeO.none _ | refine LeO.ite ?_ ?_ | refine LeO.bind ?_ (fun _ => ?_))
   | exact ih0 _ _ _ _ _
   | exact incunableref04_Code.mono _ _ _
   | exact LeO.none _ | refine LeO.ite ?_ ?_ | refine LeO.bind ?_ (fun _ => ?_)
set_option maxHeartbeats 8000000 in
set_option maxRecDepth 100000 in
theorem incunableref04_Codes.calls (k : Nat) (A0 : Option Addr) (c0 : Nat) (l0 : List (S87)) (r : List (List Int)) (w : World) (hr0 : Kd.C k87 w A0 l0.length l0) (hc0 : l0.length ≤ c0) (h : incunableref04_Codes.f k l0 = some r) :
  Calls Tryd.prog 127 #[.slice A0 l0.length c0] w fun e w' => ∃ v0_ : Value, e = .returned (v0_) ∧ Kd.S (Kd.slice 5 (Kd.int .u8)) 22 w' w.heap.size (fun _ => True) v0_ r ∧ Below w.heap.size w w' := by
 have hu87 := Tryd.underlying87
 have HR0 := Aside0.mk hr0
 have HC0 := Aside0.mk hc0
 clear hr0 hc0
 have HB := Aside0.mk (Below.refl w.heap.size w)
 have H : (incunableref04_Codes.l0 k l0 ([] : List (List Int)) l0 (l0.length : Int) 0) = some r := h
 clear h
 have H' := Aside0.mk H
 clear H
 go_enter Tryd.func127, Tryd.ntmps127
 go_wp2
 go_loopg [3, 8] k (fun kq v3 v8 w' => ∃ (x3_1 : List (List Int)) (x8_1 : Int), v8 = .int .i64 x8_1 ∧ Aside0 (incunableref04_Codes.l0 kq l0 x3_1 l0 (l0.length : Int) x8_1 = some r) ∧ Aside0 (kq ≤ k) ∧ Aside0 (Kd.S (Kd.slice 5 (Kd.int .u8)) 22 w' w.heap.size (fun _ => True) v3 x3_1) ∧ Aside0 (Below w.heap.size w w'))
 case atStart => exact ⟨(([] : List (List Int))), (0), rq, H', ⟨Nat.le_refl _⟩, ⟨by first | exact Kd.S_nil _ _ _ _ _ | exact Kd.N_nil _ _ _ _ _ | exact Kd.V_nil _ _ _ _ _ | exact Kd.Q_nil _ _ _ _ _ | exact Kd.R_nil _ _ _ _ _⟩, ⟨bl⟩⟩
 case round =>
  clear H'
  obtain ⟨x3_1, x8_1, rfl, HA, HK1, HO_3, HB⟩ := hrel
  cases gk with
  | zero => exact absurd HA.out (by simp [incunableref04_Codes.l0])
  | succ k1 =>
   have H := HA.out
   clear HA
   simp only [incunableref04_Codes.l0] at H
   by_cases c2 : x8_1 < (l0.length : Int)
   ·rw [if_pos c2] at H
    have c2b0 := decide_eq_true c2
    clear c2
    by_cases c3 : 0 ≤ x8_1
    ·rw [if_pos c3] at H
     have c3b0 := decide_eq_true c3
     clear c3
     by_cases c4 : x8_1 < (l0.length : Int)
     ·rw [if_pos c4] at H
      have c4b0 := decide_eq_true c4
      clear c4
      replace H := Option.bind_eq_some_iff.mp H
      obtain ⟨t451, A50, H⟩ := H
      replace H : (if t451 = true then ((incunableref04_Code.f k1 l0 x8_1).bind fun t452 => (if x3_1.length < 5864062014805 then (incunableref04_Codes.l0 k1 l0 (x3_1 ++ [t452]) l0 (l0.length : Int) (wrap64 (x8_1 + 1))) else (none))) else (if x3_1.length < 5864062014805 then (incunableref04_Codes.l0 k1 l0 (x3_1 ++ [[]]) l0 (l0.length : Int) (wrap64 (x8_1 + 1))) else (none))) = some r := H
      have A5 := Aside0.mk A50
      clear A50
      by_cases c6 : t451 = true
      ·subst c6
       have H1 : ((incunableref04_Code.f k1 l0 x8_1).bind fun t452 => (if x3_1.length < 5864062014805 then (incunableref04_Codes.l0 k1 l0 (x3_1 ++ [t452]) l0 (l0.length : Int) (wrap64 (x8_1 + 1))) else (none))) = some r := by rw [if_pos rfl] at H; exact H
       clear H
       have H := H1
       clear H1
       replace H := Option.bind_eq_some_iff.mp H
       obtain ⟨t452, A70, H⟩ := H
       replace H : (if x3_1.length < 5864062014805 then (incunableref04_Codes.l0 k1 l0 (x3_1 ++ [t452]) l0 (l0.length : Int) (wrap64 (x8_1 + 1))) else (none)) = some r := H
       have A7 := Aside0.mk A70
       clear A70
       by_cases c8 : x3_1.length < 5864062014805
       ·rw [if_pos c8] at H
        have LMc8 := Aside0.mk c8
        clear c8
        obtain ⟨y455, hy_⟩ : ∃ y_ : List (List Int), y_ = (x3_1 ++ [t452]) := ⟨_, rfl⟩
        replace H : (incunableref04_Codes.l0 k1 l0 y455 l0 (l0.length : Int) (wrap64 (x8_1 + 1))) = some r := rh
        have Ny455 := aE hy_
        clear hy_
        have H' := Aside0.mk H
        clear H
        have p449 : 0 ≤ (x8_1 : Int) := dt
        have q449 : x8_1 < (l0.length : Int) := dt
        obtain ⟨ad449, e449, hx449_0, hx449_1, hx449_2, hx449_3⟩ := at_T87 HR0.out x8_1 p449 q449
        cases e449
        replace hx449_0 := hcB HB.out hx449_0
        replace hx449_1 := hcB HB.out hx449_1
        replace hx449_2 := hcB HB.out hx449_2
        replace hx449_3 := hcB HB.out hx449_3
        replace p449 := eq_true p449
        replace q449 := eq_true q449
        go_wp2_with (first | ((with_reducible refine gd 5 rfl ?_); refine bx 5 #[.int .i64 0, .int .i64 0, .int .i64 0, .int .i64 0] 87 rfl rfl ?_; intro gb450 hg w9 hbox hb; have n_ := aC (Kd.S_below (by (with_reducible repeat (first | apply Kd.S_alloc | apply Kd.S_drewN | apply Kd.S_drew)); exact HO_3.out) hb) (aC (bs hb) (aC hbox (aC (gz hg) (aE (gz hg))))); clear HO_3 HB; obtain ⟨HO_3, HB, BK450, GW450, GE450⟩ := n_; clear hb hbox hg; obtain ⟨hcz10_0, hcz10_1, hcz10_2, hcz10_3, hfz10_0, hfz10_1, hfz10_2, hfz10_3⟩ := cz4f BK450.out) | ((with_reducible refine gf 61 rfl ?_); refine gL (some 14) rfl rfl Tryd.func61 rfl #[.agg #[.int .i64 ((rd_T87 l0 x8_1).f0), .int .i64 ((rd_T87 l0 x8_1).f1), .int .i64 ((rd_T87 l0 x8_1).f2), .int .i64 ((rd_T87 l0 x8_1).f3)]] rfl ?_; (with_reducible refine (incunableref04_used.calls ((rd_T87 l0 x8_1).f0) ((rd_T87 l0 x8_1).f1) ((rd_T87 l0 x8_1).f2) ((rd_T87 l0 x8_1).f3) true _ A5.out).mono ?_); rintro e w11 ⟨rfl, hb⟩; refine ⟨_, rfl, ?_⟩; have n_ := aC (Kd.S_below (by (with_reducible repeat (first | apply Kd.S_alloc | apply Kd.S_drewN | apply Kd.S_drew)); exact (Kd.S_mono (Kd.S_far (p := ⟨gb450, 3, none⟩) (Kd.S_far (p := ⟨gb450, 2, none⟩) (Kd.S_far (p := ⟨gb450, 1, none⟩) (Kd.S_far (p := ⟨gb450, 0, none⟩) (Kd.S_types HO_3.out BK450.out (by decide)) (fun _ hk => hk.2) (.int .i64 ((rd_T87 l0 x8_1).f0))) (fun _ hk => hk.2) (.int .i64 ((rd_T87 l0 x8_1).f1))) (fun _ hk => hk.2) (.int .i64 ((rd_T87 l0 x8_1).f2))) (fun _ hk => hk.2) (.int .i64 ((rd_T87 l0 x8_1).f3))) (fun _ h_ => h_.1))) hb) (aC (blk_below (g := gb450) (o := .cells #[.int .i64 ((rd_T87 l0 x8_1).f0), .int .i64 ((rd_T87 l0 x8_1).f1), .int .i64 ((rd_T87 l0 x8_1).f2), .int .i64 ((rd_T87 l0 x8_1).f3)] 87 (0, 0)) (by (with_reducible repeat (first | refine blk_drewN ?_ _ | refine blk_drew ?_ | refine blk_alloc ?_ _)); refine blk_put (cs := #[.int .i64 ((rd_T87 l0 x8_1).f0), .int .i64 ((rd_T87 l0 x8_1).f1), .int .i64 ((rd_T87 l0 x8_1).f2), .int .i64 0]) ?_ 3 _ rfl; (with_reducible repeat (first | refine blk_drewN ?_ _ | refine blk_drew ?_ | refine blk_alloc ?_ _)); refine blk_put (cs := #[.int .i64 ((rd_T87 l0 x8_1).f0), .int .i64 ((rd_T87 l0 x8_1).f1), .int .i64 0, .int .i64 0]) ?_ 2 _ rfl; (with_reducible repeat (first | refine blk_drewN ?_ _ | refine blk_drew ?_ | refine blk_alloc ?_ _)); refine blk_put (cs := #[.int .i64 ((rd_T87 l0 x8_1).f0), .int .i64 0, .int .i64 0, .int .i64 0]) ?_ 1 _ rfl; (with_reducible repeat (first | refine blk_drewN ?_ _ | refine blk_drew ?_ | refine blk_alloc ?_ _)); refine blk_put (cs := #[.int .i64 0, .int .i64 0, .int .i64 0, .int .i64 0]) ?_ 0 _ rfl; (with_reducible repeat (first | refine blk_drewN ?_ _ | refine blk_drew ?_ | refine blk_alloc ?_ _)); exact BK450.out) hb) (aE (bs hb))); clear HO_3 BK450 HB; obtain ⟨HO_3, BK450, HB⟩ := n_; (try clear hb)) | ((with_reducible refine gf 62 rfl ?_); refine gL (some 18) rfl rfl Tryd.func62 rfl #[.slice (some ad449) l0.length c0, .int .i64 x8_1] rfl ?_; (with_reducible refine (incunableref04_Code.calls k1 _ _ l0 x8_1 t452 _ ?side1 ?side2 A7.out).mono ?_); (case side1 => exact cU (Kd.C_below HR0.out HB.out)); (case side2 => exact HC0.out); rintro e w12 ⟨v453, rfl, ho0, hb⟩; refine ⟨_, rfl, ?_⟩; have n_ := aC (Kd.S_elder' (by (with_reducible repeat (first | apply Kd.S_alloc | apply Kd.S_drewN | apply Kd.S_drew)); exact HO_3.out) (Kd.R_base ho0) hb) (aC (Kd.R_lower ho0 bz) (aC (blk_below (g := gb450) (o := .cells #[.int .i64 ((rd_T87 l0 x8_1).f0), .int .i64 ((rd_T87 l0 x8_1).f1), .int .i64 ((rd_T87 l0 x8_1).f2), .int .i64 ((rd_T87 l0 x8_1).f3)] 87 (0, 0)) (bU BK450.out) hb) (aE (bs hb)))); clear HO_3 BK450 HB; obtain ⟨HO_3, HO454, BK450, HB⟩ := n_; (try clear hb); (try clear ho0); obtain ⟨Ao14, co14, eo14⟩ := Kd.R_slice HO454.out; subst eo14) | ((with_reducible refine gate_builtin (b := .append) (xs := #[.tmp 15, .tmp 19]) rfl ?_); at_builtin; refine Kd.S_append (Kd.slice 5 (Kd.int .u8)) (w0 := w) w.heap.size rfl (.tmp 15) (.tmp 19) 73 22 (.slice none 0 0) 24 rfl Tryd.underlying73 info22 rfl (by decide) (by omega) u3 x3_1 t452 [.slice Ao14 t452.length co14] (fun _ => True) (fun k_ => some k_ = (.slice Ao14 t452.length co14 : Value).ownBlock) rfl rfl ?aP (fun k_ hk_ => ((Kd.R_mono (ok' := fun k_ => ((fun _ => True)) k_ ∧ some k_ ≠ (u3 : Value).ownBlock) (Kd.R_apart' (HO454.out) (Kd.S_typed HO_3.out) (by decide)) (fun k_ hk => ⟨trivial, hk.2⟩))).1 k_ hk_.symm) ?aF ?aO ?aB ?aS ?aL ?_; (case aP => exact Kd.M_row (Kd.R_mono (Kd.R_tight rfl (Kd.R_mono (ok' := fun k_ => ((fun _ => True)) k_ ∧ some k_ ≠ (u3 : Value).ownBlock) (Kd.R_apart' (HO454.out) (Kd.S_typed HO_3.out) (by decide)) (fun k_ hk => ⟨trivial, hk.2⟩))) (fun _ h_ => h_))); (case aB => exact bl); (case aF => exact (fun _ _ => trivial)); (case aO => exact (by (with_reducible repeat (first | apply Kd.S_alloc | apply Kd.S_drewN | apply Kd.S_drew)); exact Kd.S_mono HO_3.out (fun k_ hk => ⟨trivial, fun e_ => hk.2 e_⟩))); (case aS => exact bz); (case aL => have := LMc8.out; omega); intro v456 w13 ho hb hg hat; rw [← Ny455.out] at ho; have n_ := aC (blk_grown (g := gb450) (o := .cells #[.int .i64 ((rd_T87 l0 x8_1).f0), .int .i64 ((rd_T87 l0 x8_1).f1), .int .i64 ((rd_T87 l0 x8_1).f2), .int .i64 ((rd_T87 l0 x8_1).f3)] 87 (0, 0)) (bU BK450.out) hg (Kd.S_ne HO_3.out BK450.out (by decide))) (aC hb (aE ho)); clear BK450 HB HO_3 HO454; obtain ⟨BK450, HB, HO457⟩ := n_; clear ho hb hg hat))
        go_roundg k1
        case measure => have := HK1.out; omega
        case rel => exact ⟨(y455), (wrap64 (x8_1 + 1)), rq, H', ⟨by have := HK1.out; omega⟩, ⟨by (with_reducible repeat (first | apply Kd.S_alloc | apply Kd.S_drewN | apply Kd.S_drew)); exact HO457.out⟩, ⟨bl⟩⟩
       ·rw [if_neg c8] at H
        exact absurd H (by simp)
      ·replace c6 := Bool.eq_false_iff.mpr c6
       subst c6
       have H1 : (if x3_1.length < 5864062014805 then (incunableref04_Codes.l0 k1 l0 (x3_1 ++ [[]]) l0 (l0.length : Int) (wrap64 (x8_1 + 1))) else (none)) = some r := by rw [if_neg (show ¬ (false = true) by decide)] at H; exact H
       clear H
       have H := H1
       clear H1
       by_cases c15 : x3_1.length < 5864062014805
       ·rw [if_pos c15] at H
        have LMc15 := Aside0.mk c15
        clear c15
        obtain ⟨y458, hy_⟩ : ∃ y_ : List (List Int), y_ = (x3_1 ++ [[]]) := ⟨_, rfl⟩
        replace H : (incunableref04_Codes.l0 k1 l0 y458 l0 (l0.length : Int) (wrap64 (x8_1 + 1))) = some r := rh
        have Ny458 := aE hy_
        clear hy_
        have H' := Aside0.mk H
        clear H
        have p449 : 0 ≤ (x8_1 : Int) := dt
        have q449 : x8_1 < (l0.length : Int) := dt
        obtain ⟨ad449, e449, hx449_0, hx449_1, hx449_2, hx449_3⟩ := at_T87 HR0.out x8_1 p449 q449
        cases e449
        replace hx449_0 := hcB HB.out hx449_0
        replace hx449_1 := hcB HB.out hx449_1
        replace hx449_2 := hcB HB.out hx449_2
        replace hx449_3 := hcB HB.out hx449_3
        replace p449 := eq_true p449
        replace q449 := eq_true q449
        go_wp2_with (first | ((with_reducible refine gd 5 rfl ?_); refine bx 5 #[.int .i64 0, .int .i64 0, .int .i64 0, .int .i64 0] 87 rfl rfl ?_; intro gb450 hg w16 hbox hb; have n_ := aC (Kd.S_below (by (with_reducible repeat (first | apply Kd.S_alloc | apply Kd.S_drewN | apply Kd.S_drew)); exact HO_3.out) hb) (aC (bs hb) (aC hbox (aC (gz hg) (aE (gz hg))))); clear HO_3 HB; obtain ⟨HO_3, HB, BK450, GW450, GE450⟩ := n_; clear hb hbox hg; obtain ⟨hcz17_0, hcz17_1, hcz17_2, hcz17_3, hfz17_0, hfz17_1, hfz17_2, hfz17_3⟩ := cz4f BK450.out) | ((with_reducible refine gf 61 rfl ?_); refine gL (some 14) rfl rfl Tryd.func61 rfl #[.agg #[.int .i64 ((rd_T87 l0 x8_1).f0), .int .i64 ((rd_T87 l0 x8_1).f1), .int .i64 ((rd_T87 l0 x8_1).f2), .int .i64 ((rd_T87 l0 x8_1).f3)]] rfl ?_; (with_reducible refine (incunableref04_used.calls ((rd_T87 l0 x8_1).f0) ((rd_T87 l0 x8_1).f1) ((rd_T87 l0 x8_1).f2) ((rd_T87 l0 x8_1).f3) false _ A5.out).mono ?_); rintro e w18 ⟨rfl, hb⟩; refine ⟨_, rfl, ?_⟩; have n_ := aC (Kd.S_below (by (with_reducible repeat (first | apply Kd.S_alloc | apply Kd.S_drewN | apply Kd.S_drew)); exact (Kd.S_mono (Kd.S_far (p := ⟨gb450, 3, none⟩) (Kd.S_far (p := ⟨gb450, 2, none⟩) (Kd.S_far (p := ⟨gb450, 1, none⟩) (Kd.S_far (p := ⟨gb450, 0, none⟩) (Kd.S_types HO_3.out BK450.out (by decide)) (fun _ hk => hk.2) (.int .i64 ((rd_T87 l0 x8_1).f0))) (fun _ hk => hk.2) (.int .i64 ((rd_T87 l0 x8_1).f1))) (fun _ hk => hk.2) (.int .i64 ((rd_T87 l0 x8_1).f2))) (fun _ hk => hk.2) (.int .i64 ((rd_T87 l0 x8_1).f3))) (fun _ h_ => h_.1))) hb) (aC (blk_below (g := gb450) (o := .cells #[.int .i64 ((rd_T87 l0 x8_1).f0), .int .i64 ((rd_T87 l0 x8_1).f1), .int .i64 ((rd_T87 l0 x8_1).f2), .int .i64 ((rd_T87 l0 x8_1).f3)] 87 (0, 0)) (by (with_reducible repeat (first | refine blk_drewN ?_ _ | refine blk_drew ?_ | refine blk_alloc ?_ _)); refine blk_put (cs := #[.int .i64 ((rd_T87 l0 x8_1).f0), .int .i64 ((rd_T87 l0 x8_1).f1), .int .i64 ((rd_T87 l0 x8_1).f2), .int .i64 0]) ?_ 3 _ rfl; (with_reducible repeat (first | refine blk_drewN ?_ _ | refine blk_drew ?_ | refine blk_alloc ?_ _)); refine blk_put (cs := #[.int .i64 ((rd_T87 l0 x8_1).f0), .int .i64 ((rd_T87 l0 x8_1).f1), .int .i64 0, .int .i64 0]) ?_ 2 _ rfl; (with_reducible repeat (first | refine blk_drewN ?_ _ | refine blk_drew ?_ | refine blk_alloc ?_ _)); refine blk_put (cs := #[.int .i64 ((rd_T87 l0 x8_1).f0), .int .i64 0, .int .i64 0, .int .i64 0]) ?_ 1 _ rfl; (with_reducible repeat (first | refine blk_drewN ?_ _ | refine blk_drew ?_ | refine blk_alloc ?_ _)); refine blk_put (cs := #[.int .i64 0, .int .i64 0, .int .i64 0, .int .i64 0]) ?_ 0 _ rfl; (with_reducible repeat (first | refine blk_drewN ?_ _ | refine blk_drew ?_ | refine blk_alloc ?_ _)); exact BK450.out) hb) (aE (bs hb))); clear HO_3 BK450 HB; obtain ⟨HO_3, BK450, HB⟩ := n_; (try clear hb)) | ((with_reducible refine gate_builtin (b := .append) (xs := #[.tmp 21, .tmp 22]) rfl ?_); at_builtin; refine Kd.S_append (Kd.slice 5 (Kd.int .u8)) (w0 := w) w.heap.size rfl (.tmp 21) (.tmp 22) 73 22 (.slice none 0 0) 24 rfl Tryd.underlying73 info22 rfl (by decide) (by omega) u3 x3_1 [] [.slice none 0 0] (fun _ => True) (fun _ => False) rfl rfl ?aP (fun _ hk => hk.elim) ?aF ?aO ?aB ?aS ?aL ?_; (case aP => exact ⟨_, rfl, Kd.R_nil _ _ _ _ _⟩); (case aB => exact bl); (case aF => exact (fun _ _ => trivial)); (case aO => exact (by (with_reducible repeat (first | apply Kd.S_alloc | apply Kd.S_drewN | apply Kd.S_drew)); exact Kd.S_mono HO_3.out (fun k_ hk => ⟨trivial, fun e_ => e_⟩))); (case aS => exact bz); (case aL => have := LMc15.out; omega); intro v459 w19 ho hb hg hat; rw [← Ny458.out] at ho; have n_ := aC (blk_grown (g := gb450) (o := .cells #[.int .i64 ((rd_T87 l0 x8_1).f0), .int .i64 ((rd_T87 l0 x8_1).f1), .int .i64 ((rd_T87 l0 x8_1).f2), .int .i64 ((rd_T87 l0 x8_1).f3)] 87 (0, 0)) (bU BK450.out) hg (Kd.S_ne HO_3.out BK450.out (by decide))) (aC hb (aE ho)); clear BK450 HB HO_3; obtain ⟨BK450, HB, HO460⟩ := n_; clear ho hb hg hat))
        go_roundg k1
        case measure => have := HK1.out; omega
        case rel => exact ⟨(y458), (wrap64 (x8_1 + 1)), rq, H', ⟨by have := HK1.out; omega⟩, ⟨by (with_reducible repeat (first | apply Kd.S_alloc | apply Kd.S_drewN | apply Kd.S_drew)); exact HO460.out⟩, ⟨bl⟩⟩
       ·rw [if_neg c15] at H
        exact absurd H (by simp)
     ·rw [if_neg c4] at H
      exact absurd H (by simp)
    ·rw [if_neg c3] at H
     exact absurd H (by simp)
   ·rw [if_neg c2] at H
    have c2b0 := decide_eq_false c2
    clear c2
    obtain rfl := Option.some.inj H
    go_wp2
    go_ret
    exact ⟨_, re, by (with_reducible repeat (first | apply Kd.S_alloc | apply Kd.S_drewN | apply Kd.S_drew)); exact HO_3.out, bl⟩

/-! ### incunableref04_begins: function 128 -/
def incunableref04_begins.l0 : Nat → List Int → List Int → Int → Int → Int → Option (Bool)
 | 0, _, _, _, _, _ => none
 | k + 1, x0, x1, x2, x3, x9 => if x9 < x3 then ((incunableref04_BitAt.f x1 (wrap64 (x2 + x9))).bind fun bt461 => (if 0 ≤ x9 then (if x9 < (x0.length : Int) then (if (wrap64 (rd x0 x9)) = bt461.1 then (incunableref04_begins.l0 k x0 x1 x2 x3 (wrap64 (x9 + 1))) else (some false)) else (none)) else (none))) else (some true)
def incunableref04_begins.f (k : Nat) (l0 : List Int) (l1 : List Int) (a2 : Int) (a3 : Int) : Option (Bool) := if (l0.length : Int) < a3 then (some false) else (incunableref04_begins.l0 k l0 l1 a2 a3 0)
theorem incunableref04_begins.mono_l : ∀ k, (∀ y0 y1 y2 y3 y4, LeO (incunableref04_begins.l0 k y0 y1 y2 y3 y4) (incunableref04_begins.l0 (k + 1) y0 y1 y2 y3 y4))
 | 0 => fun _ _ _ _ _ r h => by simp [incunableref04_begins.l0] at h
 | k + 1 => by
  have ih0 := incunableref04_begins.mono_l k
  ·intro y0 y1 y2 y3 y4
   unfold incunableref04_begins.l0
   repeat' first
   | (with_reducible exact ih0 _ _ _ _ _)
   | (with_reducible first | exact LeO.refl _ | exact LeO.none _ | refine LeO.ite ?_ ?_ | refine LeO.bind ?_ (fun _ => ?_))
   | exact ih0 _ _ _ _ _
   | exact LeO.none _ | refine LeO.ite ?_ ?_ | refine LeO.bind ?_ (fun _ => ?_)
theorem incunableref04_begins.mono : ∀ a0 a1 a2 a3 k, LeO (incunableref04_begins.f k a0 a1 a2 a3) (incunableref04_begins.f (k + 1) a0 a1 a2 a3) := by
 intro a0 a1 a2 a3 k
 have ih0 := incunableref04_begins.mono_l k
 unfold incunableref04_begins.f
 repeat' first
   | (with_reducible exact ih0 _ _ _ _ _)
   | (with_reducible first | exact LeO.refl _ | exact LeO.none _ | refine LeO.ite ?_ ?_ | refine LeO.bind ?_ (fun _ => ?_))
   | exact ih0 _ _ _ _ _
   | exact LeO.none _ | refine LeO.ite ?_ ?_ | refine LeO.bind ?_ (fun _ => ?_)
set_option maxHeartbeats 8000000 in
set_option maxRecDepth 100000 in
theorem incunableref04_begins.calls (k : Nat) (A0 : Option Addr) (c0 : Nat) (l0 : List Int) (A1 : Option Addr) (c1 : Nat) (l1 : List Int) (a2 : Int) (a3 : Int) (r : Bool) (w : World) (hr0 : Kd.C (Kd.int .u8) w A0 l0.length l0) (hc0 : l0.length ≤ c0) (hr1 : Kd.C (Kd.int .u8) w A1 l1.length l1) (hc1 : l1.length ≤ c1) (h : incunableref04_begins.f k l0 l1 a2 a3 = some r) :
  Calls Tryd.prog 128 #[.slice A0 l0.length c0, .slice A1 l1.length c1, .int .i64 a2, .int .i64 a3] w fun e w' => e = .returned (.bool r) ∧ Drawn0 w w' := by
 have HR0 := Aside0.mk hr0
 have HC0 := Aside0.mk hc0
 clear hr0 hc0
 have HR1 := Aside0.mk hr1
 have HC1 := Aside0.mk hc1
 clear hr1 hc1
 have H : (if (l0.length : Int) < a3 then (some false) else (incunableref04_begins.l0 k l0 l1 a2 a3 0)) = some r := h
 clear h
 by_cases c5 : (l0.length : Int) < a3
 ·rw [if_pos c5] at H
  have c5b0 := decide_eq_true c5
  clear c5
  obtain rfl := Option.some.inj H
  go_enter Tryd.func128, Tryd.ntmps128
  go_wp2
  go_ret
  exact ⟨by first | rfl | (simp; done) | (simp [*]; done), by repeat (first | exact Drawn0.refl _ | apply Drawn0.step)⟩
 ·rw [if_neg c5] at H
  have c5b0 := decide_eq_false c5
  clear c5
  have H' := Aside0.mk H
  clear H
  go_enter Tryd.func128, Tryd.ntmps128
  go_wp2
  go_loopg [9] k (fun kq v9 w' => ∃ (x9_1 : Int), v9 = .int .i64 x9_1 ∧ Aside0 (incunableref04_begins.l0 kq l0 l1 a2 a3 x9_1 = some r) ∧ Aside0 (kq ≤ k) ∧ Drawn0 w w')
  case atStart => exact ⟨(0), rq, H', ⟨Nat.le_refl _⟩, by repeat (first | exact Drawn0.refl _ | apply Drawn0.step)⟩
  case round =>
   clear H'
   try clear c1
   obtain ⟨x9_1, rfl, HA, HK1, ⟨m1, rfl⟩⟩ := hrel
   cases gk with
   | zero => exact absurd HA.out (by simp [incunableref04_begins.l0])
   | succ k1 =>
    have H := HA.out
    clear HA
    simp only [incunableref04_begins.l0] at H
    by_cases c6 : x9_1 < a3
    ·rw [if_pos c6] at H
     have c6b0 := decide_eq_true c6
     clear c6
     replace H := Option.bind_eq_some_iff.mp H
     obtain ⟨⟨t461, t462⟩, A70, H⟩ := H
     replace H : (if 0 ≤ x9_1 then (if x9_1 < (l0.length : Int) then (if (wrap64 (rd l0 x9_1)) = t461 then (incunableref04_begins.l0 k1 l0 l1 a2 a3 (wrap64 (x9_1 + 1))) else (some false)) else (none)) else (none)) = some r := H
     have A7 := Aside0.mk A70
     clear A70
     by_cases c8 : 0 ≤ x9_1
     ·rw [if_pos c8] at H
      have c8b0 := decide_eq_true c8
      clear c8
      by_cases c9 : x9_1 < (l0.length : Int)
      ·rw [if_pos c9] at H
       have c9b0 := decide_eq_true c9
       clear c9
       by_cases c10 : (wrap64 (rd l0 x9_1)) = t461
       ·rw [if_pos c10] at H
        have c10b0 := beq_iff_eq.mpr c10
        have c10b1 := bne_eq_false_iff_eq.mpr c10
        clear c10
        have H' := Aside0.mk H
        clear H
        go_wp2_with (first | ((with_reducible refine gf 35 rfl ?_); refine gL (some 26) rfl rfl Tryd.func35 rfl #[.slice A1 l1.length c1, .int .i64 (wrap64 (a2 + x9_1))] rfl ?_; (with_reducible refine (incunableref04_BitAt.calls _ _ l1 (wrap64 (a2 + x9_1)) t461 t462 _ ?side1 ?side2 A7.out).mono ?_); (case side1 => exact cU HR1.out); (case side2 => exact HC1.out); rintro e w' ⟨rfl, ⟨nd, rfl⟩⟩; refine ⟨_, rfl, ?_⟩; have p463 : 0 ≤ (x9_1 : Int) := dt; have q463 : x9_1 < (l0.length : Int) := dt; obtain ⟨ad463, e463, hx463_0⟩ := Kd.at_int HR0.out x9_1 p463 q463; cases e463; replace p463 := eq_true p463; replace q463 := eq_true q463))
        go_roundg k1
        case measure => have := HK1.out; omega
        case rel => exact ⟨(wrap64 (x9_1 + 1)), rq, H', ⟨by have := HK1.out; omega⟩, by repeat (first | exact Drawn0.refl _ | apply Drawn0.step)⟩
       ·rw [if_neg c10] at H
        have c10b0 := beq_eq_false_iff_ne.mpr c10
        have c10b1 := bne_iff_ne.mpr c10
        obtain rfl := Option.some.inj H
        go_wp2_with (first | ((with_reducible refine gf 35 rfl ?_); refine gL (some 26) rfl rfl Tryd.func35 rfl #[.slice A1 l1.length c1, .int .i64 (wrap64 (a2 + x9_1))] rfl ?_; (with_reducible refine (incunableref04_BitAt.calls _ _ l1 (wrap64 (a2 + x9_1)) t461 t462 _ ?side1 ?side2 A7.out).mono ?_); (case side1 => exact cU HR1.out); (case side2 => exact HC1.out); rintro e w' ⟨rfl, ⟨nd, rfl⟩⟩; refine ⟨_, rfl, ?_⟩; have p463 : 0 ≤ (x9_1 : Int) := dt; have q463 : x9_1 < (l0.length : Int) := dt; obtain ⟨ad463, e463, hx463_0⟩ := Kd.at_int HR0.out x9_1 p463 q463; cases e463; replace p463 := eq_true p463; replace q463 := eq_true q463))
        go_ret
        exact ⟨by first | rfl | (simp; done) | (simp [*]; done), by repeat (first | exact Drawn0.refl _ | apply Drawn0.step)⟩
      ·rw [if_neg c9] at H
       exact absurd H (by simp)
     ·rw [if_neg c8] at H
      exact absurd H (by simp)
    ·rw [if_neg c6] at H
     have c6b0 := decide_eq_false c6
     clear c6
     obtain rfl := Option.some.inj H
     go_wp2
     go_ret
     exact ⟨by first | rfl | (simp; done) | (simp [*]; done), by repeat (first | exact Drawn0.refl _ | apply Drawn0.step)⟩

/-! ### incunableref04_inner: function 129 -/
def incunableref04_inner.l0 : Nat → List Int → Int → Int → Int → Int → Int → Int → Int → Option (Bool × Int × Int × Int)
 | 0, _, _, _, _, _, _, _, _ => none
 | k + 1, x1, x2, x9, x10, x465000, x465001, x465002, x465003 => if x10 < x465001 then ((incunableref04_BitAt.f x1 (wrap64 (x2 + x10))).bind fun bt466 => (if bt466.2 = true then (incunableref04_inner.l0 k x1 x2 (wrap64 ((wrap64 (2 * x9)) + bt466.1)) (wrap64 (x10 + 1)) x465000 x465001 x465002 x465003) else (some (false, 0, 0, 6)))) else (if x465003 = 1 then (some (false, wrap64 (x465002 - x9), wrap64 (x2 + x465001), 0)) else (if x465003 = 2 then (some (true, 0, wrap64 (x2 + x465001), 0)) else (some (false, wrap64 (x465002 + x9), wrap64 (x2 + x465001), 0))))
def incunableref04_inner.f (k : Nat) (a0_0 : Int) (a0_1 : Int) (a0_2 : Int) (a0_3 : Int) (l1 : List Int) (a2 : Int) : Option (Bool × Int × Int × Int) := incunableref04_inner.l0 k l1 a2 0 0 a0_0 a0_1 a0_2 a0_3
theorem incunableref04_inner.mono_l : ∀ k, (∀ y0 y1 y2 y3 y4 y5 y6 y7, LeO (incunableref04_inner.l0 k y0 y1 y2 y3 y4 y5 y6 y7) (incunableref04_inner.l0 (k + 1) y0 y1 y2 y3 y4 y5 y6 y7))
 | 0 => fun _ _ _ _ _ _ _ _ r h => by simp [incunableref04_inner.l0] at h
 | k + 1 => by
  have ih0 := incunableref04_inner.mono_l k
  ·intro y0 y1 y2 y3 y4 y5 y6 y7
   unfold incunableref04_inner.l0
   repeat' first
   | (with_reducible exact ih0 _ _ _ _ _ _ _ _)
   | (with_reducible first | exact LeO.refl _ | exact LeO.none _ | refine LeO.ite ?_ ?_ | refine LeO.bind ?_ (fun _ => ?_))
   | exact ih0 _ _ _ _ _ _ _ _
   | exact LeO.none _ | refine LeO.ite ?_ ?_ | refine LeO.bind ?_ (fun _ => ?_)
theorem incunableref04_inner.mono : ∀ a0 a1 a2 a3 a4 a5 k, LeO (incunableref04_inner.f k a0 a1 a2 a3 a4 a5) (incunableref04_inner.f (k + 1) a0 a1 a2 a3 a4 a5) := by
 intro a0 a1 a2 a3 a4 a5 k
 have ih0 := incunableref04_inner.mono_l k
 unfold incunableref04_inner.f
 repeat' first
   | (with_reducible exact ih0 _ _ _ _ _ _ _ _)
   | (with_reducible first | exact LeO.refl _ | exact LeO.none _ | refine LeO.ite ?_ ?_ | refine LeO.bind ?_ (fun _ => ?_))
   | exact ih0 _ _ _ _ _ _ _ _
   | exact LeO.none _ | refine LeO.ite ?_ ?_ | refine LeO.bind ?_ (fun _ => ?_)
set_option maxHeartbeats 8000000 in
set_option maxRecDepth 100000 in
theorem incunableref04_inner.calls (k : Nat) (a0_0 : Int) (a0_1 : Int) (a0_2 : Int) (a0_3 : Int) (A1 : Option Addr) (c1 : Nat) (l1 : List Int) (a2 : Int) (r1 : Bool) (r2 : Int) (r3 : Int) (r4 : Int) (w : World) (hr1 : Kd.C (Kd.int .u8) w A1 l1.length l1) (hc1 : l1.length ≤ c1) (h : incunableref04_inner.f k a0_0 a0_1 a0_2 a0_3 l1 a2 = some (r1, r2, r3, r4)) :
  Calls Tryd.prog 129 #[.agg #[.int .i64 a0_0, .int .i64 a0_1, .int .i64 a0_2, .int .i64 a0_3], .slice A1 l1.length c1, .int .i64 a2] w fun e w' => e = .returned (.tuple #[.agg #[.bool r1, .int .i64 r2], .int .i64 r3, .int .i64 r4]) ∧ Below w.heap.size w w' := by
 have hu87 := Tryd.underlying87
 have hu64 := Tryd.underlying64
 have HR1 := Aside0.mk hr1
 have HC1 := Aside0.mk hc1
 clear hr1 hc1
 have HB := Aside0.mk (Below.refl w.heap.size w)
 have H : (incunableref04_inner.l0 k l1 a2 0 0 a0_0 a0_1 a0_2 a0_3) = some (r1, r2, r3, r4) := h
 clear h
 have H' := Aside0.mk H
 clear H
 go_enter Tryd.func129, Tryd.ntmps129
 go_wp2_with (first | ((with_reducible refine gd 3 rfl ?_); refine bx 3 #[.int .i64 a0_0, .int .i64 a0_1, .int .i64 a0_2, .int .i64 a0_3] 87 rfl rfl ?_; intro gb464 hg w4 hbox hb; have n_ := aC (bs hb) (aC hbox (aC (gz hg) (aE (gz hg)))); clear HB; obtain ⟨HB, BK464, GW464, GE464⟩ := n_; clear hb hbox hg) | ((with_reducible refine gd 6 rfl ?_); refine bx 6 #[.bool false, .int .i64 0] 64 rfl rfl ?_; intro gb465 hg w5 hbox hb; have n_ := aC (blk_below (bU BK464.out) hb) (aC (bs hb) (aC hbox (aC (gz hg) (aC (gz hg) (aC (gn hg (bU BK464.out)) (aE (gm hg (bU BK464.out)))))))); clear BK464 HB; obtain ⟨BK464, HB, BK465, GW465, GE465, NB464_465, NB465_464⟩ := n_; clear hb hbox hg))
 go_loopg [9, 10] k (fun kq v9 v10 w' => ∃ (x9_1 : Int) (x10_1 : Int) (x466000_1 : Bool) (x466001_1 : Int), v9 = .int .i64 x9_1 ∧ v10 = .int .i64 x10_1 ∧ Aside0 (incunableref04_inner.l0 kq l1 a2 x9_1 x10_1 a0_0 a0_1 a0_2 a0_3 = some (r1, r2, r3, r4)) ∧ Aside0 (kq ≤ k) ∧ Aside0 (w'.heap[gb464]? = some (.cells #[.int .i64 a0_0, .int .i64 a0_1, .int .i64 a0_2, .int .i64 a0_3] 87 (0, 0))) ∧ Aside0 (w'.heap[gb465]? = some (.cells #[.bool x466000_1, .int .i64 x466001_1] 64 (0, 0))) ∧ Aside0 (Below w.heap.size w w'))
 case atStart => exact ⟨(0), (0), (false), (0), rq, rq, H', ⟨Nat.le_refl _⟩, ⟨bU BK464.out⟩, ⟨bU BK465.out⟩, ⟨bl⟩⟩
 case round =>
  clear H'
  try clear c1
  obtain ⟨x9_1, x10_1, x466000_1, x466001_1, rfl, rfl, HA, HK1, BK464, BK465, HB⟩ := hrel
  cases gk with
  | zero => exact absurd HA.out (by simp [incunableref04_inner.l0])
  | succ k1 =>
   have H := HA.out
   clear HA
   simp only [incunableref04_inner.l0] at H
   by_cases c6 : x10_1 < a0_1
   ·rw [if_pos c6] at H
    have c6b0 := decide_eq_true c6
    clear c6
    replace H := Option.bind_eq_some_iff.mp H
    obtain ⟨⟨t466, t467⟩, A70, H⟩ := H
    replace H : (if t467 = true then (incunableref04_inner.l0 k1 l1 a2 (wrap64 ((wrap64 (2 * x9_1)) + t466)) (wrap64 (x10_1 + 1)) a0_0 a0_1 a0_2 a0_3) else (some (false, 0, 0, 6))) = some (r1, r2, r3, r4) := H
    have A7 := Aside0.mk A70
    clear A70
    by_cases c8 : t467 = true
    ·subst c8
     have H1 : (incunableref04_inner.l0 k1 l1 a2 (wrap64 ((wrap64 (2 * x9_1)) + t466)) (wrap64 (x10_1 + 1)) a0_0 a0_1 a0_2 a0_3) = some (r1, r2, r3, r4) := by rw [if_pos rfl] at H; exact H
     clear H
     have H := H1
     clear H1
     have H' := Aside0.mk H
     clear H
     have hnb9 := NB464_465.out
     have hnc9 := NB465_464.out
     obtain ⟨hcz10_0, hcz10_1, hcz10_2, hcz10_3, hfz10_0, hfz10_1, hfz10_2, hfz10_3⟩ := cz4f BK464.out
     go_wp2_with (first | ((with_reducible refine gf 35 rfl ?_); refine gL (some 24) rfl rfl Tryd.func35 rfl #[.slice A1 l1.length c1, .int .i64 (wrap64 (a2 + x10_1))] rfl ?_; (with_reducible refine (incunableref04_BitAt.calls _ _ l1 (wrap64 (a2 + x10_1)) t466 true _ ?side1 ?side2 A7.out).mono ?_); (case side1 => exact cU (Kd.C_below HR1.out HB.out)); (case side2 => exact HC1.out); rintro e w' ⟨rfl, ⟨nd, rfl⟩⟩; refine ⟨_, rfl, ?_⟩))
     go_roundg k1
     case measure => have := HK1.out; omega
     case rel => exact ⟨(wrap64 ((wrap64 (2 * x9_1)) + t466)), (wrap64 (x10_1 + 1)), (x466000_1), (x466001_1), rq, rq, H', ⟨by have := HK1.out; omega⟩, ⟨bU BK464.out⟩, ⟨bU BK465.out⟩, ⟨bl⟩⟩
    ·replace c8 := Bool.eq_false_iff.mpr c8
     subst c8
     have H1 : (some (false, 0, 0, 6)) = some (r1, r2, r3, r4) := by rw [if_neg (show ¬ (false = true) by decide)] at H; exact H
     clear H
     have H := H1
     clear H1
     simp only [Option.some.injEq, Prod.mk.injEq] at H
     obtain ⟨rfl, rfl, rfl, rfl⟩ := H
     have hnb11 := NB464_465.out
     have hnc11 := NB465_464.out
     obtain ⟨hcz12_0, hcz12_1, hcz12_2, hcz12_3, hfz12_0, hfz12_1, hfz12_2, hfz12_3⟩ := cz4f BK464.out
     go_wp2_with (first | ((with_reducible refine gf 35 rfl ?_); refine gL (some 24) rfl rfl Tryd.func35 rfl #[.slice A1 l1.length c1, .int .i64 (wrap64 (a2 + x10_1))] rfl ?_; (with_reducible refine (incunableref04_BitAt.calls _ _ l1 (wrap64 (a2 + x10_1)) t466 false _ ?side1 ?side2 A7.out).mono ?_); (case side1 => exact cU (Kd.C_below HR1.out HB.out)); (case side2 => exact HC1.out); rintro e w' ⟨rfl, ⟨nd, rfl⟩⟩; refine ⟨_, rfl, ?_⟩; (try (rw [drewN_self wr]; generalize hq_ : World.drewN wr _ = wr; have n0_ : Aside0 (wr.heap[gb464]? = some (.cells #[.int .i64 a0_0, .int .i64 a0_1, .int .i64 a0_2, .int .i64 a0_3] 87 (0, 0))) := ⟨by rw [← hq_]; exact (bU BK464.out)⟩; have n1_ : Aside0 (wr.heap[gb465]? = some (.cells #[.bool x466000_1, .int .i64 x466001_1] 64 (0, 0))) := ⟨by rw [← hq_]; exact (bU BK465.out)⟩; have n2_ : Aside0 (Below w.heap.size w wr) := ⟨by rw [← hq_]; exact bl⟩; clear BK464 BK465 HB hq_; have BK464 := n0_; have BK465 := n1_; have HB := n2_; clear n0_ n1_ n2_)); obtain ⟨_, _, _, _, _, _, _, _⟩ := cz4f BK464.out; obtain ⟨_, _, _, _⟩ := cz2f BK465.out; obtain ⟨hcz13_0, hcz13_1, hfz13_0, hfz13_1⟩ := cz2f BK465.out))
     refine bodyPost_ret (results_ctt rfl _ _ gb465 64 #[.bool false, .int .i64 0] (0, 0) _ rfl (by (with_reducible repeat (first | refine blk_drewN ?_ _ | refine blk_drew ?_ | refine blk_alloc ?_ _)); refine blk_put (cs := #[.bool false, .int .i64 x466001_1]) ?_ 1 _ rfl; (with_reducible repeat (first | refine blk_drewN ?_ _ | refine blk_drew ?_ | refine blk_alloc ?_ _)); refine blk_put (cs := #[.bool x466000_1, .int .i64 x466001_1]) ?_ 0 _ rfl; (with_reducible repeat (first | refine blk_drewN ?_ _ | refine blk_drew ?_ | refine blk_alloc ?_ _)); exact BK465.out) Tryd.underlying64 rfl (by kernel_rfl)) rfl ?_
     exact ⟨re, bl⟩
   ·rw [if_neg c6] at H
    have c6b0 := decide_eq_false c6
    clear c6
    by_cases c14 : a0_3 = 1
    ·rw [if_pos c14] at H
     have c14b0 := beq_iff_eq.mpr c14
     have c14b1 := bne_eq_false_iff_eq.mpr c14
     clear c14
     simp only [Option.some.injEq, Prod.mk.injEq] at H
     obtain ⟨rfl, rfl, rfl, rfl⟩ := H
     have hnb15 := NB464_465.out
     have hnc15 := NB465_464.out
     obtain ⟨hcz16_0, hcz16_1, hcz16_2, hcz16_3, hfz16_0, hfz16_1, hfz16_2, hfz16_3⟩ := cz4f BK464.out
     obtain ⟨hcz17_0, hcz17_1, hfz17_0, hfz17_1⟩ := cz2f BK465.out
     go_wp2
     refine bodyPost_ret (results_ctt rfl _ _ gb465 64 #[.bool false, .int .i64 (wrap64 (a0_2 - x9_1))] (0, 0) _ rfl (by (with_reducible repeat (first | refine blk_drewN ?_ _ | refine blk_drew ?_ | refine blk_alloc ?_ _)); refine blk_put (cs := #[.bool false, .int .i64 x466001_1]) ?_ 1 _ rfl; (with_reducible repeat (first | refine blk_drewN ?_ _ | refine blk_drew ?_ | refine blk_alloc ?_ _)); refine blk_put (cs := #[.bool x466000_1, .int .i64 x466001_1]) ?_ 0 _ rfl; (with_reducible repeat (first | refine blk_drewN ?_ _ | refine blk_drew ?_ | refine blk_alloc ?_ _)); exact BK465.out) Tryd.underlying64 rfl (by kernel_rfl)) rfl ?_
     exact ⟨re, bl⟩
    ·rw [if_neg c14] at H
     have c14b0 := beq_eq_false_iff_ne.mpr c14
     have c14b1 := bne_iff_ne.mpr c14
     by_cases c18 : a0_3 = 2
     ·rw [if_pos c18] at H
      have c18b0 := beq_iff_eq.mpr c18
      have c18b1 := bne_eq_false_iff_eq.mpr c18
      clear c18
      simp only [Option.some.injEq, Prod.mk.injEq] at H
      obtain ⟨rfl, rfl, rfl, rfl⟩ := H
      have hnb19 := NB464_465.out
      have hnc19 := NB465_464.out
      obtain ⟨hcz20_0, hcz20_1, hcz20_2, hcz20_3, hfz20_0, hfz20_1, hfz20_2, hfz20_3⟩ := cz4f BK464.out
      obtain ⟨hcz21_0, hcz21_1, hfz21_0, hfz21_1⟩ := cz2f BK465.out
      go_wp2
      refine bodyPost_ret (results_ctt rfl _ _ gb465 64 #[.bool true, .int .i64 0] (0, 0) _ rfl (by (with_reducible repeat (first | refine blk_drewN ?_ _ | refine blk_drew ?_ | refine blk_alloc ?_ _)); refine blk_put (cs := #[.bool true, .int .i64 x466001_1]) ?_ 1 _ rfl; (with_reducible repeat (first | refine blk_drewN ?_ _ | refine blk_drew ?_ | refine blk_alloc ?_ _)); refine blk_put (cs := #[.bool x466000_1, .int .i64 x466001_1]) ?_ 0 _ rfl; (with_reducible repeat (first | refine blk_drewN ?_ _ | refine blk_drew ?_ | refine blk_alloc ?_ _)); exact BK465.out) Tryd.underlying64 rfl (by kernel_rfl)) rfl ?_
      exact ⟨re, bl⟩
     ·rw [if_neg c18] at H
      have c18b0 := beq_eq_false_iff_ne.mpr c18
      have c18b1 := bne_iff_ne.mpr c18
      simp only [Option.some.injEq, Prod.mk.injEq] at H
      obtain ⟨rfl, rfl, rfl, rfl⟩ := H
      have hnb22 := NB464_465.out
      have hnc22 := NB465_464.out
      obtain ⟨hcz23_0, hcz23_1, hcz23_2, hcz23_3, hfz23_0, hfz23_1, hfz23_2, hfz23_3⟩ := cz4f BK464.out
      obtain ⟨hcz24_0, hcz24_1, hfz24_0, hfz24_1⟩ := cz2f BK465.out
      go_wp2
      refine bodyPost_ret (results_ctt rfl _ _ gb465 64 #[.bool false, .int .i64 (wrap64 (a0_2 + x9_1))] (0, 0) _ rfl (by (with_reducible repeat (first | refine blk_drewN ?_ _ | refine blk_drew ?_ | refine blk_alloc ?_ _)); refine blk_put (cs := #[.bool false, .int .i64 x466001_1]) ?_ 1 _ rfl; (with_reducible repeat (first | refine blk_drewN ?_ _ | refine blk_drew ?_ | refine blk_alloc ?_ _)); refine blk_put (cs := #[.bool x466000_1, .int .i64 x466001_1]) ?_ 0 _ rfl; (with_reducible repeat (first | refine blk_drewN ?_ _ | refine blk_drew ?_ | refine blk_alloc ?_ _)); exact BK465.out) Tryd.underlying64 rfl (by kernel_rfl)) rfl ?_
      exact ⟨re, bl⟩

/-! ### incunableref04_Take: function 115 -/
mutual
def incunableref04_Take.l0 : Nat → List (S87) → List Int → Int → List (List Int) → Int → Option (Bool × Int × Int × Int)
 | 0, _, _, _, _, _ => none
 | k + 1, x0, x1, x2, x9, x10 => if x10 ≤ 16 then ((incunableref04_BitAt.f x1 (wrap64 ((wrap64 (x2 + x10)) - 1))).bind fun bt472 => (if bt472.2 = true then (incunableref04_Take.l1 k x0 x1 x2 x9 x10 false x9 (x9.length : Int) 0) else (some (false, 0, 0, 6)))) else (some (false, 0, 0, 3))
def incunableref04_Take.l1 : Nat → List (S87) → List Int → Int → List (List Int) → Int → Bool → List (List Int) → Int → Int → Option (Bool × Int × Int × Int)
 | 0, _, _, _, _, _, _, _, _, _ => none
 | k + 1, x0, x1, x2, x9, x10, x13, x34, x35, x36 => if x36 < x35 then (if 0 ≤ x36 then (if x36 < (x34.length : Int) then (if x36 < (x0.length : Int) then ((incunableref04_used.f ((rd_T87 x0 x36).f0) ((rd_T87 x0 x36).f1) ((rd_T87 x0 x36).f2) ((rd_T87 x0 x36).f3)).bind fun t476 => (if t476 = true then ((incunableref04_begins.f k (rd_L8 x34 x36) x1 x2 x10).bind fun t477 => (if t477 = true then (if ((rd_L8 x34 x36).length : Int) = x10 then ((incunableref04_inner.f k ((rd_T87 x0 x36).f0) ((rd_T87 x0 x36).f1) ((rd_T87 x0 x36).f2) ((rd_T87 x0 x36).f3) x1 (wrap64 (x2 + x10))).bind fun bt479 => (some (bt479.1, bt479.2.1, bt479.2.2.1, bt479.2.2.2))) else (incunableref04_Take.l1 k x0 x1 x2 x9 x10 true x34 x35 (wrap64 (x36 + 1)))) else (incunableref04_Take.l1 k x0 x1 x2 x9 x10 x13 x34 x35 (wrap64 (x36 + 1))))) else (incunableref04_Take.l1 k x0 x1 x2 x9 x10 x13 x34 x35 (wrap64 (x36 + 1))))) else (none)) else (none)) else (none)) else (if x13 = true then (incunableref04_Take.l0 k x0 x1 x2 x9 (wrap64 (x10 + 1))) else (some (false, 0, 0, 3)))
end
def incunableref04_Take.f (k : Nat) (l0 : List (S87)) (l1 : List Int) (a2 : Int) : Option (Bool × Int × Int × Int) := (incunableref04_Codes.f k l0).bind fun t469 => (incunableref04_Take.l0 k l0 l1 a2 t469 1)
theorem incunableref04_Take.mono_l : ∀ k, (∀ y0 y1 y2 y3 y4, LeO (incunableref04_Take.l0 k y0 y1 y2 y3 y4) (incunableref04_Take.l0 (k + 1) y0 y1 y2 y3 y4)) ∧ (∀ y0 y1 y2 y3 y4 y5 y6 y7 y8, LeO (incunableref04_Take.l1 k y0 y1 y2 y3 y4 y5 y6 y7 y8) (incunableref04_Take.l1 (k + 1) y0 y1 y2 y3 y4 y5 y6 y7 y8))
 | 0 => ⟨fun _ _ _ _ _ r h => by simp [incunableref04_Take.l0] at h, fun _ _ _ _ _ _ _ _ _ r h => by simp [incunableref04_Take.l1] at h⟩
 | k + 1 => by
  obtain ⟨ih0, ih1⟩ := incunableref04_Take.mono_l k
  refine ⟨?_, ?_⟩
  ·intro y0 y1 y2 y3 y4
   unfold incunableref04_Take.l0
   repeat' first
   | (with_reducible exact ih0 _ _ _ _ _)
   | (with_reducible exact ih1 _ _ _ _ _ _ _ _ _)
   | (with_reducible exact incunableref04_Codes.mono _ _)
   | (with_reducible exact incunableref04_begins.mono _ _ _ _ _)
   | (with_reducible exact incunableref04_inner.mono _ _ _ _ _ _ _)
   | (with_reducible first | exact LeO.refl _ | exact LeO.none _ | refine LeO.ite ?_ ?_ | refine LeO.bind ?_ (fun _ => ?_))
   | exact ih0 _ _ _ _ _
   | exact ih1 _ _ _ _ _ _ _ _ _
   | exact incunableref04_Codes.mono _ _
   | exact incunableref04_begins.mono _ _ _ _ _
   | exact incunableref04_inner.mono _ _ _ _ _ _ _
   | exact LeO.none _ | refine LeO.ite ?_ ?_ | refine LeO.bind ?_ (fun _ => ?_)
  ·intro y0 y1 y2 y3 y4 y5 y6 y7 y8
   unfold incunableref04_Take.l1
   repeat' first
   | (with_reducible exact ih0 _ _ _ _ _)
   | (with_reducible exact ih1 _ _ _ _ _ _ _ _ _)
   | (with_reducible exact incunableref04_Codes.mono _ _)
   | (with_reducible exact incunableref04_begins.mono _ _ _ _ _)
   | (with_reducible exact incunableref04_inner.mono _ _ _ _ _ _ _)
   | (with_reducible first | exact LeO.refl _ | exact LeO.none _ | refine LeO.ite ?_ ?_ | refine LeO.bind ?_ (fun _ => ?_))
   | exact ih0 _ _ _ _ _
   | exact ih1 _ _ _ _ _ _ _ _ _
   | exact incunableref04_Codes.mono _ _
   | exact incunableref04_begins.mono _ _ _ _ _
   | exact incunableref04_inner.mono _ _ _ _ _ _ _
   | exact LeO.none _ | refine LeO.ite ?_ ?_ | refine LeO.bind ?_ (fun _ => ?_)
theorem incunableref04_Take.mono : ∀ a0 a1 a2 k, LeO (incunableref04_Take.f k a0 a1 a2) (incunableref04_Take.f (k + 1) a0 a1 a2) := by
 intro a0 a1 a2 k
 obtain ⟨ih0, ih1⟩ := incunableref04_Take.mono_l k
 unfold incunableref04_Take.f
 repeat' first
   | (with_reducible exact ih0 _ _ _ _ _)
   | (with_reducible exact ih1 _ _ _ _ _ _ _ _ _)
   | (with_reducible exact incunableref04_Codes.mono _ _)
   | (with_reducible exact incunableref04_begins.mono _ _ _ _ _)
   | (with_reducible exact incunableref04_inner.mono _ _ _ _ _ _ _)
   | (with_reducible first | exact LeO.refl _ | exact LeO.none _ | refine LeO.ite ?_ ?_ | refine LeO.bind ?_ (fun _ => ?_))
   | exact ih0 _ _ _ _ _
   | exact ih1 _ _ _ _ _ _ _ _ _
   | exact incunableref04_Codes.mono _ _
   | exact incunableref04_begins.mono _ _ _ _ _
   | exact incunableref04_inner.mono _ _ _ _ _ _ _
   | exact LeO.none _ | refine LeO.ite ?_ ?_ | refine LeO.bind ?_ (fun _ => ?_)
set_option maxHeartbeats 8000000 in
set_option maxRecDepth 100000 in
theorem incunableref04_Take.calls (k : Nat) (A0 : Option Addr) (c0 : Nat) (l0 : List (S87)) (A1 : Option Addr) (c1 : Nat) (l1 : List Int) (a2 : Int) (r1 : Bool) (r2 : Int) (r3 : Int) (r4 : Int) (w : World) (hr0 : Kd.C k87 w A0 l0.length l0) (hc0 : l0.length ≤ c0) (hr1 : Kd.C (Kd.int .u8) w A1 l1.length l1) (hc1 : l1.length ≤ c1) (h : incunableref04_Take.f k l0 l1 a2 = some (r1, r2, r3, r4)) :
  Calls Tryd.prog 115 #[.slice A0 l0.length c0, .slice A1 l1.length c1, .int .i64 a2] w fun e w' => e = .returned (.tuple #[.agg #[.bool r1, .int .i64 r2], .int .i64 r3, .int .i64 r4]) ∧ Below w.heap.size w w' := by
 have hu64 := Tryd.underlying64
 have hu87 := Tryd.underlying87
 have HR0 := Aside0.mk hr0
 have HC0 := Aside0.mk hc0
 clear hr0 hc0
 have HR1 := Aside0.mk hr1
 have HC1 := Aside0.mk hc1
 clear hr1 hc1
 have HB := Aside0.mk (Below.refl w.heap.size w)
 have H : ((incunableref04_Codes.f k l0).bind fun t469 => (incunableref04_Take.l0 k l0 l1 a2 t469 1)) = some (r1, r2, r3, r4) := h
 clear h
 replace H := Option.bind_eq_some_iff.mp H
 obtain ⟨t469, A40, H⟩ := H
 replace H : (incunableref04_Take.l0 k l0 l1 a2 t469 1) = some (r1, r2, r3, r4) := H
 have A4 := Aside0.mk A40
 clear A40
 have H' := Aside0.mk H
 clear H
 go_enter Tryd.func115, Tryd.ntmps115
 go_wp2_with (first | ((with_reducible refine gd 6 rfl ?_); refine bx 6 #[.bool false, .int .i64 0] 64 rfl rfl ?_; intro gb468 hg w5 hbox hb; have n_ := aC (bs hb) (aC hbox (aC (gz hg) (aE (gz hg)))); clear HB; obtain ⟨HB, BK468, GW468, GE468⟩ := n_; clear hb hbox hg) | ((with_reducible refine gf 127 rfl ?_); refine gL (some 17) rfl rfl Tryd.func127 rfl #[.slice A0 l0.length c0] rfl ?_; (with_reducible refine (incunableref04_Codes.calls k _ _ l0 t469 _ ?side1 ?side2 A4.out).mono ?_); (case side1 => exact cU (Kd.C_below HR0.out HB.out)); (case side2 => exact HC0.out); rintro e w6 ⟨v470, rfl, ho0, hb⟩; refine ⟨_, rfl, ?_⟩; have n_ := aC (Kd.S_lower ho0 bz) (aC (blk_below (bU BK468.out) hb) (aE (bs hb))); clear BK468 HB; obtain ⟨HO471, BK468, HB⟩ := n_; (try clear hb); (try clear ho0)))
 go_loopg [10] k (fun kq v10 w' => ∃ (x10_1 : Int) (x469000_1 : Bool) (x469001_1 : Int), v10 = .int .i64 x10_1 ∧ Aside0 (incunableref04_Take.l0 kq l0 l1 a2 t469 x10_1 = some (r1, r2, r3, r4)) ∧ Aside0 (kq ≤ k) ∧ Aside0 (Kd.S (Kd.slice 5 (Kd.int .u8)) 22 w' w.heap.size (fun _ => True) v470 t469) ∧ Aside0 (w'.heap[gb468]? = some (.cells #[.bool x469000_1, .int .i64 x469001_1] 64 (0, 0))) ∧ Aside0 (Below w.heap.size w w'))
 case atStart => exact ⟨(1), (false), (0), rq, H', ⟨Nat.le_refl _⟩, ⟨by (with_reducible repeat (first | apply Kd.S_alloc | apply Kd.S_drewN | apply Kd.S_drew)); exact HO471.out⟩, ⟨bU BK468.out⟩, ⟨bl⟩⟩
 case round =>
  clear H'
  try clear c1
  obtain ⟨x10_1, x469000_1, x469001_1, rfl, HA, HK1, HO_9, BK468, HB⟩ := hrel
  cases gk with
  | zero => exact absurd HA.out (by simp [incunableref04_Take.l0])
  | succ k1 =>
   have H := HA.out
   clear HA
   simp only [incunableref04_Take.l0] at H
   by_cases c7 : x10_1 ≤ 16
   ·rw [if_pos c7] at H
    have c7b0 := decide_eq_true c7
    clear c7
    replace H := Option.bind_eq_some_iff.mp H
    obtain ⟨⟨t472, t473⟩, A80, H⟩ := H
    replace H : (if t473 = true then (incunableref04_Take.l1 k1 l0 l1 a2 t469 x10_1 false t469 (t469.length : Int) 0) else (some (false, 0, 0, 6))) = some (r1, r2, r3, r4) := H
    have A8 := Aside0.mk A80
    clear A80
    by_cases c9 : t473 = true
    ·subst c9
     have H1 : (incunableref04_Take.l1 k1 l0 l1 a2 t469 x10_1 false t469 (t469.length : Int) 0) = some (r1, r2, r3, r4) := by rw [if_pos rfl] at H; exact H
     clear H
     have H := H1
     clear H1
     have H' := Aside0.mk H
     clear H
     go_wp2_with (first | ((with_reducible refine gf 35 rfl ?_); refine gL (some 28) rfl rfl Tryd.func35 rfl #[.slice A1 l1.length c1, .int .i64 (wrap64 ((wrap64 (a2 + x10_1)) - 1))] rfl ?_; (with_reducible refine (incunableref04_BitAt.calls _ _ l1 (wrap64 ((wrap64 (a2 + x10_1)) - 1)) t472 true _ ?side1 ?side2 A8.out).mono ?_); (case side1 => exact cU (Kd.C_below HR1.out HB.out)); (case side2 => exact HC1.out); rintro e w' ⟨rfl, ⟨nd, rfl⟩⟩; refine ⟨_, rfl, ?_⟩; obtain ⟨Ao10, co10, eo10⟩ := Kd.S_slice HO_9.out; subst eo10))
     go_loopg [13, 36] k1 (fun kq v13 v36 w' => ∃ (x13_2 : Bool) (x36_2 : Int) (x469000_2 : Bool) (x469001_2 : Int), v13 = .bool x13_2 ∧ v36 = .int .i64 x36_2 ∧ Aside0 (incunableref04_Take.l1 kq l0 l1 a2 t469 x10_1 x13_2 t469 (t469.length : Int) x36_2 = some (r1, r2, r3, r4)) ∧ Aside0 (kq ≤ k1) ∧ Aside0 (Kd.S (Kd.slice 5 (Kd.int .u8)) 22 w' w.heap.size (fun _ => True) (.slice Ao10 t469.length co10) t469) ∧ Aside0 (Kd.S (Kd.slice 5 (Kd.int .u8)) 22 w' w.heap.size (fun _ => True) (.slice Ao10 t469.length co10) t469) ∧ Aside0 (w'.heap[gb468]? = some (.cells #[.bool x469000_2, .int .i64 x469001_2] 64 (0, 0))) ∧ Aside0 (Below w.heap.size w w'))
     case atStart => exact ⟨(false), (0), (x469000_1), (x469001_1), rq, rq, H', ⟨Nat.le_refl _⟩, ⟨by (with_reducible repeat (first | apply Kd.S_alloc | apply Kd.S_drewN | apply Kd.S_drew)); exact HO_9.out⟩, ⟨by (with_reducible repeat (first | apply Kd.S_alloc | apply Kd.S_drewN | apply Kd.S_drew)); exact HO_9.out⟩, ⟨bU BK468.out⟩, ⟨bl⟩⟩
     case round =>
      clear H'
      try clear c1
      obtain ⟨x13_2, x36_2, x469000_2, x469001_2, rfl, rfl, HA, HK2, HO_9, HO_34, BK468, HB⟩ := hrel
      cases gk with
      | zero => exact absurd HA.out (by simp [incunableref04_Take.l1])
      | succ k2 =>
       have H := HA.out
       clear HA
       simp only [incunableref04_Take.l1] at H
       by_cases c11 : x36_2 < (t469.length : Int)
       ·rw [if_pos c11] at H
        have c11b0 := decide_eq_true c11
        clear c11
        by_cases c12 : 0 ≤ x36_2
        ·rw [if_pos c12] at H
         have c12b0 := decide_eq_true c12
         clear c12
         by_cases c13 : x36_2 < (t469.length : Int)
         ·rw [if_pos c13] at H
          have c13b0 := decide_eq_true c13
          clear c13
          by_cases c14 : x36_2 < (l0.length : Int)
          ·rw [if_pos c14] at H
           have c14b0 := decide_eq_true c14
           clear c14
           replace H := Option.bind_eq_some_iff.mp H
           obtain ⟨t476, A150, H⟩ := H
           replace H : (if t476 = true then ((incunableref04_begins.f k2 (rd_L8 t469 x36_2) l1 a2 x10_1).bind fun t477 => (if t477 = true then (if ((rd_L8 t469 x36_2).length : Int) = x10_1 then ((incunableref04_inner.f k2 ((rd_T87 l0 x36_2).f0) ((rd_T87 l0 x36_2).f1) ((rd_T87 l0 x36_2).f2) ((rd_T87 l0 x36_2).f3) l1 (wrap64 (a2 + x10_1))).bind fun bt479 => (some (bt479.1, bt479.2.1, bt479.2.2.1, bt479.2.2.2))) else (incunableref04_Take.l1 k2 l0 l1 a2 t469 x10_1 true t469 (t469.length : Int) (wrap64 (x36_2 + 1)))) else (incunableref04_Take.l1 k2 l0 l1 a2 t469 x10_1 x13_2 t469 (t469.length : Int) (wrap64 (x36_2 + 1))))) else (incunableref04_Take.l1 k2 l0 l1 a2 t469 x10_1 x13_2 t469 (t469.length : Int) (wrap64 (x36_2 + 1)))) = some (r1, r2, r3, r4) := H
           have A15 := Aside0.mk A150
           clear A150
           by_cases c16 : t476 = true
           ·subst c16
            have H1 : ((incunableref04_begins.f k2 (rd_L8 t469 x36_2) l1 a2 x10_1).bind fun t477 => (if t477 = true then (if ((rd_L8 t469 x36_2).length : Int) = x10_1 then ((incunableref04_inner.f k2 ((rd_T87 l0 x36_2).f0) ((rd_T87 l0 x36_2).f1) ((rd_T87 l0 x36_2).f2) ((rd_T87 l0 x36_2).f3) l1 (wrap64 (a2 + x10_1))).bind fun bt479 => (some (bt479.1, bt479.2.1, bt479.2.2.1, bt479.2.2.2))) else (incunableref04_Take.l1 k2 l0 l1 a2 t469 x10_1 true t469 (t469.length : Int) (wrap64 (x36_2 + 1)))) else (incunableref04_Take.l1 k2 l0 l1 a2 t469 x10_1 x13_2 t469 (t469.length : Int) (wrap64 (x36_2 + 1))))) = some (r1, r2, r3, r4) := by rw [if_pos rfl] at H; exact H
            clear H
            have H := H1
            clear H1
            replace H := Option.bind_eq_some_iff.mp H
            obtain ⟨t477, A170, H⟩ := H
            replace H : (if t477 = true then (if ((rd_L8 t469 x36_2).length : Int) = x10_1 then ((incunableref04_inner.f k2 ((rd_T87 l0 x36_2).f0) ((rd_T87 l0 x36_2).f1) ((rd_T87 l0 x36_2).f2) ((rd_T87 l0 x36_2).f3) l1 (wrap64 (a2 + x10_1))).bind fun bt479 => (some (bt479.1, bt479.2.1, bt479.2.2.1, bt479.2.2.2))) else (incunableref04_Take.l1 k2 l0 l1 a2 t469 x10_1 true t469 (t469.length : Int) (wrap64 (x36_2 + 1)))) else (incunableref04_Take.l1 k2 l0 l1 a2 t469 x10_1 x13_2 t469 (t469.length : Int) (wrap64 (x36_2 + 1)))) = some (r1, r2, r3, r4) := H
            have A17 := Aside0.mk A170
            clear A170
            by_cases c18 : t477 = true
            ·subst c18
             have H1 : (if ((rd_L8 t469 x36_2).length : Int) = x10_1 then ((incunableref04_inner.f k2 ((rd_T87 l0 x36_2).f0) ((rd_T87 l0 x36_2).f1) ((rd_T87 l0 x36_2).f2) ((rd_T87 l0 x36_2).f3) l1 (wrap64 (a2 + x10_1))).bind fun bt479 => (some (bt479.1, bt479.2.1, bt479.2.2.1, bt479.2.2.2))) else (incunableref04_Take.l1 k2 l0 l1 a2 t469 x10_1 true t469 (t469.length : Int) (wrap64 (x36_2 + 1)))) = some (r1, r2, r3, r4) := by rw [if_pos rfl] at H; exact H
             clear H
             have H := H1
             clear H1
             by_cases c19 : ((rd_L8 t469 x36_2).length : Int) = x10_1
             ·rw [if_pos c19] at H
              have c19b0 := beq_iff_eq.mpr c19
              have c19b1 := bne_eq_false_iff_eq.mpr c19
              clear c19
              replace H := Option.bind_eq_some_iff.mp H
              obtain ⟨⟨t479, t480, t481, t482⟩, A200, H⟩ := H
              replace H : (some (t479, t480, t481, t482)) = some (r1, r2, r3, r4) := H
              have A20 := Aside0.mk A200
              clear A200
              simp only [Option.some.injEq, Prod.mk.injEq] at H
              obtain ⟨rfl, rfl, rfl, rfl⟩ := H
              have p474 : 0 ≤ (x36_2 : Int) := dt
              have q474 : x36_2 < (t469.length : Int) := dt
              obtain ⟨ad474, A474_0, c474_0, e474, hx474_0, hl474_0, hi474_0⟩ := at_L8 (Kd.S_reads' HO_34.out).2.2 x36_2 p474 q474
              cases e474
              obtain ⟨ce474, hce474, hMe474, hcc474⟩ := Kd.S_get HO_34.out [] x36_2 p474 (by first | exact q474 | exact dt | (have e_ := (Kd.S_reads' HO_34.out).1; omega))
              obtain ⟨ve474_0, rfl, ge474_0⟩ := hMe474
              have hv474_0 := hcc474 0 _ rfl
              rw [Nat.add_zero, show ((Kd.slice 5 (Kd.int .u8))).sz = 1 from rfl, Nat.mul_one] at hv474_0
              replace hv474_0 := Option.some.inj (hv474_0.symm.trans hx474_0)
              rw [hv474_0] at ge474_0
              have HL474_0 := Aside0.mk (show Kd.R (Kd.int .u8) 5 _ _ _ _ (rd_L8 t469 x36_2) from ge474_0)
              clear hv474_0 ge474_0
              clear hcc474 hce474
              have HR474_0 := Aside0.mk hi474_0
              have HC474_0 := Aside0.mk hl474_0
              clear hi474_0 hl474_0
              replace p474 := eq_true p474
              replace q474 := eq_true q474
              have p475 : 0 ≤ (x36_2 : Int) := dt
              have q475 : x36_2 < (l0.length : Int) := dt
              obtain ⟨ad475, e475, hx475_0, hx475_1, hx475_2, hx475_3⟩ := at_T87 HR0.out x36_2 p475 q475
              cases e475
              replace hx475_0 := hcB HB.out hx475_0
              replace hx475_1 := hcB HB.out hx475_1
              replace hx475_2 := hcB HB.out hx475_2
              replace hx475_3 := hcB HB.out hx475_3
              replace p475 := eq_true p475
              replace q475 := eq_true q475
              go_wp2_with (first | ((with_reducible refine gf 61 rfl ?_); refine gL (some 45) rfl rfl Tryd.func61 rfl #[.agg #[.int .i64 ((rd_T87 l0 x36_2).f0), .int .i64 ((rd_T87 l0 x36_2).f1), .int .i64 ((rd_T87 l0 x36_2).f2), .int .i64 ((rd_T87 l0 x36_2).f3)]] rfl ?_; (with_reducible refine (incunableref04_used.calls ((rd_T87 l0 x36_2).f0) ((rd_T87 l0 x36_2).f1) ((rd_T87 l0 x36_2).f2) ((rd_T87 l0 x36_2).f3) true _ A15.out).mono ?_); rintro e w21 ⟨rfl, hb⟩; refine ⟨_, rfl, ?_⟩; have n_ := aC (Kd.S_below (by (with_reducible repeat (first | apply Kd.S_alloc | apply Kd.S_drewN | apply Kd.S_drew)); exact HO_9.out) hb) (aC (Kd.S_below (by (with_reducible repeat (first | apply Kd.S_alloc | apply Kd.S_drewN | apply Kd.S_drew)); exact HO_34.out) hb) (aC (Kd.R_below (rU HL474_0.out) hb) (aC (blk_below (bU BK468.out) hb) (aC (Kd.C_below (by repeat (first | (with_reducible exact HR474_0.out) | (with_reducible refine Kd.C_alloc ?_ _) | (with_reducible refine Kd.C_drewN ?_ _) | (with_reducible refine Kd.C_drew ?_) | exact HR474_0.out)) hb) (aE (bs hb)))))); clear HO_9 HO_34 HL474_0 BK468 HR474_0 HB; obtain ⟨HO_9, HO_34, HL474_0, BK468, HR474_0, HB⟩ := n_; (try clear hb)) | (go_at_call 128; (with_reducible refine (incunableref04_begins.calls k2 _ _ (rd_L8 t469 x36_2) _ _ l1 a2 x10_1 true _ ?side1 ?side2 ?side3 ?side4 A17.out).mono ?_); (case side1 => repeat (first | exact (by repeat (first | (with_reducible exact HR474_0.out) | (with_reducible refine Kd.C_alloc ?_ _) | (with_reducible refine Kd.C_drewN ?_ _) | (with_reducible refine Kd.C_drew ?_) | exact HR474_0.out)) | (with_reducible refine Kd.C_alloc ?_ _) | (with_reducible refine Kd.C_drewN ?_ _) | (with_reducible refine Kd.C_drew ?_))); (case side2 => exact HC474_0.out); (case side3 => exact cU (Kd.C_below HR1.out HB.out)); (case side4 => exact HC1.out); rintro e w' ⟨rfl, ⟨nd, rfl⟩⟩; (try (rw [drewN_self w21]; generalize hq_ : World.drewN w21 _ = w21; have n0_ : Aside0 (Kd.R (Kd.int .u8) 5 w21 w.heap.size (fun k_ => some k_ ≠ (.slice (some ad474) t469.length co10 : Value).ownBlock) (.slice A474_0 (rd_L8 t469 x36_2).length c474_0) (rd_L8 t469 x36_2)) := ⟨by rw [← hq_]; exact (rU (Kd.R_mono HL474_0.out (fun _ hk => hk.2)))⟩; have n1_ : Aside0 (Kd.S (Kd.slice 5 (Kd.int .u8)) 22 w21 w.heap.size (fun _ => True) (.slice (some ad474) t469.length co10) t469) := ⟨by rw [← hq_]; exact (by (with_reducible repeat (first | apply Kd.S_alloc | apply Kd.S_drewN | apply Kd.S_drew)); exact HO_34.out)⟩; have n2_ : Aside0 (Kd.S (Kd.slice 5 (Kd.int .u8)) 22 w21 w.heap.size (fun _ => True) (.slice (some ad474) t469.length co10) t469) := ⟨by rw [← hq_]; exact (by (with_reducible repeat (first | apply Kd.S_alloc | apply Kd.S_drewN | apply Kd.S_drew)); exact HO_9.out)⟩; have n3_ : Aside0 (w21.heap[gb468]? = some (.cells #[.bool x469000_2, .int .i64 x469001_2] 64 (0, 0))) := ⟨by rw [← hq_]; exact (bU BK468.out)⟩; have n4_ : Aside0 (Below w.heap.size w w21) := ⟨by rw [← hq_]; exact bl⟩; have n5_ : Aside0 (Kd.C (Kd.int .u8) w21 A474_0 (rd_L8 t469 x36_2).length (rd_L8 t469 x36_2)) := ⟨by rw [← hq_]; exact (by repeat (first | (with_reducible exact HR474_0.out) | (with_reducible refine Kd.C_alloc ?_ _) | (with_reducible refine Kd.C_drewN ?_ _) | (with_reducible refine Kd.C_drew ?_) | exact HR474_0.out))⟩; clear HL474_0 HO_34 HO_9 BK468 HB HR474_0 hq_; have HL474_0 := n0_; have HO_34 := n1_; have HO_9 := n2_; have BK468 := n3_; have HB := n4_; have HR474_0 := n5_; clear n0_ n1_ n2_ n3_ n4_ n5_)); have p478 : 0 ≤ (x36_2 : Int) := dt; have q478 : x36_2 < (l0.length : Int) := dt; obtain ⟨ad478, e478, hx478_0, hx478_1, hx478_2, hx478_3⟩ := at_T87 HR0.out x36_2 p478 q478; obtain rfl : ad475 = ad478 := (by injection e478); replace hx478_0 := hcB HB.out hx478_0; replace hx478_1 := hcB HB.out hx478_1; replace hx478_2 := hcB HB.out hx478_2; replace hx478_3 := hcB HB.out hx478_3; replace p478 := eq_true p478; replace q478 := eq_true q478) | ((with_reducible refine gf 129 rfl ?_); refine gL (some 67) rfl rfl Tryd.func129 rfl #[.agg #[.int .i64 ((rd_T87 l0 x36_2).f0), .int .i64 ((rd_T87 l0 x36_2).f1), .int .i64 ((rd_T87 l0 x36_2).f2), .int .i64 ((rd_T87 l0 x36_2).f3)], .slice A1 l1.length c1, .int .i64 (wrap64 (a2 + x10_1))] rfl ?_; (with_reducible refine (incunableref04_inner.calls k2 ((rd_T87 l0 x36_2).f0) ((rd_T87 l0 x36_2).f1) ((rd_T87 l0 x36_2).f2) ((rd_T87 l0 x36_2).f3) _ _ l1 (wrap64 (a2 + x10_1)) t479 t480 t481 t482 _ ?side1 ?side2 A20.out).mono ?_); (case side1 => exact cU (Kd.C_below HR1.out HB.out)); (case side2 => exact HC1.out); rintro e w22 ⟨rfl, hb⟩; refine ⟨_, rfl, ?_⟩; have n_ := aC (Kd.S_below (by (with_reducible repeat (first | apply Kd.S_alloc | apply Kd.S_drewN | apply Kd.S_drew)); exact HO_9.out) hb) (aC (Kd.S_below (by (with_reducible repeat (first | apply Kd.S_alloc | apply Kd.S_drewN | apply Kd.S_drew)); exact HO_34.out) hb) (aC (Kd.R_below (rU HL474_0.out) hb) (aC (blk_below (bU BK468.out) hb) (aC (Kd.C_below (by repeat (first | (with_reducible exact HR474_0.out) | (with_reducible refine Kd.C_alloc ?_ _) | (with_reducible refine Kd.C_drewN ?_ _) | (with_reducible refine Kd.C_drew ?_) | exact HR474_0.out)) hb) (aE (bs hb)))))); clear HO_9 HO_34 HL474_0 BK468 HR474_0 HB; obtain ⟨HO_9, HO_34, HL474_0, BK468, HR474_0, HB⟩ := n_; (try clear hb); obtain ⟨hcz23_0, hcz23_1, hfz23_0, hfz23_1⟩ := cz2f BK468.out))
              refine bodyPost_ret (results_ctt rfl _ _ gb468 64 #[.bool t479, .int .i64 t480] (0, 0) _ rfl (by (with_reducible repeat (first | refine blk_drewN ?_ _ | refine blk_drew ?_ | refine blk_alloc ?_ _)); refine blk_put (cs := #[.bool t479, .int .i64 x469001_2]) ?_ 1 _ rfl; (with_reducible repeat (first | refine blk_drewN ?_ _ | refine blk_drew ?_ | refine blk_alloc ?_ _)); refine blk_put (cs := #[.bool x469000_2, .int .i64 x469001_2]) ?_ 0 _ rfl; (with_reducible repeat (first | refine blk_drewN ?_ _ | refine blk_drew ?_ | refine blk_alloc ?_ _)); exact BK468.out) Tryd.underlying64 rfl (by kernel_rfl)) rfl ?_
              exact ⟨re, bl⟩
             ·rw [if_neg c19] at H
              have c19b0 := beq_eq_false_iff_ne.mpr c19
              have c19b1 := bne_iff_ne.mpr c19
              have H' := Aside0.mk H
              clear H
              have p474 : 0 ≤ (x36_2 : Int) := dt
              have q474 : x36_2 < (t469.length : Int) := dt
              obtain ⟨ad474, A474_0, c474_0, e474, hx474_0, hl474_0, hi474_0⟩ := at_L8 (Kd.S_reads' HO_34.out).2.2 x36_2 p474 q474
              cases e474
              obtain ⟨ce474, hce474, hMe474, hcc474⟩ := Kd.S_get HO_34.out [] x36_2 p474 (by first | exact q474 | exact dt | (have e_ := (Kd.S_reads' HO_34.out).1; omega))
              obtain ⟨ve474_0, rfl, ge474_0⟩ := hMe474
              have hv474_0 := hcc474 0 _ rfl
              rw [Nat.add_zero, show ((Kd.slice 5 (Kd.int .u8))).sz = 1 from rfl, Nat.mul_one] at hv474_0
              replace hv474_0 := Option.some.inj (hv474_0.symm.trans hx474_0)
              rw [hv474_0] at ge474_0
              have HL474_0 := Aside0.mk (show Kd.R (Kd.int .u8) 5 _ _ _ _ (rd_L8 t469 x36_2) from ge474_0)
              clear hv474_0 ge474_0
              clear hcc474 hce474
              have HR474_0 := Aside0.mk hi474_0
              have HC474_0 := Aside0.mk hl474_0
              clear hi474_0 hl474_0
              replace p474 := eq_true p474
              replace q474 := eq_true q474
              have p475 : 0 ≤ (x36_2 : Int) := dt
              have q475 : x36_2 < (l0.length : Int) := dt
              obtain ⟨ad475, e475, hx475_0, hx475_1, hx475_2, hx475_3⟩ := at_T87 HR0.out x36_2 p475 q475
              cases e475
              replace hx475_0 := hcB HB.out hx475_0
              replace hx475_1 := hcB HB.out hx475_1
              replace hx475_2 := hcB HB.out hx475_2
              replace hx475_3 := hcB HB.out hx475_3
              replace p475 := eq_true p475
              replace q475 := eq_true q475
              go_wp2_with (first | ((with_reducible refine gf 61 rfl ?_); refine gL (some 45) rfl rfl Tryd.func61 rfl #[.agg #[.int .i64 ((rd_T87 l0 x36_2).f0), .int .i64 ((rd_T87 l0 x36_2).f1), .int .i64 ((rd_T87 l0 x36_2).f2), .int .i64 ((rd_T87 l0 x36_2).f3)]] rfl ?_; (with_reducible refine (incunableref04_used.calls ((rd_T87 l0 x36_2).f0) ((rd_T87 l0 x36_2).f1) ((rd_T87 l0 x36_2).f2) ((rd_T87 l0 x36_2).f3) true _ A15.out).mono ?_); rintro e w24 ⟨rfl, hb⟩; refine ⟨_, rfl, ?_⟩; have n_ := aC (Kd.S_below (by (with_reducible repeat (first | apply Kd.S_alloc | apply Kd.S_drewN | apply Kd.S_drew)); exact HO_9.out) hb) (aC (Kd.S_below (by (with_reducible repeat (first | apply Kd.S_alloc | apply Kd.S_drewN | apply Kd.S_drew)); exact HO_34.out) hb) (aC (Kd.R_below (rU HL474_0.out) hb) (aC (blk_below (bU BK468.out) hb) (aC (Kd.C_below (by repeat (first | (with_reducible exact HR474_0.out) | (with_reducible refine Kd.C_alloc ?_ _) | (with_reducible refine Kd.C_drewN ?_ _) | (with_reducible refine Kd.C_drew ?_) | exact HR474_0.out)) hb) (aE (bs hb)))))); clear HO_9 HO_34 HL474_0 BK468 HR474_0 HB; obtain ⟨HO_9, HO_34, HL474_0, BK468, HR474_0, HB⟩ := n_; (try clear hb)) | (go_at_call 128; (with_reducible refine (incunableref04_begins.calls k2 _ _ (rd_L8 t469 x36_2) _ _ l1 a2 x10_1 true _ ?side1 ?side2 ?side3 ?side4 A17.out).mono ?_); (case side1 => repeat (first | exact (by repeat (first | (with_reducible exact HR474_0.out) | (with_reducible refine Kd.C_alloc ?_ _) | (with_reducible refine Kd.C_drewN ?_ _) | (with_reducible refine Kd.C_drew ?_) | exact HR474_0.out)) | (with_reducible refine Kd.C_alloc ?_ _) | (with_reducible refine Kd.C_drewN ?_ _) | (with_reducible refine Kd.C_drew ?_))); (case side2 => exact HC474_0.out); (case side3 => exact cU (Kd.C_below HR1.out HB.out)); (case side4 => exact HC1.out); rintro e w' ⟨rfl, ⟨nd, rfl⟩⟩))
              go_roundg k2
              case measure => have := HK1.out; have := HK2.out; omega
              case rel => exact ⟨(true), (wrap64 (x36_2 + 1)), (x469000_2), (x469001_2), rq, rq, H', ⟨by have := HK1.out; have := HK2.out; omega⟩, ⟨by (with_reducible repeat (first | apply Kd.S_alloc | apply Kd.S_drewN | apply Kd.S_drew)); exact HO_9.out⟩, ⟨by (with_reducible repeat (first | apply Kd.S_alloc | apply Kd.S_drewN | apply Kd.S_drew)); exact HO_34.out⟩, ⟨bU BK468.out⟩, ⟨bl⟩⟩
            ·replace c18 := Bool.eq_false_iff.mpr c18
             subst c18
             have H1 : (incunableref04_Take.l1 k2 l0 l1 a2 t469 x10_1 x13_2 t469 (t469.length : Int) (wrap64 (x36_2 + 1))) = some (r1, r2, r3, r4) := by rw [if_neg (show ¬ (false = true) by decide)] at H; exact H
             clear H
             have H := H1
             clear H1
             have H' := Aside0.mk H
             clear H
             have p474 : 0 ≤ (x36_2 : Int) := dt
             have q474 : x36_2 < (t469.length : Int) := dt
             obtain ⟨ad474, A474_0, c474_0, e474, hx474_0, hl474_0, hi474_0⟩ := at_L8 (Kd.S_reads' HO_34.out).2.2 x36_2 p474 q474
             cases e474
             obtain ⟨ce474, hce474, hMe474, hcc474⟩ := Kd.S_get HO_34.out [] x36_2 p474 (by first | exact q474 | exact dt | (have e_ := (Kd.S_reads' HO_34.out).1; omega))
             obtain ⟨ve474_0, rfl, ge474_0⟩ := hMe474
             have hv474_0 := hcc474 0 _ rfl
             rw [Nat.add_zero, show ((Kd.slice 5 (Kd.int .u8))).sz = 1 from rfl, Nat.mul_one] at hv474_0
             replace hv474_0 := Option.some.inj (hv474_0.symm.trans hx474_0)
             rw [hv474_0] at ge474_0
             have HL474_0 := Aside0.mk (show Kd.R (Kd.int .u8) 5 _ _ _ _ (rd_L8 t469 x36_2) from ge474_0)
             clear hv474_0 ge474_0
             clear hcc474 hce474
             have HR474_0 := Aside0.mk hi474_0
             have HC474_0 := Aside0.mk hl474_0
             clear hi474_0 hl474_0
             replace p474 := eq_true p474
             replace q474 := eq_true q474
             have p475 : 0 ≤ (x36_2 : Int) := dt
             have q475 : x36_2 < (l0.length : Int) := dt
             obtain ⟨ad475, e475, hx475_0, hx475_1, hx475_2, hx475_3⟩ := at_T87 HR0.out x36_2 p475 q475
             cases e475
             replace hx475_0 := hcB HB.out hx475_0
             replace hx475_1 := hcB HB.out hx475_1
             replace hx475_2 := hcB HB.out hx475_2
             replace hx475_3 := hcB HB.out hx475_3
             replace p475 := eq_true p475
             replace q475 := eq_true q475
             go_wp2_with (first | ((with_reducible refine gf 61 rfl ?_); refine gL (some 45) rfl rfl Tryd.func61 rfl #[.agg #[.int .i64 ((rd_T87 l0 x36_2).f0), .int .i64 ((rd_T87 l0 x36_2).f1), .int .i64 ((rd_T87 l0 x36_2).f2), .int .i64 ((rd_T87 l0 x36_2).f3)]] rfl ?_; (with_reducible refine (incunableref04_used.calls ((rd_T87 l0 x36_2).f0) ((rd_T87 l0 x36_2).f1) ((rd_T87 l0 x36_2).f2) ((rd_T87 l0 x36_2).f3) true _ A15.out).mono ?_); rintro e w25 ⟨rfl, hb⟩; refine ⟨_, rfl, ?_⟩; have n_ := aC (Kd.S_below (by (with_reducible repeat (first | apply Kd.S_alloc | apply Kd.S_drewN | apply Kd.S_drew)); exact HO_9.out) hb) (aC (Kd.S_below (by (with_reducible repeat (first | apply Kd.S_alloc | apply Kd.S_drewN | apply Kd.S_drew)); exact HO_34.out) hb) (aC (Kd.R_below (rU HL474_0.out) hb) (aC (blk_below (bU BK468.out) hb) (aC (Kd.C_below (by repeat (first | (with_reducible exact HR474_0.out) | (with_reducible refine Kd.C_alloc ?_ _) | (with_reducible refine Kd.C_drewN ?_ _) | (with_reducible refine Kd.C_drew ?_) | exact HR474_0.out)) hb) (aE (bs hb)))))); clear HO_9 HO_34 HL474_0 BK468 HR474_0 HB; obtain ⟨HO_9, HO_34, HL474_0, BK468, HR474_0, HB⟩ := n_; (try clear hb)) | (go_at_call 128; (with_reducible refine (incunableref04_begins.calls k2 _ _ (rd_L8 t469 x36_2) _ _ l1 a2 x10_1 false _ ?side1 ?side2 ?side3 ?side4 A17.out).mono ?_); (case side1 => repeat (first | exact (by repeat (first | (with_reducible exact HR474_0.out) | (with_reducible refine Kd.C_alloc ?_ _) | (with_reducible refine Kd.C_drewN ?_ _) | (with_reducible refine Kd.C_drew ?_) | exact HR474_0.out)) | (with_reducible refine Kd.C_alloc ?_ _) | (with_reducible refine Kd.C_drewN ?_ _) | (with_reducible refine Kd.C_drew ?_))); (case side2 => exact HC474_0.out); (case side3 => exact cU (Kd.C_below HR1.out HB.out)); (case side4 => exact HC1.out); rintro e w' ⟨rfl, ⟨nd, rfl⟩⟩))
             go_roundg k2
             case measure => have := HK1.out; have := HK2.out; omega
             case rel => exact ⟨(x13_2), (wrap64 (x36_2 + 1)), (x469000_2), (x469001_2), rq, rq, H', ⟨by have := HK1.out; have := HK2.out; omega⟩, ⟨by (with_reducible repeat (first | apply Kd.S_alloc | apply Kd.S_drewN | apply Kd.S_drew)); exact HO_9.out⟩, ⟨by (with_reducible repeat (first | apply Kd.S_alloc | apply Kd.S_drewN | apply Kd.S_drew)); exact HO_34.out⟩, ⟨bU BK468.out⟩, ⟨bl⟩⟩
           ·replace c16 := Bool.eq_false_iff.mpr c16
            subst c16
            have H1 : (incunableref04_Take.l1 k2 l0 l1 a2 t469 x10_1 x13_2 t469 (t469.length : Int) (wrap64 (x36_2 + 1))) = some (r1, r2, r3, r4) := by rw [if_neg (show ¬ (false = true) by decide)] at H; exact H
            clear H
            have H := H1
            clear H1
            have H' := Aside0.mk H
            clear H
            have p474 : 0 ≤ (x36_2 : Int) := dt
            have q474 : x36_2 < (t469.length : Int) := dt
            obtain ⟨ad474, A474_0, c474_0, e474, hx474_0, hl474_0, hi474_0⟩ := at_L8 (Kd.S_reads' HO_34.out).2.2 x36_2 p474 q474
            cases e474
            obtain ⟨ce474, hce474, hMe474, hcc474⟩ := Kd.S_get HO_34.out [] x36_2 p474 (by first | exact q474 | exact dt | (have e_ := (Kd.S_reads' HO_34.out).1; omega))
            obtain ⟨ve474_0, rfl, ge474_0⟩ := hMe474
            have hv474_0 := hcc474 0 _ rfl
            rw [Nat.add_zero, show ((Kd.slice 5 (Kd.int .u8))).sz = 1 from rfl, Nat.mul_one] at hv474_0
            replace hv474_0 := Option.some.inj (hv474_0.symm.trans hx474_0)
            rw [hv474_0] at ge474_0
            have HL474_0 := Aside0.mk (show Kd.R (Kd.int .u8) 5 _ _ _ _ (rd_L8 t469 x36_2) from ge474_0)
            clear hv474_0 ge474_0
            clear hcc474 hce474
            have HR474_0 := Aside0.mk hi474_0
            have HC474_0 := Aside0.mk hl474_0
            clear hi474_0 hl474_0
            replace p474 := eq_true p474
            replace q474 := eq_true q474
            have p475 : 0 ≤ (x36_2 : Int) := dt
            have q475 : x36_2 < (l0.length : Int) := dt
            obtain ⟨ad475, e475, hx475_0, hx475_1, hx475_2, hx475_3⟩ := at_T87 HR0.out x36_2 p475 q475
            cases e475
            replace hx475_0 := hcB HB.out hx475_0
            replace hx475_1 := hcB HB.out hx475_1
            replace hx475_2 := hcB HB.out hx475_2
            replace hx475_3 := hcB HB.out hx475_3
            replace p475 := eq_true p475
            replace q475 := eq_true q475
            go_wp2_with (first | ((with_reducible refine gf 61 rfl ?_); refine gL (some 45) rfl rfl Tryd.func61 rfl #[.agg #[.int .i64 ((rd_T87 l0 x36_2).f0), .int .i64 ((rd_T87 l0 x36_2).f1), .int .i64 ((rd_T87 l0 x36_2).f2), .int .i64 ((rd_T87 l0 x36_2).f3)]] rfl ?_; (with_reducible refine (incunableref04_used.calls ((rd_T87 l0 x36_2).f0) ((rd_T87 l0 x36_2).f1) ((rd_T87 l0 x36_2).f2) ((rd_T87 l0 x36_2).f3) false _ A15.out).mono ?_); rintro e w26 ⟨rfl, hb⟩; refine ⟨_, rfl, ?_⟩; have n_ := aC (Kd.S_below (by (with_reducible repeat (first | apply Kd.S_alloc | apply Kd.S_drewN | apply Kd.S_drew)); exact HO_9.out) hb) (aC (Kd.S_below (by (with_reducible repeat (first | apply Kd.S_alloc | apply Kd.S_drewN | apply Kd.S_drew)); exact HO_34.out) hb) (aC (Kd.R_below (rU HL474_0.out) hb) (aC (blk_below (bU BK468.out) hb) (aC (Kd.C_below (by repeat (first | (with_reducible exact HR474_0.out) | (with_reducible refine Kd.C_alloc ?_ _) | (with_reducible refine Kd.C_drewN ?_ _) | (with_reducible refine Kd.C_drew ?_) | exact HR474_0.out)) hb) (aE (bs hb)))))); clear HO_9 HO_34 HL474_0 BK468 HR474_0 HB; obtain ⟨HO_9, HO_34, HL474_0, BK468, HR474_0, HB⟩ := n_; (try clear hb)))
            go_roundg k2
            case measure => have := HK1.out; have := HK2.out; omega
            case rel => exact ⟨(x13_2), (wrap64 (x36_2 + 1)), (x469000_2), (x469001_2), rq, rq, H', ⟨by have := HK1.out; have := HK2.out; omega⟩, ⟨by (with_reducible repeat (first | apply Kd.S_alloc | apply Kd.S_drewN | apply Kd.S_drew)); exact HO_9.out⟩, ⟨by (with_reducible repeat (first | apply Kd.S_alloc | apply Kd.S_drewN | apply Kd.S_drew)); exact HO_34.out⟩, ⟨bU BK468.out⟩, ⟨bl⟩⟩
          ·rw [if_neg c14] at H
           exact absurd H (by simp)
         ·rw [if_neg c13] at H
          exact absurd H (by simp)
        ·rw [if_neg c12] at H
         exact absurd H (by simp)
       ·rw [if_neg c11] at H
        have c11b0 := decide_eq_false c11
        clear c11
        by_cases c27 : x13_2 = true
        ·subst c27
         have H1 : (incunableref04_Take.l0 k2 l0 l1 a2 t469 (wrap64 (x10_1 + 1))) = some (r1, r2, r3, r4) := by rw [if_pos rfl] at H; exact H
         clear H
         have H := H1
         clear H1
         have H' := Aside0.mk H
         clear H
         go_wp2
         go_roundg k2
         case measure => have := HK1.out; have := HK2.out; omega
         case rel => exact ⟨(wrap64 (x10_1 + 1)), (x469000_2), (x469001_2), rq, H', ⟨by have := HK1.out; have := HK2.out; omega⟩, ⟨by (with_reducible repeat (first | apply Kd.S_alloc | apply Kd.S_drewN | apply Kd.S_drew)); exact HO_9.out⟩, ⟨bU BK468.out⟩, ⟨bl⟩⟩
        ·replace c27 := Bool.eq_false_iff.mpr c27
         subst c27
         have H1 : (some (false, 0, 0, 3)) = some (r1, r2, r3, r4) := by rw [if_neg (show ¬ (false = true) by decide)] at H; exact H
         clear H
         have H := H1
         clear H1
         simp only [Option.some.injEq, Prod.mk.injEq] at H
         obtain ⟨rfl, rfl, rfl, rfl⟩ := H
         obtain ⟨hcz28_0, hcz28_1, hfz28_0, hfz28_1⟩ := cz2f BK468.out
         go_wp2
         refine bodyPost_ret (results_ctt rfl _ _ gb468 64 #[.bool false, .int .i64 0] (0, 0) _ rfl (by (with_reducible repeat (first | refine blk_drewN ?_ _ | refine blk_drew ?_ | refine blk_alloc ?_ _)); refine blk_put (cs := #[.bool false, .int .i64 x469001_2]) ?_ 1 _ rfl; (with_reducible repeat (first | refine blk_drewN ?_ _ | refine blk_drew ?_ | refine blk_alloc ?_ _)); refine blk_put (cs := #[.bool x469000_2, .int .i64 x469001_2]) ?_ 0 _ rfl; (with_reducible repeat (first | refine blk_drewN ?_ _ | refine blk_drew ?_ | refine blk_alloc ?_ _)); exact BK468.out) Tryd.underlying64 rfl (by kernel_rfl)) rfl ?_
         exact ⟨re, bl⟩
    ·replace c9 := Bool.eq_false_iff.mpr c9
     subst c9
     have H1 : (some (false, 0, 0, 6)) = some (r1, r2, r3, r4) := by rw [if_neg (show ¬ (false = true) by decide)] at H; exact H
     clear H
     have H := H1
     clear H1
     simp only [Option.some.injEq, Prod.mk.injEq] at H
     obtain ⟨rfl, rfl, rfl, rfl⟩ := H
     go_wp2_with (first | ((with_reducible refine gf 35 rfl ?_); refine gL (some 28) rfl rfl Tryd.func35 rfl #[.slice A1 l1.length c1, .int .i64 (wrap64 ((wrap64 (a2 + x10_1)) - 1))] rfl ?_; (with_reducible refine (incunableref04_BitAt.calls _ _ l1 (wrap64 ((wrap64 (a2 + x10_1)) - 1)) t472 false _ ?side1 ?side2 A8.out).mono ?_); (case side1 => exact cU (Kd.C_below HR1.out HB.out)); (case side2 => exact HC1.out); rintro e w' ⟨rfl, ⟨nd, rfl⟩⟩; refine ⟨_, rfl, ?_⟩; (try (rw [drewN_self wr]; generalize hq_ : World.drewN wr _ = wr; have n0_ : Aside0 (Kd.S (Kd.slice 5 (Kd.int .u8)) 22 wr w.heap.size (fun _ => True) v470 t469) := ⟨by rw [← hq_]; exact (by (with_reducible repeat (first | apply Kd.S_alloc | apply Kd.S_drewN | apply Kd.S_drew)); exact HO_9.out)⟩; have n1_ : Aside0 (wr.heap[gb468]? = some (.cells #[.bool x469000_1, .int .i64 x469001_1] 64 (0, 0))) := ⟨by rw [← hq_]; exact (bU BK468.out)⟩; have n2_ : Aside0 (Below w.heap.size w wr) := ⟨by rw [← hq_]; exact bl⟩; clear HO_9 BK468 HB hq_; have HO_9 := n0_; have BK468 := n1_; have HB := n2_; clear n0_ n1_ n2_)); obtain ⟨_, _, _, _⟩ := cz2f BK468.out; obtain ⟨hcz29_0, hcz29_1, hfz29_0, hfz29_1⟩ := cz2f BK468.out))
     refine bodyPost_ret (results_ctt rfl _ _ gb468 64 #[.bool false, .int .i64 0] (0, 0) _ rfl (by (with_reducible repeat (first | refine blk_drewN ?_ _ | refine blk_drew ?_ | refine blk_alloc ?_ _)); refine blk_put (cs := #[.bool false, .int .i64 x469001_1]) ?_ 1 _ rfl; (with_reducible repeat (first | refine blk_drewN ?_ _ | refine blk_drew ?_ | refine blk_alloc ?_ _)); refine blk_put (cs := #[.bool x469000_1, .int .i64 x469001_1]) ?_ 0 _ rfl; (with_reducible repeat (first | refine blk_drewN ?_ _ | refine blk_drew ?_ | refine blk_alloc ?_ _)); exact BK468.out) Tryd.underlying64 rfl (by kernel_rfl)) rfl ?_
     exact ⟨re, bl⟩
   ·rw [if_neg c7] at H
    have c7b0 := decide_eq_false c7
    clear c7
    simp only [Option.some.injEq, Prod.mk.injEq] at H
    obtain ⟨rfl, rfl, rfl, rfl⟩ := H
    obtain ⟨hcz30_0, hcz30_1, hfz30_0, hfz30_1⟩ := cz2f BK468.out
    go_wp2
    refine bodyPost_ret (results_ctt rfl _ _ gb468 64 #[.bool false, .int .i64 0] (0, 0) _ rfl (by (with_reducible repeat (first | refine blk_drewN ?_ _ | refine blk_drew ?_ | refine blk_alloc ?_ _)); refine blk_put (cs := #[.bool false, .int .i64 x469001_1]) ?_ 1 _ rfl; (with_reducible repeat (first | refine blk_drewN ?_ _ | refine blk_drew ?_ | refine blk_alloc ?_ _)); refine blk_put (cs := #[.bool x469000_1, .int .i64 x469001_1]) ?_ 0 _ rfl; (with_reducible repeat (first | refine blk_drewN ?_ _ | refine blk_drew ?_ | refine blk_alloc ?_ _)); exact BK468.out) Tryd.underlying64 rfl (by kernel_rfl)) rfl ?_
    exact ⟨re, bl⟩

end Go.Proofs.YtknclbodinfbeaaDoor.PRunsGetOne
