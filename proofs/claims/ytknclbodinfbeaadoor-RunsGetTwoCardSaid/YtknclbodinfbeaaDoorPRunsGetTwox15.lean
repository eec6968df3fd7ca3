-- Written by a program of this session (wip/tools/myprint.py) over the kit's print. Not trusted: Lean checks it.
import Derived.Test.YtknclbodinfbeaaDoorPRunsGetTwox0
import Derived.Test.YtknclbodinfbeaaDoorPRunsGetTwox12
import Derived.Test.YtknclbodinfbeaaDoorPRunsGetTwox13
import Derived.Test.YtknclbodinfbeaaDoorPRunsGetTwox14
namespace Go.Proofs.YtknclbodinfbeaaDoor.PRunsGetTwo
open Go.RowKit Go.Proofs.YtknclbodinfbeaaDoorW.PrintWords Go.Proofs.YtknclbodinfbeaaDoorW.PrintLast Go.Proofs.YtknclbodinfbeaaDoorW.PrintMore
attribute [local go_sem] max2_int min2_int max_two min_two max_three min_three max_four min_four   -- for this text's walks alone
set_option linter.unusedVariables false
set_option linter.unusedSimpArgs false
def incunableref04_Codes.l0 : Nat → List (S87) → List (List Int) → List (S87) → Int → Int → Option ((List (List Int)))
 | 0, _, _, _, _, _ => none
 | k + 1, x0, x3, x6, x7, x8 => if x8 < x7 then (if 0 ≤ x8 then (if x8 < (x6.length : Int) then ((incunableref04_used.f ((rd_T87 x6 x8).f0) ((rd_T87 x6 x8).f1) ((rd_T87 x6 x8).f2) ((rd_T87 x6 x8).f3)).bind fun t440 => (if t440 = true then ((incunableref04_Code.f k x0 x8).bind fun t441 => (if x3.length < 5864062014805 then (incunableref04_Codes.l0 k x0 (x3 ++ [t441]) x6 x7 (wrap64 (x8 + 1))) else (none))) else (if x3.length < 5864062014805 then (incunableref04_Codes.l0 k x0 (x3 ++ [[]]) x6 x7 (wrap64 (x8 + 1))) else (none)))) else (none)) else (none)) else (some x3)
def incunableref04_Codes.f (k : Nat) (l0 : List (S87)) : Option ((List (List Int))) := incunableref04_Codes.l0 k l0 ([] : List (List Int)) l0 (l0.length : Int) 0
theorem incunableref04_Codes.mono_l : ∀ k, (∀ y0 y1 y2 y3 y4, LeO (incunableref04_Codes.l0 k y0 y1 y2 y3 y4) (incunableref04_Codes.l0 (k + 1) y0 y1 y2 y3 y4))
 | 0 => fun _ _ _ _ _ r h => by simp [incunableref04_Codes.l0] at h
 | k + 1 => by
  have ih0 := incunableref04_Codes.mono_l k
  ·intro y0 y1 y2 y3 y4
   unfold incunableref04_Codes.l0
   repeat' first
   | (with_reducible exact ih0 _ _ _ _ _)
   | (with_reducible exact incunableref04_Code.mono _ _ _)
   | (with_reducible first | exact LeO.refl _ | exact LeO.none _ | refine LeO.ite ?_ ?_ | refine LeO.bind ?_ (fun _ => ?_))
   | exact ih0 _ _ _ _ _
   | exact incunableref04_Code.mono _ _ _
   | exact LeO.none _ | refine LeO.ite ?_ ?_ | refine LeO.bind ?_ (fun _ => ?_)
theorem incunableref04_Codes.mono : ∀ a0 k, LeO (incunableref04_Codes.f k a0) (incunableref04_Codes.f (k + 1) a0) := by
 intro a0 k
 have ih0 := incunableref04_Codes.mono_l k
 unfold incunableref04_Codes.f
 repeat' first
   | (with_reducible exact ih0 _ _ _ _ _)
   | (with_reducible exact incunableref04_Code.mono _ _ _)
   | (with_reducible first | exact LeO.refl _ | exact LeO.none _ | refine LeO.ite ?_ ?_ | refine LeO.bind ?_ (fun _ => ?_))
   | exact ih0 _ _ _ _ _
   | exact incunableref04_Code.mono _ _ _
   | exact LeO.none _ | refine LeO.ite ?_ ?_ | refine LeO.bind ?_ (fun _ => ?_)
set_option maxHeartbeats 8000000 in
set_option maxRecDepth 100000 in
theorem incunableref04_Codes.calls (k : Nat) (A0 : Option Addr) (c0 : Nat) (l0 : List (S87)) (r : List (List Int)) (w : World) (hr0 : Kd.C k87 w A0 l0.length l0) (hc0 : l0.length ≤ c0) (h : incunableref04_Codes.f k l0 = some r) :
  Calls Tryd.prog 127 #[.slice A0 l0.length c0] w fun e w' => ∃ v0_ : Value, e = .returned (v0_) ∧ Kd.S (Kd.slice 5 (Kd.int .u8)) 22 w' w.heap.size (fun _ => True) v0_ r ∧ Below w.heap.size w w' := by
 have hu87 := Tryd.underlying87
 have HR0 := Aside0.mk hr0
 have HC0 := Aside0.mk hc0
 clear hr0 hc0
 have HB := Aside0.mk (Below.refl w.heap.size w)
 have H : (incunableref04_Codes.l0 k l0 ([] : List (List Int)) l0 (l0.length : Int) 0) = some r := h
 clear h
 have H' := Aside0.mk H
 clear H
 go_enter Tryd.func127, Tryd.ntmps127
 go_wp2
 go_loopg [3, 8] k (fun kq v3 v8 w' => ∃ (x3_1 : List (List Int)) (x8_1 : Int), v8 = .int .i64 x8_1 ∧ Aside0 (incunableref04_Codes.l0 kq l0 x3_1 l0 (l0.length : Int) x8_1 = some r) ∧ Aside0 (kq ≤ k) ∧ Aside0 (Kd.S (Kd.slice 5 (Kd.int .u8)) 22 w' w.heap.size (fun _ => True) v3 x3_1) ∧ Aside0 (Below w.heap.size w w'))
 case atStart => exact ⟨(([] : List (List Int))), (0), rq, H', ⟨Nat.le_refl _⟩, ⟨by first | exact Kd.S_nil _ _ _ _ _ | exact Kd.N_nil _ _ _ _ _ | exact Kd.V_nil _ _ _ _ _ | exact Kd.Q_nil _ _ _ _ _ | exact Kd.R_nil _ _ _ _ _⟩, ⟨bl⟩⟩
 case round =>
  clear H'
  obtain ⟨x3_1, x8_1, rfl, HA, HK1, HO_3, HB⟩ := hrel
  cases gk with
  | zero => exact absurd HA.out (by simp [incunableref04_Codes.l0])
  | succ k1 =>
   have H := HA.out
   clear HA
   simp only [incunableref04_Codes.l0] at H
   by_cases c2 : x8_1 < (l0.length : Int)
   ·rw [if_pos c2] at H
    have c2b0 := decide_eq_true c2
    clear c2
    by_cases c3 : 0 ≤ x8_1
    ·rw [if_pos c3] at H
     have c3b0 := decide_eq_true c3
     clear c3
     by_cases c4 : x8_1 < (l0.length : Int)
     ·rw [if_pos c4] at H
      have c4b0 := decide_eq_true c4
      clear c4
      replace H := Option.bind_eq_some_iff.mp H
      obtain ⟨t440, A50, H⟩ := H
      replace H : (if t440 = true then ((incunableref04_Code.f k1 l0 x8_1).bind fun t441 => (if x3_1.length < 5864062014805 then (incunableref04_Codes.l0 k1 l0 (x3_1 ++ [t441]) l0 (l0.length : Int) (wrap64 (x8_1 + 1))) else (none))) else (if x3_1.length < 5864062014805 then (incunableref04_Codes.l0 k1 l0 (x3_1 ++ [[]]) l0 (l0.length : Int) (wrap64 (x8_1 + 1))) else (none))) = some r := H
      have A5 := Aside0.mk A50
      clear A50
      by_cases c6 : t440 = true
      ·subst c6
       have H1 : ((incunableref04_Code.f k1 l0 x8_1).bind fun t441 => (if x3_1.length < 5864062014805 then (incunableref04_Codes.l0 k1 l0 (x3_1 ++ [t441]) l0 (l0.length : Int) (wrap64 (x8_1 + 1))) else (none))) = some r := by rw [if_pos rfl] at H; exact H
       clear H
       have H := H1
       clear H1
       replace H := Option.bind_eq_some_iff.mp H
       obtain ⟨t441, A70, H⟩ := H
       replace H : (if x3_1.length < 5864062014805 then (incunableref04_Codes.l0 k1 l0 (x3_1 ++ [t441]) l0 (l0.length : Int) (wrap64 (x8_1 + 1))) else (none)) = some r := H
       have A7 := Aside0.mk A70
       clear A70
       by_cases c8 : x3_1.length < 5864062014805
       ·rw [if_pos c8] at H
        have LMc8 := Aside0.mk c8
        clear c8
        obtain ⟨y444, hy_⟩ : ∃ y_ : List (List Int), y_ = (x3_1 ++ [t441]) := ⟨_, rfl⟩
        replace H : (incunableref04_Codes.l0 k1 l0 y444 l0 (l0.length : Int) (wrap64 (x8_1 + 1))) = some r := rh
        have Ny444 := aE hy_
        clear hy_
        have H' := Aside0.mk H
        clear H
        have p438 : 0 ≤ (x8_1 : Int) := dt
        have q438 : x8_1 < (l0.length : Int) := dt
        obtain ⟨ad438, e438, hx438_0, hx438_1, hx438_2, hx438_3⟩ := at_T87 HR0.out x8_1 p438 q438
        cases e438
        replace hx438_0 := hcB HB.out hx438_0
        replace hx438_1 := hcB HB.out hx438_1
        replace hx438_2 := hcB HB.out hx438_2
        replace hx438_3 := hcB HB.out hx438_3
        replace p438 := eq_true p438
        replace q438 := eq_true q438
        go_wp2_with (first | ((with_reducible refine gd 5 rfl ?_); refine bx 5 #[.int .i64 0, .int .i64 0, .int .i64 0, .int .i64 0] 87 rfl rfl ?_; intro gb439 hg w9 hbox hb; have n_ := aC (Kd.S_below (by (with_reducible repeat (first | apply Kd.S_alloc | apply Kd.S_drewN | apply Kd.S_drew)); exact HO_3.out) hb) (aC (bs hb) (aC hbox (aC (gz hg) (aE (gz hg))))); clear HO_3 HB; obtain ⟨HO_3, HB, BK439, GW439, GE439⟩ := n_; clear hb hbox hg; obtain ⟨hcz10_0, hcz10_1, hcz10_2, hcz10_3, hfz10_0, hfz10_1, hfz10_2, hfz10_3⟩ := cz4f BK439.out) | ((with_reducible refine gf 61 rfl ?_); refine gL (some 14) rfl rfl Tryd.func61 rfl #[.agg #[.int .i64 ((rd_T87 l0 x8_1).f0), .int .i64 ((rd_T87 l0 x8_1).f1), .int .i64 ((rd_T87 l0 x8_1).f2), .int .i64 ((rd_T87 l0 x8_1).f3)]] rfl ?_; (with_reducible refine (incunableref04_used.calls ((rd_T87 l0 x8_1).f0) ((rd_T87 l0 x8_1).f1) ((rd_T87 l0 x8_1).f2) ((rd_T87 l0 x8_1).f3) true _ A5.out).mono ?_); rintro e w11 ⟨rfl, hb⟩; refine ⟨_, rfl, ?_⟩; have n_ := aC (Kd.S_below (by (with_reducible repeat (first | apply Kd.S_alloc | apply Kd.S_drewN | apply Kd.S_drew)); exact (Kd.S_mono (Kd.S_far (p := ⟨gb439, 3, none⟩) (Kd.S_far (p := ⟨gb439, 2, none⟩) (Kd.S_far (p := ⟨gb439, 1, none⟩) (Kd.S_far (p := ⟨gb439, 0, none⟩) (Kd.S_types HO_3.out BK439.out (by decide)) (fun _ hk => hk.2) (.int .i64 ((rd_T87 l0 x8_1).f0))) (fun _ hk => hk.2) (.int .i64 ((rd_T87 l0 x8_1).f1))) (fun _ hk => hk.2) (.int .i64 ((rd_T87 l0 x8_1).f2))) (fun _ hk => hk.2) (.int .i64 ((rd_T87 l0 x8_1).f3))) (fun _ h_ => h_.1))) hb) (aC (blk_below (g := gb439) (o := .cells #[.int .i64 ((rd_T87 l0 x8_1).f0), .int .i64 ((rd_T87 l0 x8_1).f1), .int .i64 ((rd_T87 l0 x8_1).f2), .int .i64 ((rd_T87 l0 x8_1).f3)] 87 (0, 0)) (by (with_reducible repeat (first | refine blk_drewN ?_ _ | refine blk_drew ?_ | refine blk_alloc ?_ _)); refine blk_put (cs := #[.int .i64 ((rd_T87 l0 x8_1).f0), .int .i64 ((rd_T87 l0 x8_1).f1), .int .i64 ((rd_T87 l0 x8_1).f2), .int .i64 0]) ?_ 3 _ rfl; (with_reducible repeat (first | refine blk_drewN ?_ _ | refine blk_drew ?_ | refine blk_alloc ?_ _)); refine blk_put (cs := #[.int .i64 ((rd_T87 l0 x8_1).f0), .int .i64 ((rd_T87 l0 x8_1).f1), .int .i64 0, .int .i64 0]) ?_ 2 _ rfl; (with_reducible repeat (first | refine blk_drewN ?_ _ | refine blk_drew ?_ | refine blk_alloc ?_ _)); refine blk_put (cs := #[.int .i64 ((rd_T87 l0 x8_1).f0), .int .i64 0, .int .i64 0, .int .i64 0]) ?_ 1 _ rfl; (with_reducible repeat (first | refine blk_drewN ?_ _ | refine blk_drew ?_ | refine blk_alloc ?_ _)); refine blk_put (cs := #[.int .i64 0, .int .i64 0, .int .i64 0, .int .i64 0]) ?_ 0 _ rfl; (with_reducible repeat (first | refine blk_drewN ?_ _ | refine blk_drew ?_ | refine blk_alloc ?_ _)); exact BK439.out) hb) (aE (bs hb))); clear HO_3 BK439 HB; obtain ⟨HO_3, BK439, HB⟩ := n_; (try clear hb)) | ((with_reducible refine gf 62 rfl ?_); refine gL (some 18) rfl rfl Tryd.func62 rfl #[.slice (some ad438) l0.length c0, .int .i64 x8_1] rfl ?_; (with_reducible refine (incunableref04_Code.calls k1 _ _ l0 x8_1 t441 _ ?side1 ?side2 A7.out).mono ?_); (case side1 => exact cU (Kd.C_below HR0.out HB.out)); (case side2 => exact HC0.out); rintro e w12 ⟨v442, rfl, ho0, hb⟩; refine ⟨_, rfl, ?_⟩; have n_ := aC (Kd.S_elder' (by (with_reducible repeat (first | apply Kd.S_alloc | apply Kd.S_drewN | apply Kd.S_drew)); exact HO_3.out) (Kd.R_base ho0) hb) (aC (Kd.R_lower ho0 bz) (aC (blk_below (g := gb439) (o := .cells #[.int .i64 ((rd_T87 l0 x8_1).f0), .int .i64 ((rd_T87 l0 x8_1).f1), .int .i64 ((rd_T87 l0 x8_1).f2), .int .i64 ((rd_T87 l0 x8_1).f3)] 87 (0, 0)) (bU BK439.out) hb) (aE (bs hb)))); clear HO_3 BK439 HB; obtain ⟨HO_3, HO443, BK439, HB⟩ := n_; (try clear hb); (try clear ho0); obtain ⟨Ao14, co14, eo14⟩ := Kd.R_slice HO443.out; subst eo14) | ((with_reducible refine gate_builtin (b := .append) (xs := #[.tmp 15, .tmp 19]) rfl ?_); at_builtin; refine Kd.S_append (Kd.slice 5 (Kd.int .u8)) (w0 := w) w.heap.size rfl (.tmp 15) (.tmp 19) 73 22 (.slice none 0 0) 24 rfl Tryd.underlying73 info22 rfl (by decide) (by omega) u3 x3_1 t441 [.slice Ao14 t441.length co14] (fun _ => True) (fun k_ => some k_ = (.slice Ao14 t441.length co14 : Value).ownBlock) rfl rfl ?aP (fun k_ hk_ => ((Kd.R_mono (ok' := fun k_ => ((fun _ => True)) k_ ∧ some k_ ≠ (u3 : Value).ownBlock) (Kd.R_apart' (HO443.out) (Kd.S_typed HO_3.out) (by decide)) (fun k_ hk => ⟨trivial, hk.2⟩))).1 k_ hk_.symm) ?aF ?aO ?aB ?aS ?aL ?_; (case aP => exact Kd.M_row (Kd.R_mono (Kd.R_tight rfl (Kd.R_mono (ok' := fun k_ => ((fun _ => True)) k_ ∧ some k_ ≠ (u3 : Value).ownBlock) (Kd.R_apart' (HO443.out) (Kd.S_typed HO_3.out) (by decide)) (fun k_ hk => ⟨trivial, hk.2⟩))) (fun _ h_ => h_))); (case aB => exact bl); (case aF => exact (fun _ _ => trivial)); (case aO => exact (by (with_reducible repeat (first | apply Kd.S_alloc | apply Kd.S_drewN | apply Kd.S_drew)); exact Kd.S_mono HO_3.out (fun k_ hk => ⟨trivial, fun e_ => hk.2 e_⟩))); (case aS => exact bz); (case aL => have := LMc8.out; omega); intro v445 w13 ho hb hg hat; rw [← Ny444.out] at ho; have n_ := aC (blk_grown (g := gb439) (o := .cells #[.int .i64 ((rd_T87 l0 x8_1).f0), .int .i64 ((rd_T87 l0 x8_1).f1), .int .i64 ((rd_T87 l0 x8_1).f2), .int .i64 ((rd_T87 l0 x8_1).f3)] 87 (0, 0)) (bU BK439.out) hg (Kd.S_ne HO_3.out BK439.out (by decide))) (aC hb (aE ho)); clear BK439 HB HO_3 HO443; obtain ⟨BK439, HB, HO446⟩ := n_; clear ho hb hg hat))
        go_roundg k1
        case measure => have := HK1.out; omega
        case rel => exact ⟨(y444), (wrap64 (x8_1 + 1)), rq, H', ⟨by have := HK1.out; omega⟩, ⟨by (with_reducible repeat (first | apply Kd.S_alloc | apply Kd.S_drewN | apply Kd.S_drew)); exact HO446.out⟩, ⟨bl⟩⟩
       ·rw [if_neg c8] at H
        exact absurd H (by simp)
      ·replace c6 := Bool.eq_false_iff.mpr c6
       subst c6
       have H1 : (if x3_1.length < 5864062014805 then (incunableref04_Codes.l0 k1 l0 (x3_1 ++ [[]]) l0 (l0.length : Int) (wrap64 (x8_1 + 1))) else (none)) = some r := by rw [if_neg (show ¬ (false = true) by decide)] at H; exact H
       clear H
       have H := H1
       clear H1
       by_cases c15 : x3_1.length < 5864062014805
       ·rw [if_pos c15] at H
        have LMc15 := Aside0.mk c15
        clear c15
        obtain ⟨y447, hy_⟩ : ∃ y_ : List (List Int), y_ = (x3_1 ++ [[]]) := ⟨_, rfl⟩
        replace H : (incunableref04_Codes.l0 k1 l0 y447 l0 (l0.length : Int) (wrap64 (x8_1 + 1))) = some r := rh
        have Ny447 := aE hy_
        clear hy_
        have H' := Aside0.mk H
        clear H
        have p438 : 0 ≤ (x8_1 : Int) := dt
        have q438 : x8_1 < (l0.length : Int) := dt
        obtain ⟨ad438, e438, hx438_0, hx438_1, hx438_2, hx438_3⟩ := at_T87 HR0.out x8_1 p438 q438
        cases e438
        replace hx438_0 := hcB HB.out hx438_0
        replace hx438_1 := hcB HB.out hx438_1
        replace hx438_2 := hcB HB.out hx438_2
        replace hx438_3 := hcB HB.out hx438_3
        replace p438 := eq_true p438
        replace q438 := eq_true q438
        go_wp2_with (first | ((with_reducible refine gd 5 rfl ?_); refine bx 5 #[.int .i64 0, .int .i64 0, .int .i64 0, .int .i64 0] 87 rfl rfl ?_; intro gb439 hg w16 hbox hb; have n_ := aC (Kd.S_below (by (with_reducible repeat (first | apply Kd.S_alloc | apply Kd.S_drewN | apply Kd.S_drew)); exact HO_3.out) hb) (aC (bs hb) (aC hbox (aC (gz hg) (aE (gz hg))))); clear HO_3 HB; obtain ⟨HO_3, HB, BK439, GW439, GE439⟩ := n_; clear hb hbox hg; obtain ⟨hcz17_0, hcz17_1, hcz17_2, hcz17_3, hfz17_0, hfz17_1, hfz17_2, hfz17_3⟩ := cz4f BK439.out) | ((with_reducible refine gf 61 rfl ?_); refine gL (some 14) rfl rfl Tryd.func61 rfl #[.agg #[.int .i64 ((rd_T87 l0 x8_1).f0), .int .i64 ((rd_T87 l0 x8_1).f1), .int .i64 ((rd_T87 l0 x8_1).f2), .int .i64 ((rd_T87 l0 x8_1).f3)]] rfl ?_; (with_reducible refine (incunableref04_used.calls ((rd_T87 l0 x8_1).f0) ((rd_T87 l0 x8_1).f1) ((rd_T87 l0 x8_1).f2) ((rd_T87 l0 x8_1).f3) false _ A5.out).mono ?_); rintro e w18 ⟨rfl, hb⟩; refine ⟨_, rfl, ?_⟩; have n_ := aC (Kd.S_below (by (with_reducible repeat (first | apply Kd.S_alloc | apply Kd.S_drewN | apply Kd.S_drew)); exact (Kd.S_mono (Kd.S_far (p := ⟨gb439, 3, none⟩) (Kd.S_far (p := ⟨gb439, 2, none⟩) (Kd.S_far (p := ⟨gb439, 1, none⟩) (Kd.S_far (p := ⟨gb439, 0, none⟩) (Kd.S_types HO_3.out BK439.out (by decide)) (fun _ hk => hk.2) (.int .i64 ((rd_T87 l0 x8_1).f0))) (fun _ hk => hk.2) (.int .i64 ((rd_T87 l0 x8_1).f1))) (fun _ hk => hk.2) (.int .i64 ((rd_T87 l0 x8_1).f2))) (fun _ hk => hk.2) (.int .i64 ((rd_T87 l0 x8_1).f3))) (fun _ h_ => h_.1))) hb) (aC (blk_below (g := gb439) (o := .cells #[.int .i64 ((rd_T87 l0 x8_1).f0), .int .i64 ((rd_T87 l0 x8_1).f1), .int .i64 ((rd_T87 l0 x8_1).f2), .int .i64 ((rd_T87 l0 x8_1).f3)] 87 (0, 0)) (by (with_reducible repeat (first | refine blk_drewN ?_ _ | refine blk_drew ?_ | refine blk_alloc ?_ _)); refine blk_put (cs := #[.int .i64 ((rd_T87 l0 x8_1).f0), .int .i64 ((rd_T87 l0 x8_1).f1), .int .i64 ((rd_T87 l0 x8_1).f2), .int .i64 0]) ?_ 3 _ rfl; (with_reducible repeat (first | refine blk_drewN ?_ _ | refine blk_drew ?_ | refine blk_alloc ?_ _)); refine blk_put (cs := #[.int .i64 ((rd_T87 l0 x8_1).f0), .int .i64 ((rd_T87 l0 x8_1).f1), .int .i64 0, .int .i64 0]) ?_ 2 _ rfl; (with_reducible repeat (first | refine blk_drewN ?_ _ | refine blk_drew ?_ | refine blk_alloc ?_ _)); refine blk_put (cs := #[.int .i64 ((rd_T87 l0 x8_1).f0), .int .i64 0, .int .i64 0, .int .i64 0]) ?_ 1 _ rfl; (with_reducible repeat (first | refine blk_drewN ?_ _ | refine blk_drew ?_ | refine blk_alloc ?_ _)); refine blk_put (cs := #[.int .i64 0, .int .i64 0, .int .i64 0, .int .i64 0]) ?_ 0 _ rfl; (with_reducible repeat (first | refine blk_drewN ?_ _ | refine blk_drew ?_ | refine blk_alloc ?_ _)); exact BK439.out) hb) (aE (bs hb))); clear HO_3 BK439 HB; obtain ⟨HO_3, BK439, HB⟩ := n_; (try clear hb)) | ((with_reducible refine gate_builtin (b := .append) (xs := #[.tmp 21, .tmp 22]) rfl ?_); at_builtin; refine Kd.S_append (Kd.slice 5 (Kd.int .u8)) (w0 := w) w.heap.size rfl (.tmp 21) (.tmp 22) 73 22 (.slice none 0 0) 24 rfl Tryd.underlying73 info22 rfl (by decide) (by omega) u3 x3_1 [] [.slice none 0 0] (fun _ => True) (fun _ => False) rfl rfl ?aP (fun _ hk => hk.elim) ?aF ?aO ?aB ?aS ?aL ?_; (case aP => exact ⟨_, rfl, Kd.R_nil _ _ _ _ _⟩); (case aB => exact bl); (case aF => exact (fun _ _ => trivial)); (case aO => exact (by (with_reducible repeat (first | apply Kd.S_alloc | apply Kd.S_drewN | apply Kd.S_drew)); exact Kd.S_mono HO_3.out (fun k_ hk => ⟨trivial, fun e_ => e_⟩))); (case aS => exact bz); (case aL => have := LMc15.out; omega); intro v448 w19 ho hb hg hat; rw [← Ny447.out] at ho; have n_ := aC (blk_grown (g := gb439) (o := .cells #[.int .i64 ((rd_T87 l0 x8_1).f0), .int .i64 ((rd_T87 l0 x8_1).f1), .int .i64 ((rd_T87 l0 x8_1).f2), .int .i64 ((rd_T87 l0 x8_1).f3)] 87 (0, 0)) (bU BK439.out) hg (Kd.S_ne HO_3.out BK439.out (by decide))) (aC hb (aE ho)); clear BK439 HB HO_3; obtain ⟨BK439, HB, HO449⟩ := n_; clear ho hb hg hat))
        go_roundg k1
        case measure => have := HK1.out; omega
        case rel => exact ⟨(y447), (wrap64 (x8_1 + 1)), rq, H', ⟨by have := HK1.out; omega⟩, ⟨by (with_reducible repeat (first | apply Kd.S_alloc | apply Kd.S_drewN | apply Kd.S_drew)); exact HO449.out⟩, ⟨bl⟩⟩
       ·rw [if_neg c15] at H
        exact absurd H (by simp)
     ·rw [if_neg c4] at H
      exact absurd H (by simp)
    ·rw [if_neg c3] at H
     exact absurd H (by simp)
   ·rw [if_neg c2] at H
    have c2b0 := decide_eq_false c2
    clear c2
    obtain rfl := Option.some.inj H
    go_wp2
    go_ret
    exact ⟨_, re, by (with_reducible repeat (first | apply Kd.S_alloc | apply Kd.S_drewN | apply Kd.S_drew)); exact HO_3.out, bl⟩
def incunableref04_begins.l0 : Nat → List Int → List Int → Int → Int → Int → Option (Bool)
 | 0, _, _, _, _, _ => none
 | k + 1, x0, x1, x2, x3, x9 => if x9 < x3 then ((incunableref04_BitAt.f x1 (wrap64 (x2 + x9))).bind fun bt450 => (if 0 ≤ x9 then (if x9 < (x0.length : Int) then (if (wrap64 (rd x0 x9)) = bt450.1 then (incunableref04_begins.l0 k x0 x1 x2 x3 (wrap64 (x9 + 1))) else (some false)) else (none)) else (none))) else (some true)
def incunableref04_begins.f (k : Nat) (l0 : List Int) (l1 : List Int) (a2 : Int) (a3 : Int) : Option (Bool) := if (l0.length : Int) < a3 then (some false) else (incunableref04_begins.l0 k l0 l1 a2 a3 0)
theorem incunableref04_begins.mono_l : ∀ k, (∀ y0 y1 y2 y3 y4, LeO (incunableref04_begins.l0 k y0 y1 y2 y3 y4) (incunableref04_begins.l0 (k + 1) y0 y1 y2 y3 y4))
 | 0 => fun _ _ _ _ _ r h => by simp [incunableref04_begins.l0] at h
 | k + 1 => by
  have ih0 := incunableref04_begins.mono_l k
  ·intro y0 y1 y2 y3 y4
   unfold incunableref04_begins.l0
   repeat' first
   | (with_reducible exact ih0 _ _ _ _ _)
   | (with_reducible first | exact LeO.refl _ | exact LeO.none _ | refine LeO.ite ?_ ?_ | refine LeO.bind ?_ (fun _ => ?_))
   | exact ih0 _ _ _ _ _
   | exact LeO.none _ | refine LeO.ite ?_ ?_ | refine LeO.bind ?_ (fun _ => ?_)
theorem incunableref04_begins.mono : ∀ a0 a1 a2 a3 k, LeO (incunableref04_begins.f k a0 a1 a2 a3) (incunableref04_begins.f (k + 1) a0 a1 a2 a3) := by
 intro a0 a1 a2 a3 k
 have ih0 := incunableref04_begins.mono_l k
 unfold incunableref04_begins.f
 repeat' first
   | (with_reducible exact ih0 _ _ _ _ _)
   | (with_reducible first | exact LeO.refl _ | exact LeO.none _ | refine LeO.ite ?_ ?_ | refine LeO.bind ?_ (fun _ => ?_))
   | exact ih0 _ _ _ _ _
   | exact LeO.none _ | refine LeO.ite ?_ ?_ | refine LeO.bind ?_ (fun _ => ?_)
set_option maxHeartbeats 8000000 in
set_option maxRecDepth 100000 in
theorem incunableref04_begins.calls (k : Nat) (A0 : Option Addr) (c0 : Nat) (l0 : List Int) (A1 : Option Addr) (c1 : Nat) (l1 : List Int) (a2 : Int) (a3 : Int) (r : Bool) (w : World) (hr0 : Kd.C (Kd.int .u8) w A0 l0.length l0) (hc0 : l0.length ≤ c0) (hr1 : Kd.C (Kd.int .u8) w A1 l1.length l1) (hc1 : l1.length ≤ c1) (h : incunableref04_begins.f k l0 l1 a2 a3 = some r) :
  Calls Tryd.prog 128 #[.slice A0 l0.length c0, .slice A1 l1.length c1, .int .i64 a2, .int .i64 a3] w fun e w' => e = .returned (.bool r) ∧ Drawn0 w w' := by
 have HR0 := Aside0.mk hr0
 have HC0 := Aside0.mk hc0
 clear hr0 hc0
 have HR1 := Aside0.mk hr1
 have HC1 := Aside0.mk hc1
 clear hr1 hc1
 have H : (if (l0.length : Int) < a3 then (some false) else (incunableref04_begins.l0 k l0 l1 a2 a3 0)) = some r := h
 clear h
 by_cases c5 : (l0.length : Int) < a3
 ·rw [if_pos c5] at H
  have c5b0 := decide_eq_true c5
  clear c5
  obtain rfl := Option.some.inj H
  go_enter Tryd.func128, Tryd.ntmps128
  go_wp2
  go_ret
  exact ⟨by first | rfl | (simp; done) | (simp [*]; done), by repeat (first | exact Drawn0.refl _ | apply Drawn0.step)⟩
 ·rw [if_neg c5] at H
  have c5b0 := decide_eq_false c5
  clear c5
  have H' := Aside0.mk H
  clear H
  go_enter Tryd.func128, Tryd.ntmps128
  go_wp2
  go_loopg [9] k (fun kq v9 w' => ∃ (x9_1 : Int), v9 = .int .i64 x9_1 ∧ Aside0 (incunableref04_begins.l0 kq l0 l1 a2 a3 x9_1 = some r) ∧ Aside0 (kq ≤ k) ∧ Drawn0 w w')
  case atStart => exact ⟨(0), rq, H', ⟨Nat.le_refl _⟩, by repeat (first | exact Drawn0.refl _ | apply Drawn0.step)⟩
  case round =>
   clear H'
   try clear c1
   obtain ⟨x9_1, rfl, HA, HK1, ⟨m1, rfl⟩⟩ := hrel
   cases gk with
   | zero => exact absurd HA.out (by simp [incunableref04_begins.l0])
   | succ k1 =>
    have H := HA.out
    clear HA
    simp only [incunableref04_begins.l0] at H
    by_cases c6 : x9_1 < a3
    ·rw [if_pos c6] at H
     have c6b0 := decide_eq_true c6
     clear c6
     replace H := Option.bind_eq_some_iff.mp H
     obtain ⟨⟨t450, t451⟩, A70, H⟩ := H
     replace H : (if 0 ≤ x9_1 then (if x9_1 < (l0.length : Int) then (if (wrap64 (rd l0 x9_1)) = t450 then (incunableref04_begins.l0 k1 l0 l1 a2 a3 (wrap64 (x9_1 + 1))) else (some false)) else (none)) else (none)) = some r := H
     have A7 := Aside0.mk A70
     clear A70
     by_cases c8 : 0 ≤ x9_1
     ·rw [if_pos c8] at H
      have c8b0 := decide_eq_true c8
      clear c8
      by_cases c9 : x9_1 < (l0.length : Int)
      ·rw [if_pos c9] at H
       have c9b0 := decide_eq_true c9
       clear c9
       by_cases c10 : (wrap64 (rd l0 x9_1)) = t450
       ·rw [if_pos c10] at H
        have c10b0 := beq_iff_eq.mpr c10
        have c10b1 := bne_eq_false_iff_eq.mpr c10
        clear c10
        have H' := Aside0.mk H
        clear H
        go_wp2_with (first | ((with_reducible refine gf 35 rfl ?_); refine gL (some 26) rfl rfl Tryd.func35 rfl #[.slice A1 l1.length c1, .int .i64 (wrap64 (a2 + x9_1))] rfl ?_; (with_reducible refine (incunableref04_BitAt.calls _ _ l1 (wrap64 (a2 + x9_1)) t450 t451 _ ?side1 ?side2 A7.out).mono ?_); (case side1 => exact cU HR1.out); (case side2 => exact HC1.out); rintro e w' ⟨rfl, ⟨nd, rfl⟩⟩; refine ⟨_, rfl, ?_⟩; have p452 : 0 ≤ (x9_1 : Int) := dt; have q452 : x9_1 < (l0.length : Int) := dt; obtain ⟨ad452, e452, hx452_0⟩ := Kd.at_int HR0.out x9_1 p452 q452; cases e452; replace p452 := eq_true p452; replace q452 := eq_true q452))
        go_roundg k1
        case measure => have := HK1.out; omega
        case rel => exact ⟨(wrap64 (x9_1 + 1)), rq, H', ⟨by have := HK1.out; omega⟩, by repeat (first | exact Drawn0.refl _ | apply Drawn0.step)⟩
       ·rw [if_neg c10] at H
        have c10b0 := beq_eq_false_iff_ne.mpr c10
        have c10b1 := bne_iff_ne.mpr c10
        obtain rfl := Option.some.inj H
        go_wp2_with (first | ((with_reducible refine gf 35 rfl ?_); refine gL (some 26) rfl rfl Tryd.func35 rfl #[.slice A1 l1.length c1, .int .i64 (wrap64 (a2 + x9_1))] rfl ?_; (with_reducible refine (incunableref04_BitAt.calls _ _ l1 (wrap64 (a2 + x9_1)) t450 t451 _ ?side1 ?side2 A7.out).mono ?_); (case side1 => exact cU HR1.out); (case side2 => exact HC1.out); rintro e w' ⟨rfl, ⟨nd, rfl⟩⟩; refine ⟨_, rfl, ?_⟩; have p452 : 0 ≤ (x9_1 : Int) := dt; have q452 : x9_1 < (l0.length : Int) := dt; obtain ⟨ad452, e452, hx452_0⟩ := Kd.at_int HR0.out x9_1 p452 q452; cases e452; replace p452 := eq_true p452; replace q452 := eq_true q452))
        go_ret
        exact ⟨by first | rfl | (simp; done) | (simp [*]; done), by repeat (first | exact Drawn0.refl _ | apply Drawn0.step)⟩
      ·rw [if_neg c9] at H
       exact absurd H (by simp)
     ·rw [if_neg c8] at H
      exact absurd H (by simp)
    ·rw [if_neg c6] at H
     have c6b0 := decide_eq_false c6
     clear c6
     obtain rfl := Option.some.inj H
     go_wp2
     go_ret
     exact ⟨by first | rfl | (simp; done) | (simp [*]; done), by repeat (first | exact Drawn0.refl _ | apply Drawn0.step)⟩
def incunableref04_inner.l0 : Nat → List Int → Int → Int → Int → Int → Int → Int → Int → Option (Bool × Int × Int × Int)
 | 0, _, _, _, _, _, _, _, _ => none
 | k + 1, x1, x2, x9, x10, x454000, x454001, x454002, x454003 => if x10 < x454001 then ((incunableref04_BitAt.f x1 (wrap64 (x2 + x10))).bind fun bt455 => (if bt455.2 = true then (incunableref04_inner.l0 k x1 x2 (wrap64 ((wrap64 (2 * x9)) + bt455.1)) (wrap64 (x10 + 1)) x454000 x454001 x454002 x454003) else (some (false, 0, 0, 6)))) else (if x454003 = 1 then (some (false, wrap64 (x454002 - x9), wrap64 (x2 + x454001), 0)) else (if x454003 = 2 then (some (true, 0, wrap64 (x2 + x454001), 0)) else (some (false, wrap64 (x454002 + x9), wrap64 (x2 + x454001), 0))))
def incunableref04_inner.f (k : Nat) (a0_0 : Int) (a0_1 : Int) (a0_2 : Int) (a0_3 : Int) (l1 : List Int) (a2 : Int) : Option (Bool × Int × Int × Int) := incunableref04_inner.l0 k l1 a2 0 0 a0_0 a0_1 a0_2 a0_3
theorem incunableref04_inner.mono_l : ∀ k, (∀ y0 y1 y2 y3 y4 y5 y6 y7, LeO (incunableref04_inner.l0 k y0 y1 y2 y3 y4 y5 y6 y7) (incunableref04_inner.l0 (k + 1) y0 y1 y2 y3 y4 y5 y6 y7))
 | 0 => fun _ _ _ _ _ _ _ _ r h => by simp [incunableref04_inner.l0] at h
 | k + 1 => by
  have ih0 := incunableref04_inner.mono_l k
  ·intro y0 y1 y2 y3 y4 y5 y6 y7
   unfold incunableref04_inner.l0
   repeat' first
   | (with_reducible exact ih0 _ _ _ _ _ _ _ _)
   | (with_reducible first | exact LeO.refl _ | exact LeO.none _ | refine LeO.ite ?_ ?_ | refine LeO.bind ?_ (fun _ => ?_))
   | exact ih0 _ _ _ _ _ _ _ _
   | exact LeO.none _ | refine LeO.ite ?_ ?_ | refine LeO.bind ?_ (fun _ => ?_)
theorem incunableref04_inner.mono : ∀ a0 a1 a2 a3 a4 a5 k, LeO (incunableref04_inner.f k a0 a1 a2 a3 a4 a5) (incunableref04_inner.f (k + 1) a0 a1 a2 a3 a4 a5) := by
 intro a0 a1 a2 a3 a4 a5 k
 have ih0 := incunableref04_inner.mono_l k
 unfold incunableref04_inner.f
 repeat' first
   | (with_reducible exact ih0 _ _ _ _ _ _ _ _)
   | (with_reducible first | exact LeO.refl _ | exact LeO.none _ | refine LeO.ite ?_ ?_ | refine LeO.bind ?_ (fun _ => ?_))
   | exact ih0 _ _ _ _ _ _ _ _
   | exact LeO.none _ | refine LeO.ite ?_ ?_ | refine LeO.bind ?_ (fun _ => ?_)
set_option maxHeartbeats 8000000 in
set_option maxRecDepth 100000 in
theorem incunableref04_inner.calls (k : Nat) (a0_0 : Int) (a0_1 : Int) (a0_2 : Int) (a0_3 : Int) (A1 : Option Addr) (c1 : Nat) (l1 : List Int) (a2 : Int) (r1 : Bool) (r2 : Int) (r3 : Int) (r4 : Int) (w : World) (hr1 : Kd.C (Kd.int .u8) w A1 l1.length l1) (hc1 : l1.length ≤ c1) (h : incunableref04_inner.f k a0_0 a0_1 a0_2 a0_3 l1 a2 = some (r1, r2, r3, r4)) :
  Calls Tryd.prog 129 #[.agg #[.int .i64 a0_0, .int .i64 a0_1, .int .i64 a0_2, .int .i64 a0_3], .slice A1 l1.length c1, .int .i64 a2] w fun e w' => e = .returned (.tuple #[.agg #[.bool r1, .int .i64 r2], .int .i64 r3, .int .i64 r4]) ∧ Below w.heap.size w w' := by
 have hu87 := Tryd.underlying87
 have hu64 := Tryd.underlying64
 have HR1 := Aside0.mk hr1
 have HC1 := Aside0.mk hc1
 clear hr1 hc1
 have HB := Aside0.mk (Below.refl w.heap.size w)
 have H : (incunableref04_inner.l0 k l1 a2 0 0 a0_0 a0_1 a0_2 a0_3) = some (r1, r2, r3, r4) := h
 clear h
 have H' := Aside0.mk H
 clear H
 go_enter Tryd.func129, Tryd.ntmps129
 go_wp2_with (first | ((with_reducible refine gd 3 rfl ?_); refine bx 3 #[.int .i64 a0_0, .int .i64 a0_1, .int .i64 a0_2, .int .i64 a0_3] 87 rfl rfl ?_; intro gb453 hg w4 hbox hb; have n_ := aC (bs hb) (aC hbox (aC (gz hg) (aE (gz hg)))); clear HB; obtain ⟨HB, BK453, GW453, GE453⟩ := n_; clear hb hbox hg) | ((with_reducible refine gd 6 rfl ?_); refine bx 6 #[.bool false, .int .i64 0] 64 rfl rfl ?_; intro gb454 hg w5 hbox hb; have n_ := aC (blk_below (bU BK453.out) hb) (aC (bs hb) (aC hbox (aC (gz hg) (aC (gz hg) (aC (gn hg (bU BK453.out)) (aE (gm hg (bU BK453.out)))))))); clear BK453 HB; obtain ⟨BK453, HB, BK454, GW454, GE454, NB453_454, NB454_453⟩ := n_; clear hb hbox hg))
 go_loopg [9, 10] k (fun kq v9 v10 w' => ∃ (x9_1 : Int) (x10_1 : Int) (x455000_1 : Bool) (x455001_1 : Int), v9 = .int .i64 x9_1 ∧ v10 = .int .i64 x10_1 ∧ Aside0 (incunableref04_inner.l0 kq l1 a2 x9_1 x10_1 a0_0 a0_1 a0_2 a0_3 = some (r1, r2, r3, r4)) ∧ Aside0 (kq ≤ k) ∧ Aside0 (w'.heap[gb453]? = some (.cells #[.int .i64 a0_0, .int .i64 a0_1, .int .i64 a0_2, .int .i64 a0_3] 87 (0, 0))) ∧ Aside0 (w'.heap[gb454]? = some (.cells #[.bool x455000_1, .int .i64 x455001_1] 64 (0, 0))) ∧ Aside0 (Below w.heap.size w w'))
 case atStart => exact ⟨(0), (0), (false), (0), rq, rq, H', ⟨Nat.le_refl _⟩, ⟨bU BK453.out⟩, ⟨bU BK454.out⟩, ⟨bl⟩⟩
 case round =>
  clear H'
  try clear c1
  obtain ⟨x9_1, x10_1, x455000_1, x455001_1, rfl, rfl, HA, HK1, BK453, BK454, HB⟩ := hrel
  cases gk with
  | zero => exact absurd HA.out (by simp [incunableref04_inner.l0])
  | succ k1 =>
   have H := HA.out
   clear HA
   simp only [incunableref04_inner.l0] at H
   by_cases c6 : x10_1 < a0_1
   ·rw [if_pos c6] at H
    have c6b0 := decide_eq_true c6
    clear c6
    replace H := Option.bind_eq_some_iff.mp H
    obtain ⟨⟨t455, t456⟩, A70, H⟩ := H
    replace H : (if t456 = true then (incunableref04_inner.l0 k1 l1 a2 (wrap64 ((wrap64 (2 * x9_1)) + t455)) (wrap64 (x10_1 + 1)) a0_0 a0_1 a0_2 a0_3) else (some (false, 0, 0, 6))) = some (r1, r2, r3, r4) := H
    have A7 := Aside0.mk A70
    clear A70
    by_cases c8 : t456 = true
    ·subst c8
     have H1 : (incunableref04_inner.l0 k1 l1 a2 (wrap64 ((wrap64 (2 * x9_1)) + t455)) (wrap64 (x10_1 + 1)) a0_0 a0_1 a0_2 a0_3) = some (r1, r2, r3, r4) := by rw [if_pos rfl] at H; exact H
     clear H
     have H := H1
     clear H1
     have H' := Aside0.mk H
     clear H
     have hnb9 := NB453_454.out
     have hnc9 := NB454_453.out
     obtain ⟨hcz10_0, hcz10_1, hcz10_2, hcz10_3, hfz10_0, hfz10_1, hfz10_2, hfz10_3⟩ := cz4f BK453.out
     go_wp2_with (first | ((with_reducible refine gf 35 rfl ?_); refine gL (some 24) rfl rfl Tryd.func35 rfl #[.slice A1 l1.length c1, .int .i64 (wrap64 (a2 + x10_1))] rfl ?_; (with_reducible refine (incunableref04_BitAt.calls _ _ l1 (wrap64 (a2 + x10_1)) t455 true _ ?side1 ?side2 A7.out).mono ?_); (case side1 => exact cU (Kd.C_below HR1.out HB.out)); (case side2 => exact HC1.out); rintro e w' ⟨rfl, ⟨nd, rfl⟩⟩; refine ⟨_, rfl, ?_⟩))
     go_roundg k1
     case measure => have := HK1.out; omega
     case rel => exact ⟨(wrap64 ((wrap64 (2 * x9_1)) + t455)), (wrap64 (x10_1 + 1)), (x455000_1), (x455001_1), rq, rq, H', ⟨by have := HK1.out; omega⟩, ⟨bU BK453.out⟩, ⟨bU BK454.out⟩, ⟨bl⟩⟩
    ·replace c8 := Bool.eq_false_iff.mpr c8
     subst c8
     have H1 : (some (false, 0, 0, 6)) = some (r1, r2, r3, r4) := by rw [if_neg (show ¬ (false = true) by decide)] at H; exact H
     clear H
     have H := H1
     clear H1
     simp only [Option.some.injEq, Prod.mk.injEq] at H
     obtain ⟨rfl, rfl, rfl, rfl⟩ := H
     have hnb11 := NB453_454.out
     have hnc11 := NB454_453.out
     obtain ⟨hcz12_0, hcz12_1, hcz12_2, hcz12_3, hfz12_0, hfz12_1, hfz12_2, hfz12_3⟩ := cz4f BK453.out
     go_wp2_with (first | ((with_reducible refine gf 35 rfl ?_); refine gL (some 24) rfl rfl Tryd.func35 rfl #[.slice A1 l1.length c1, .int .i64 (wrap64 (a2 + x10_1))] rfl ?_; (with_reducible refine (incunableref04_BitAt.calls _ _ l1 (wrap64 (a2 + x10_1)) t455 false _ ?side1 ?side2 A7.out).mono ?_); (case side1 => exact cU (Kd.C_below HR1.out HB.out)); (case side2 => exact HC1.out); rintro e w' ⟨rfl, ⟨nd, rfl⟩⟩; refine ⟨_, rfl, ?_⟩; (try (rw [drewN_self wr]; generalize hq_ : World.drewN wr _ = wr; have n0_ : Aside0 (wr.heap[gb453]? = some (.cells #[.int .i64 a0_0, .int .i64 a0_1, .int .i64 a0_2, .int .i64 a0_3] 87 (0, 0))) := ⟨by rw [← hq_]; exact (bU BK453.out)⟩; have n1_ : Aside0 (wr.heap[gb454]? = some (.cells #[.bool x455000_1, .int .i64 x455001_1] 64 (0, 0))) := ⟨by rw [← hq_]; exact (bU BK454.out)⟩; have n2_ : Aside0 (Below w.heap.size w wr) := ⟨by rw [← hq_]; exact bl⟩; clear BK453 BK454 HB hq_; have BK453 := n0_; have BK454 := n1_; have HB := n2_; clear n0_ n1_ n2_)); obtain ⟨_, _, _, _, _, _, _, _⟩ := cz4f BK453.out; obtain ⟨_, _, _, _⟩ := cz2f BK454.out; obtain ⟨hcz13_0, hcz13_1, hfz13_0, hfz13_1⟩ := cz2f BK454.out))
     refine bodyPost_ret (results_ctt rfl _ _ gb454 64 #[.bool false, .int .i64 0] (0, 0) _ rfl (by (with_reducible repeat (first | refine blk_drewN ?_ _ | refine blk_drew ?_ | refine blk_alloc ?_ _)); refine blk_put (cs := #[.bool false, .int .i64 x455001_1]) ?_ 1 _ rfl; (with_reducible repeat (first | refine blk_drewN ?_ _ | refine blk_drew ?_ | refine blk_alloc ?_ _)); refine blk_put (cs := #[.bool x455000_1, .int .i64 x455001_1]) ?_ 0 _ rfl; (with_reducible repeat (first | refine blk_drewN ?_ _ | refine blk_drew ?_ | refine blk_alloc ?_ _)); exact BK454.out) Tryd.underlying64 rfl (by kernel_rfl)) rfl ?_
     exact ⟨re, bl⟩
   ·rw [if_neg c6] at H
    have c6b0 := decide_eq_false c6
    clear c6
    by_cases c14 : a0_3 = 1
    ·rw [if_pos c14] at H
     have c14b0 := beq_iff_eq.mpr c14
     have c14b1 := bne_eq_false_iff_eq.mpr c14
     clear c14
     simp only [Option.some.injEq, Prod.mk.injEq] at H
     obtain ⟨rfl, rfl, rfl, rfl⟩ := H
     have hnb15 := NB453_454.out
     have hnc15 := NB454_453.out
     obtain ⟨hcz16_0, hcz16_1, hcz16_2, hcz16_3, hfz16_0, hfz16_1, hfz16_2, hfz16_3⟩ := cz4f BK453.out
     obtain ⟨hcz17_0, hcz17_1, hfz17_0, hfz17_1⟩ := cz2f BK454.out
     go_wp2
     refine bodyPost_ret (results_ctt rfl _ _ gb454 64 #[.bool false, .int .i64 (wrap64 (a0_2 - x9_1))] (0, 0) _ rfl (by (with_reducible repeat (first | refine blk_drewN ?_ _ | refine blk_drew ?_ | refine blk_alloc ?_ _)); refine blk_put (cs := #[.bool false, .int .i64 x455001_1]) ?_ 1 _ rfl; (with_reducible repeat (first | refine blk_drewN ?_ _ | refine blk_drew ?_ | refine blk_alloc ?_ _)); refine blk_put (cs := #[.bool x455000_1, .int .i64 x455001_1]) ?_ 0 _ rfl; (with_reducible repeat (first | refine blk_drewN ?_ _ | refine blk_drew ?_ | refine blk_alloc ?_ _)); exact BK454.out) Tryd.underlying64 rfl (by kernel_rfl)) rfl ?_
     exact ⟨re, bl⟩
    ·rw [if_neg c14] at H
     have c14b0 := beq_eq_false_iff_ne.mpr c14
     have c14b1 := bne_iff_ne.mpr c14
     by_cases c18 : a0_3 = 2
     ·rw [if_pos c18] at H
      have c18b0 := beq_iff_eq.mpr c18
      have c18b1 := bne_eq_false_iff_eq.mpr c18
      clear c18
      simp only [Option.some.injEq, Prod.mk.injEq] at H
      obtain ⟨rfl, rfl, rfl, rfl⟩ := H
      have hnb19 := NB453_454.out
      have hnc19 := NB454_453.out
      obtain ⟨hcz20_0, hcz20_1, hcz20_2, hcz20_3, hfz20_0, hfz20_1, hfz20_2, hfz20_3⟩ := cz4f BK453.out
      obtain ⟨hcz21_0, hcz21_1, hfz21_0, hfz21_1⟩ := cz2f BK454.out
      go_wp2
      refine bodyPost_ret (results_ctt rfl _ _ gb454 64 #[.bool true, .int .i64 0] (0, 0) _ rfl (by (with_reducible repeat (first | refine blk_drewN ?_ _ | refine blk_drew ?_ | refine blk_alloc ?_ _)); refine blk_put (cs := #[.bool true, .int .i64 x455001_1]) ?_ 1 _ rfl; (with_reducible repeat (first | refine blk_drewN ?_ _ | refine blk_drew ?_ | refine blk_alloc ?_ _)); refine blk_put (cs := #[.bool x455000_1, .int .i64 x455001_1]) ?_ 0 _ rfl; (with_reducible repeat (first | refine blk_drewN ?_ _ | refine blk_drew ?_ | refine blk_alloc ?_ _)); exact BK454.out) Tryd.underlying64 rfl (by kernel_rfl)) rfl ?_
      exact ⟨re, bl⟩
     ·rw [if_neg c18] at H
      have c18b0 := beq_eq_false_iff_ne.mpr c18
      have c18b1 := bne_iff_ne.mpr c18
      simp only [Option.some.injEq, Prod.mk.injEq] at H
      obtain ⟨rfl, rfl, rfl, rfl⟩ := H
      have hnb22 := NB453_454.out
      have hnc22 := NB454_453.out
      obtain ⟨hcz23_0, hcz23_1, hcz23_2, hcz23_3, hfz23_0, hfz23_1, hfz23_2, hfz23_3⟩ := cz4f BK453.out
      obtain ⟨hcz24_0, hcz24_1, hfz24_0, hfz24_1⟩ := cz2f BK454.out
      go_wp2
      refine bodyPost_ret (results_ctt rfl _ _ gb454 64 #[.bool false, .int .i64 (wrap64 (a0_2 + x9_1))] (0, 0) _ rfl (by (with_reducible repeat (first | refine blk_drewN ?_ _ | refine blk_drew ?_ | refine blk_alloc ?_ _)); refine blk_put (cs := #[.bool false, .int .i64 x455001_1]) ?_ 1 _ rfl; (with_reducible repeat (first | refine blk_drewN ?_ _ | refine blk_drew ?_ | refine blk_alloc ?_ _)); refine blk_put (cs := #[.bool x455000_1, .int .i64 x455001_1]) ?_ 0 _ rfl; (with_reducible repeat (first | refine blk_drewN ?_ _ | refine blk_drew ?_ | refine blk_alloc ?_ _)); exact BK454.out) Tryd.underlying64 rfl (by kernel_rfl)) rfl ?_
      exact ⟨re, bl⟩
mutual
def incunableref04_Take.l0 : Nat → List (S87) → List Int → Int → List (List Int) → Int → Option (Bool × Int × Int × Int)
 | 0, _, _, _, _, _ => none
 | k + 1, x0, x1, x2, x9, x10 => if x10 ≤ 16 then ((incunableref04_BitAt.f x1 (wrap64 ((wrap64 (x2 + x10)) - 1))).bind fun bt461 => (if bt461.2 = true then (incunableref04_Take.l1 k x0 x1 x2 x9 x10 false x9 (x9.length : Int) 0) else (some (false, 0, 0, 6)))) else (some (false, 0, 0, 3))
def incunableref04_Take.l1 : Nat → List (S87) → List Int → Int → List (List Int) → Int → Bool → List (List Int) → Int → Int → Option (Bool × Int × Int × Int)
 | 0, _, _, _, _, _, _, _, _, _ => none
 | k + 1, x0, x1, x2, x9, x10, x13, x34, x35, x36 => if x36 < x35 then (if 0 ≤ x36 then (if x36 < (x34.length : Int) then (if x36 < (x0.length : Int) then ((incunableref04_used.f ((rd_T87 x0 x36).f0) ((rd_T87 x0 x36).f1) ((rd_T87 x0 x36).f2) ((rd_T87 x0 x36).f3)).bind fun t465 => (if t465 = true then ((incunableref04_begins.f k (rd_L8 x34 x36) x1 x2 x10).bind fun t466 => (if t466 = true then (if ((rd_L8 x34 x36).length : Int) = x10 then ((incunableref04_inner.f k ((rd_T87 x0 x36).f0) ((rd_T87 x0 x36).f1) ((rd_T87 x0 x36).f2) ((rd_T87 x0 x36).f3) x1 (wrap64 (x2 + x10))).bind fun bt468 => (some (bt468.1, bt468.2.1, bt468.2.2.1, bt468.2.2.2))) else (incunableref04_Take.l1 k x0 x1 x2 x9 x10 true x34 x35 (wrap64 (x36 + 1)))) else (incunableref04_Take.l1 k x0 x1 x2 x9 x10 x13 x34 x35 (wrap64 (x36 + 1))))) else (incunableref04_Take.l1 k x0 x1 x2 x9 x10 x13 x34 x35 (wrap64 (x36 + 1))))) else (none)) else (none)) else (none)) else (if x13 = true then (incunableref04_Take.l0 k x0 x1 x2 x9 (wrap64 (x10 + 1))) else (some (false, 0, 0, 3)))
end
def incunableref04_Take.f (k : Nat) (l0 : List (S87)) (l1 : List Int) (a2 : Int) : Option (Bool × Int × Int × Int) := (incunableref04_Codes.f k l0).bind fun t458 => (incunableref04_Take.l0 k l0 l1 a2 t458 1)
theorem incunableref04_Take.mono_l : ∀ k, (∀ y0 y1 y2 y3 y4, LeO (incunableref04_Take.l0 k y0 y1 y2 y3 y4) (incunableref04_Take.l0 (k + 1) y0 y1 y2 y3 y4)) ∧ (∀ y0 y1 y2 y3 y4 y5 y6 y7 y8, LeO (incunableref04_Take.l1 k y0 y1 y2 y3 y4 y5 y6 y7 y8) (incunableref04_Take.l1 (k + 1) y0 y1 y2 y3 y4 y5 y6 y7 y8))
 | 0 => ⟨fun _ _ _ _ _ r h => by simp [incunableref04_Take.l0] at h, fun _ _ _ _ _ _ _ _ _ r h => by simp [incunableref04_Take.l1] at h⟩
 | k + 1 => by
  obtain ⟨ih0, ih1⟩ := incunableref04_Take.mono_l k
  refine ⟨?_, ?_⟩
  ·intro y0 y1 y2 y3 y4
   unfold incunableref04_Take.l0
   repeat' first
   | (with_reducible exact ih0 _ _ _ _ _)
   | (with_reducible exact ih1 _ _ _ _ _ _ _ _ _)
   | (with_reducible exact incunableref04_Codes.mono _ _)
   | (with_reducible exact incunableref04_begins.mono _ _ _ _ _)
   | (with_reducible exact incunableref04_inner.mono _ _ _ _ _ _ _)
   | (with_reducible first | exact LeO.refl _ | exact LeO.none _ | refine LeO.ite ?_ ?_ | refine LeO.bind ?_ (fun _ => ?_))
   | exact ih0 _ _ _ _ _
   | exact ih1 _ _ _ _ _ _ _ _ _
   | exact incunableref04_Codes.mono _ _
   | exact incunableref04_begins.mono _ _ _ _ _
   | exact incunableref04_inner.mono _ _ _ _ _ _ _
   | exact LeO.none _ | refine LeO.ite ?_ ?_ | refine LeO.bind ?_ (fun _ => ?_)
  ·intro y0 y1 y2 y3 y4 y5 y6 y7 y8
   unfold incunableref04_Take.l1
   repeat' first
   | (with_reducible exact ih0 _ _ _ _ _)
   | (with_reducible exact ih1 _ _ _ _ _ _ _ _ _)
   | (with_reducible exact incunableref04_Codes.mono _ _)
   | (with_reducible exact incunableref04_begins.mono _ _ _ _ _)
   | (with_reducible exact incunableref04_inner.mono _ _ _ _ _ _ _)
   | (with_reducible first | exact LeO.refl _ | exact LeO.none _ | refine LeO.ite ?_ ?_ | refine LeO.bind ?_ (fun _ => ?_))
   | exact ih0 _ _ _ _ _
   | exact ih1 _ _ _ _ _ _ _ _ _
   | exact incunableref04_Codes.mono _ _
   | exact incunableref04_begins.mono _ _ _ _ _
   | exact incunableref04_inner.mono _ _ _ _ _ _ _
   | exact LeO.none _ | refine LeO.ite ?_ ?_ | refine LeO.bind ?_ (fun _ => ?_)
theorem incunableref04_Take.mono : ∀ a0 a1 a2 k, LeO (incunableref04_Take.f k a0 a1 a2) (incunableref04_Take.f (k + 1) a0 a1 a2) := by
 intro a0 a1 a2 k
 obtain ⟨ih0, ih1⟩ := incunableref04_Take.mono_l k
 unfold incunableref04_Take.f
 repeat' first
   | (with_reducible exact ih0 _ _ _ _ _)
   | (with_reducible exact ih1 _ _ _ _ _ _ _ _ _)
   | (with_reducible exact incunableref04_Codes.mono _ _)
   | (with_reducible exact incunableref04_begins.mono _ _ _ _ _)
   | (with_reducible exact incunableref04_inner.mono _ _ _ _ _ _ _)
   | (with_reducible first | exact LeO.refl _ | exact LeO.none _ | refine LeO.ite ?_ ?_ | refine LeO.bind ?_ (fun _ => ?_))
   | exact ih0 _ _ _ _ _
   | exact ih1 _ _ _ _ _ _ _ _ _
   | exact incunableref04_Codes.mono _ _
   | exact incunableref04_begins.mono _ _ _ _ _
   | exact incunableref04_inner.mono _ _ _ _ _ _ _
   | exact LeO.none _ | refine LeO.ite ?_ ?_ | refine LeO.bind ?_ (fun _ => ?_)
set_option maxHeartbeats 8000000 in
set_option maxRecDepth 100000 in
theorem incunableref04_Take.calls (k : Nat) (A0 : Option Addr) (c0 : Nat) (l0 : List (S87)) (A1 : Option Addr) (c1 : Nat) (l1 : List Int) (a2 : Int) (r1 : Bool) (r2 : Int) (r3 : Int) (r4 : Int) (w : World) (hr0 : Kd.C k87 w A0 l0.length l0) (hc0 : l0.length ≤ c0) (hr1 : Kd.C (Kd.int .u8) w A1 l1.length l1) (hc1 : l1.length ≤ c1) (h : incunableref04_Take.f k l0 l1 a2 = some (r1, r2, r3, r4)) :
  Calls Tryd.prog 115 #[.slice A0 l0.length c0, .slice A1 l1.length c1, .int .i64 a2] w fun e w' => e = .returned (.tuple #[.agg #[.bool r1, .int .i64 r2], .int .i64 r3, .int .i64 r4]) ∧ Below w.heap.size w w' := by
 have hu64 := Tryd.underlying64
 have hu87 := Tryd.underlying87
 have HR0 := Aside0.mk hr0
 have HC0 := Aside0.mk hc0
 clear hr0 hc0
 have HR1 := Aside0.mk hr1
 have HC1 := Aside0.mk hc1
 clear hr1 hc1
 have HB := Aside0.mk (Below.refl w.heap.size w)
 have H : ((incunableref04_Codes.f k l0).bind fun t458 => (incunableref04_Take.l0 k l0 l1 a2 t458 1)) = some (r1, r2, r3, r4) := h
 clear h
 replace H := Option.bind_eq_some_iff.mp H
 obtain ⟨t458, A40, H⟩ := H
 replace H : (incunableref04_Take.l0 k l0 l1 a2 t458 1) = some (r1, r2, r3, r4) := H
 have A4 := Aside0.mk A40
 clear A40
 have H' := Aside0.mk H
 clear H
 go_enter Tryd.func115, Tryd.ntmps115
 go_wp2_with (first | ((with_reducible refine gd 6 rfl ?_); refine bx 6 #[.bool false, .int .i64 0] 64 rfl rfl ?_; intro gb457 hg w5 hbox hb; have n_ := aC (bs hb) (aC hbox (aC (gz hg) (aE (gz hg)))); clear HB; obtain ⟨HB, BK457, GW457, GE457⟩ := n_; clear hb hbox hg) | ((with_reducible refine gf 127 rfl ?_); refine gL (some 17) rfl rfl Tryd.func127 rfl #[.slice A0 l0.length c0] rfl ?_; (with_reducible refine (incunableref04_Codes.calls k _ _ l0 t458 _ ?side1 ?side2 A4.out).mono ?_); (case side1 => exact cU (Kd.C_below HR0.out HB.out)); (case side2 => exact HC0.out); rintro e w6 ⟨v459, rfl, ho0, hb⟩; refine ⟨_, rfl, ?_⟩; have n_ := aC (Kd.S_lower ho0 bz) (aC (blk_below (bU BK457.out) hb) (aE (bs hb))); clear BK457 HB; obtain ⟨HO460, BK457, HB⟩ := n_; (try clear hb); (try clear ho0)))
 go_loopg [10] k (fun kq v10 w' => ∃ (x10_1 : Int) (x458000_1 : Bool) (x458001_1 : Int), v10 = .int .i64 x10_1 ∧ Aside0 (incunableref04_Take.l0 kq l0 l1 a2 t458 x10_1 = some (r1, r2, r3, r4)) ∧ Aside0 (kq ≤ k) ∧ Aside0 (Kd.S (Kd.slice 5 (Kd.int .u8)) 22 w' w.heap.size (fun _ => True) v459 t458) ∧ Aside0 (w'.heap[gb457]? = some (.cells #[.bool x458000_1, .int .i64 x458001_1] 64 (0, 0))) ∧ Aside0 (Below w.heap.size w w'))
 case atStart => exact ⟨(1), (false), (0), rq, H', ⟨Nat.le_refl _⟩, ⟨by (with_reducible repeat (first | apply Kd.S_alloc | apply Kd.S_drewN | apply Kd.S_drew)); exact HO460.out⟩, ⟨bU BK457.out⟩, ⟨bl⟩⟩
 case round =>
  clear H'
  try clear c1
  obtain ⟨x10_1, x458000_1, x458001_1, rfl, HA, HK1, HO_9, BK457, HB⟩ := hrel
  cases gk with
  | zero => exact absurd HA.out (by simp [incunableref04_Take.l0])
  | succ k1 =>
   have H := HA.out
   clear HA
   simp only [incunableref04_Take.l0] at H
   by_cases c7 : x10_1 ≤ 16
   ·rw [if_pos c7] at H
    have c7b0 := decide_eq_true c7
    clear c7
    replace H := Option.bind_eq_some_iff.mp H
    obtain ⟨⟨t461, t462⟩, A80, H⟩ := H
    replace H : (if t462 = true then (incunableref04_Take.l1 k1 l0 l1 a2 t458 x10_1 false t458 (t458.length : Int) 0) else (some (false, 0, 0, 6))) = some (r1, r2, r3, r4) := H
    have A8 := Aside0.mk A80
    clear A80
    by_cases c9 : t462 = true
    ·subst c9
     have H1 : (incunableref04_Take.l1 k1 l0 l1 a2 t458 x10_1 false t458 (t458.length : Int) 0) = some (r1, r2, r3, r4) := by rw [if_pos rfl] at H; exact H
     clear H
     have H := H1
     clear H1
     have H' := Aside0.mk H
     clear H
     go_wp2_with (first | ((with_reducible refine gf 35 rfl ?_); refine gL (some 28) rfl rfl Tryd.func35 rfl #[.slice A1 l1.length c1, .int .i64 (wrap64 ((wrap64 (a2 + x10_1)) - 1))] rfl ?_; (with_reducible refine (incunableref04_BitAt.calls _ _ l1 (wrap64 ((wrap64 (a2 + x10_1)) - 1)) t461 true _ ?side1 ?side2 A8.out).mono ?_); (case side1 => exact cU (Kd.C_below HR1.out HB.out)); (case side2 => exact HC1.out); rintro e w' ⟨rfl, ⟨nd, rfl⟩⟩; refine ⟨_, rfl, ?_⟩; obtain ⟨Ao10, co10, eo10⟩ := Kd.S_slice HO_9.out; subst eo10))
     go_loopg [13, 36] k1 (fun kq v13 v36 w' => ∃ (x13_2 : Bool) (x36_2 : Int) (x458000_2 : Bool) (x458001_2 : Int), v13 = .bool x13_2 ∧ v36 = .int .i64 x36_2 ∧ Aside0 (incunableref04_Take.l1 kq l0 l1 a2 t458 x10_1 x13_2 t458 (t458.length : Int) x36_2 = some (r1, r2, r3, r4)) ∧ Aside0 (kq ≤ k1) ∧ Aside0 (Kd.S (Kd.slice 5 (Kd.int .u8)) 22 w' w.heap.size (fun _ => True) (.slice Ao10 t458.length co10) t458) ∧ Aside0 (Kd.S (Kd.slice 5 (Kd.int .u8)) 22 w' w.heap.size (fun _ => True) (.slice Ao10 t458.length co10) t458) ∧ Aside0 (w'.heap[gb457]? = some (.cells #[.bool x458000_2, .int .i64 x458001_2] 64 (0, 0))) ∧ Aside0 (Below w.heap.size w w'))
     case atStart => exact ⟨(false), (0), (x458000_1), (x458001_1), rq, rq, H', ⟨Nat.le_refl _⟩, ⟨by (with_reducible repeat (first | apply Kd.S_alloc | apply Kd.S_drewN | apply Kd.S_drew)); exact HO_9.out⟩, ⟨by (with_reducible repeat (first | apply Kd.S_alloc | apply Kd.S_drewN | apply Kd.S_drew)); exact HO_9.out⟩, ⟨bU BK457.out⟩, ⟨bl⟩⟩
     case round =>
      clear H'
      try clear c1
      obtain ⟨x13_2, x36_2, x458000_2, x458001_2, rfl, rfl, HA, HK2, HO_9, HO_34, BK457, HB⟩ := hrel
      cases gk with
      | zero => exact absurd HA.out (by simp [incunableref04_Take.l1])
      | succ k2 =>
       have H := HA.out
       clear HA
       simp only [incunableref04_Take.l1] at H
       by_cases c11 : x36_2 < (t458.length : Int)
       ·rw [if_pos c11] at H
        have c11b0 := decide_eq_true c11
        clear c11
        by_cases c12 : 0 ≤ x36_2
        ·rw [if_pos c12] at H
         have c12b0 := decide_eq_true c12
         clear c12
         by_cases c13 : x36_2 < (t458.length : Int)
         ·rw [if_pos c13] at H
          have c13b0 := decide_eq_true c13
          clear c13
          by_cases c14 : x36_2 < (l0.length : Int)
          ·rw [if_pos c14] at H
           have c14b0 := decide_eq_true c14
           clear c14
           replace H := Option.bind_eq_some_iff.mp H
           obtain ⟨t465, A150, H⟩ := H
           replace H : (if t465 = true then ((incunableref04_begins.f k2 (rd_L8 t458 x36_2) l1 a2 x10_1).bind fun t466 => (if t466 = true then (if ((rd_L8 t458 x36_2).length : Int) = x10_1 then ((incunableref04_inner.f k2 ((rd_T87 l0 x36_2).f0) ((rd_T87 l0 x36_2).f1) ((rd_T87 l0 x36_2).f2) ((rd_T87 l0 x36_2).f3) l1 (wrap64 (a2 + x10_1))).bind fun bt468 => (some (bt468.1, bt468.2.1, bt468.2.2.1, bt468.2.2.2))) else (incunableref04_Take.l1 k2 l0 l1 a2 t458 x10_1 true t458 (t458.length : Int) (wrap64 (x36_2 + 1)))) else (incunableref04_Take.l1 k2 l0 l1 a2 t458 x10_1 x13_2 t458 (t458.length : Int) (wrap64 (x36_2 + 1))))) else (incunableref04_Take.l1 k2 l0 l1 a2 t458 x10_1 x13_2 t458 (t458.length : Int) (wrap64 (x36_2 + 1)))) = some (r1, r2, r3, r4) := H
           have A15 := Aside0.mk A150
           clear A150
           by_cases c16 : t465 = true
           ·subst c16
            have H1 : ((incunableref04_begins.f k2 (rd_L8 t458 x36_2) l1 a2 x10_1).bind fun t466 => (if t466 = true then (if ((rd_L8 t458 x36_2).length : Int) = x10_1 then ((incunableref04_inner.f k2 ((rd_T87 l0 x36_2).f0) ((rd_T87 l0 x36_2).f1) ((rd_T87 l0 x36_2).f2) ((rd_T87 l0 x36_2).f3) l1 (wrap64 (a2 + x10_1))).bind fun bt468 => (some (bt468.1, bt468.2.1, bt468.2.2.1, bt468.2.2.2))) else (incunableref04_Take.l1 k2 l0 l1 a2 t458 x10_1 true t458 (t458.length : Int) (wrap64 (x36_2 + 1)))) else (incunableref04_Take.l1 k2 l0 l1 a2 t458 x10_1 x13_2 t458 (t458.length : Int) (wrap64 (x36_2 + 1))))) = some (r1, r2, r3, r4) := by rw [if_pos rfl] at H; exact H
            clear H
            have H := H1
            clear H1
            replace H := Option.bind_eq_some_iff.mp H
            obtain ⟨t466, A170, H⟩ := H
            replace H : (if t466 = true then (if ((rd_L8 t458 x36_2).length : Int) = x10_1 then ((incunableref04_inner.f k2 ((rd_T87 l0 x36_2).f0) ((rd_T87 l0 x36_2).f1) ((rd_T87 l0 x36_2).f2) ((rd_T87 l0 x36_2).f3) l1 (wrap64 (a2 + x10_1))).bind fun bt468 => (some (bt468.1, bt468.2.1, bt468.2.2.1, bt468.2.2.2))) else (incunableref04_Take.l1 k2 l0 l1 a2 t458 x10_1 true t458 (t458.length : Int) (wrap64 (x36_2 + 1)))) else (incunableref04_Take.l1 k2 l0 l1 a2 t458 x10_1 x13_2 t458 (t458.length : Int) (wrap64 (x36_2 + 1)))) = some (r1, r2, r3, r4) := H
            have A17 := Aside0.mk A170
            clear A170
            by_cases c18 : t466 = true
            ·subst c18
             have H1 : (if ((rd_L8 t458 x36_2).length : Int) = x10_1 then ((incunableref04_inner.f k2 ((rd_T87 l0 x36_2).f0) ((rd_T87 l0 x36_2).f1) ((rd_T87 l0 x36_2).f2) ((rd_T87 l0 x36_2).f3) l1 (wrap64 (a2 + x10_1))).bind fun bt468 => (some (bt468.1, bt468.2.1, bt468.2.2.1, bt468.2.2.2))) else (incunableref04_Take.l1 k2 l0 l1 a2 t458 x10_1 true t458 (t458.length : Int) (wrap64 (x36_2 + 1)))) = some (r1, r2, r3, r4) := by rw [if_pos rfl] at H; exact H
             clear H
             have H := H1
             clear H1
             by_cases c19 : ((rd_L8 t458 x36_2).length : Int) = x10_1
             ·rw [if_pos c19] at H
              have c19b0 := beq_iff_eq.mpr c19
              have c19b1 := bne_eq_false_iff_eq.mpr c19
              clear c19
              replace H := Option.bind_eq_some_iff.mp H
              obtain ⟨⟨t468, t469, t470, t471⟩, A200, H⟩ := H
              replace H : (some (t468, t469, t470, t471)) = some (r1, r2, r3, r4) := H
              have A20 := Aside0.mk A200
              clear A200
              simp only [Option.some.injEq, Prod.mk.injEq] at H
              obtain ⟨rfl, rfl, rfl, rfl⟩ := H
              have p463 : 0 ≤ (x36_2 : Int) := dt
              have q463 : x36_2 < (t458.length : Int) := dt
              obtain ⟨ad463, A463_0, c463_0, e463, hx463_0, hl463_0, hi463_0⟩ := at_L8 (Kd.S_reads' HO_34.out).2.2 x36_2 p463 q463
              cases e463
              obtain ⟨ce463, hce463, hMe463, hcc463⟩ := Kd.S_get HO_34.out [] x36_2 p463 (by first | exact q463 | exact dt | (have e_ := (Kd.S_reads' HO_34.out).1; omega))
              obtain ⟨ve463_0, rfl, ge463_0⟩ := hMe463
              have hv463_0 := hcc463 0 _ rfl
              rw [Nat.add_zero, show ((Kd.slice 5 (Kd.int .u8))).sz = 1 from rfl, Nat.mul_one] at hv463_0
              replace hv463_0 := Option.some.inj (hv463_0.symm.trans hx463_0)
              rw [hv463_0] at ge463_0
              have HL463_0 := Aside0.mk (show Kd.R (Kd.int .u8) 5 _ _ _ _ (rd_L8 t458 x36_2) from ge463_0)
              clear hv463_0 ge463_0
              clear hcc463 hce463
              have HR463_0 := Aside0.mk hi463_0
              have HC463_0 := Aside0.mk hl463_0
              clear hi463_0 hl463_0
              replace p463 := eq_true p463
              replace q463 := eq_true q463
              have p464 : 0 ≤ (x36_2 : Int) := dt
              have q464 : x36_2 < (l0.length : Int) := dt
              obtain ⟨ad464, e464, hx464_0, hx464_1, hx464_2, hx464_3⟩ := at_T87 HR0.out x36_2 p464 q464
              cases e464
              replace hx464_0 := hcB HB.out hx464_0
              replace hx464_1 := hcB HB.out hx464_1
              replace hx464_2 := hcB HB.out hx464_2
              replace hx464_3 := hcB HB.out hx464_3
              replace p464 := eq_true p464
              replace q464 := eq_true q464
              go_wp2_with (first | ((with_reducible refine gf 61 rfl ?_); refine gL (some 45) rfl rfl Tryd.func61 rfl #[.agg #[.int .i64 ((rd_T87 l0 x36_2).f0), .int .i64 ((rd_T87 l0 x36_2).f1), .int .i64 ((rd_T87 l0 x36_2).f2), .int .i64 ((rd_T87 l0 x36_2).f3)]] rfl ?_; (with_reducible refine (incunableref04_used.calls ((rd_T87 l0 x36_2).f0) ((rd_T87 l0 x36_2).f1) ((rd_T87 l0 x36_2).f2) ((rd_T87 l0 x36_2).f3) true _ A15.out).mono ?_); rintro e w21 ⟨rfl, hb⟩; refine ⟨_, rfl, ?_⟩; have n_ := aC (Kd.S_below (by (with_reducible repeat (first | apply Kd.S_alloc | apply Kd.S_drewN | apply Kd.S_drew)); exact HO_9.out) hb) (aC (Kd.S_below (by (with_reducible repeat (first | apply Kd.S_alloc | apply Kd.S_drewN | apply Kd.S_drew)); exact HO_34.out) hb) (aC (Kd.R_below (rU HL463_0.out) hb) (aC (blk_below (bU BK457.out) hb) (aC (Kd.C_below (by repeat (first | (with_reducible exact HR463_0.out) | (with_reducible refine Kd.C_alloc ?_ _) | (with_reducible refine Kd.C_drewN ?_ _) | (with_reducible refine Kd.C_drew ?_) | exact HR463_0.out)) hb) (aE (bs hb)))))); clear HO_9 HO_34 HL463_0 BK457 HR463_0 HB; obtain ⟨HO_9, HO_34, HL463_0, BK457, HR463_0, HB⟩ := n_; (try clear hb)) | (go_at_call 128; (with_reducible refine (incunableref04_begins.calls k2 _ _ (rd_L8 t458 x36_2) _ _ l1 a2 x10_1 true _ ?side1 ?side2 ?side3 ?side4 A17.out).mono ?_); (case side1 => repeat (first | exact (by repeat (first | (with_reducible exact HR463_0.out) | (with_reducible refine Kd.C_alloc ?_ _) | (with_reducible refine Kd.C_drewN ?_ _) | (with_reducible refine Kd.C_drew ?_) | exact HR463_0.out)) | (with_reducible refine Kd.C_alloc ?_ _) | (with_reducible refine Kd.C_drewN ?_ _) | (with_reducible refine Kd.C_drew ?_))); (case side2 => exact HC463_0.out); (case side3 => exact cU (Kd.C_below HR1.out HB.out)); (case side4 => exact HC1.out); rintro e w' ⟨rfl, ⟨nd, rfl⟩⟩; (try (rw [drewN_self w21]; generalize hq_ : World.drewN w21 _ = w21; have n0_ : Aside0 (Kd.R (Kd.int .u8) 5 w21 w.heap.size (fun k_ => some k_ ≠ (.slice (some ad463) t458.length co10 : Value).ownBlock) (.slice A463_0 (rd_L8 t458 x36_2).length c463_0) (rd_L8 t458 x36_2)) := ⟨by rw [← hq_]; exact (rU (Kd.R_mono HL463_0.out (fun _ hk => hk.2)))⟩; have n1_ : Aside0 (Kd.S (Kd.slice 5 (Kd.int .u8)) 22 w21 w.heap.size (fun _ => True) (.slice (some ad463) t458.length co10) t458) := ⟨by rw [← hq_]; exact (by (with_reducible repeat (first | apply Kd.S_alloc | apply Kd.S_drewN | apply Kd.S_drew)); exact HO_34.out)⟩; have n2_ : Aside0 (Kd.S (Kd.slice 5 (Kd.int .u8)) 22 w21 w.heap.size (fun _ => True) (.slice (some ad463) t458.length co10) t458) := ⟨by rw [← hq_]; exact (by (with_reducible repeat (first | apply Kd.S_alloc | apply Kd.S_drewN | apply Kd.S_drew)); exact HO_9.out)⟩; have n3_ : Aside0 (w21.heap[gb457]? = some (.cells #[.bool x458000_2, .int .i64 x458001_2] 64 (0, 0))) := ⟨by rw [← hq_]; exact (bU BK457.out)⟩; have n4_ : Aside0 (Below w.heap.size w w21) := ⟨by rw [← hq_]; exact bl⟩; have n5_ : Aside0 (Kd.C (Kd.int .u8) w21 A463_0 (rd_L8 t458 x36_2).length (rd_L8 t458 x36_2)) := ⟨by rw [← hq_]; exact (by repeat (first | (with_reducible exact HR463_0.out) | (with_reducible refine Kd.C_alloc ?_ _) | (with_reducible refine Kd.C_drewN ?_ _) | (with_reducible refine Kd.C_drew ?_) | exact HR463_0.out))⟩; clear HL463_0 HO_34 HO_9 BK457 HB HR463_0 hq_; have HL463_0 := n0_; have HO_34 := n1_; have HO_9 := n2_; have BK457 := n3_; have HB := n4_; have HR463_0 := n5_; clear n0_ n1_ n2_ n3_ n4_ n5_)); have p467 : 0 ≤ (x36_2 : Int) := dt; have q467 : x36_2 < (l0.length : Int) := dt; obtain ⟨ad467, e467, hx467_0, hx467_1, hx467_2, hx467_3⟩ := at_T87 HR0.out x36_2 p467 q467; obtain rfl : ad464 = ad467 := (by injection e467); replace hx467_0 := hcB HB.out hx467_0; replace hx467_1 := hcB HB.out hx467_1; replace hx467_2 := hcB HB.out hx467_2; replace hx467_3 := hcB HB.out hx467_3; replace p467 := eq_true p467; replace q467 := eq_true q467) | ((with_reducible refine gf 129 rfl ?_); refine gL (some 67) rfl rfl Tryd.func129 rfl #[.agg #[.int .i64 ((rd_T87 l0 x36_2).f0), .int .i64 ((rd_T87 l0 x36_2).f1), .int .i64 ((rd_T87 l0 x36_2).f2), .int .i64 ((rd_T87 l0 x36_2).f3)], .slice A1 l1.length c1, .int .i64 (wrap64 (a2 + x10_1))] rfl ?_; (with_reducible refine (incunableref04_inner.calls k2 ((rd_T87 l0 x36_2).f0) ((rd_T87 l0 x36_2).f1) ((rd_T87 l0 x36_2).f2) ((rd_T87 l0 x36_2).f3) _ _ l1 (wrap64 (a2 + x10_1)) t468 t469 t470 t471 _ ?side1 ?side2 A20.out).mono ?_); (case side1 => exact cU (Kd.C_below HR1.out HB.out)); (case side2 => exact HC1.out); rintro e w22 ⟨rfl, hb⟩; refine ⟨_, rfl, ?_⟩; have n_ := aC (Kd.S_below (by (with_reducible repeat (first | apply Kd.S_alloc | apply Kd.S_drewN | apply Kd.S_drew)); exact HO_9.out) hb) (aC (Kd.S_below (by (with_reducible repeat (first | apply Kd.S_alloc | apply Kd.S_drewN | apply Kd.S_drew)); exact HO_34.out) hb) (aC (Kd.R_below (rU HL463_0.out) hb) (aC (blk_below (bU BK457.out) hb) (aC (Kd.C_below (by repeat (first | (with_reducible exact HR463_0.out) | (with_reducible refine Kd.C_alloc ?_ _) | (with_reducible refine Kd.C_drewN ?_ _) | (with_reducible refine Kd.C_drew ?_) | exact HR463_0.out)) hb) (aE (bs hb)))))); clear HO_9 HO_34 HL463_0 BK457 HR463_0 HB; obtain ⟨HO_9, HO_34, HL463_0, BK457, HR463_0, HB⟩ := n_; (try clear hb); obtain ⟨hcz23_0, hcz23_1, hfz23_0, hfz23_1⟩ := cz2f BK457.out))
              refine bodyPost_ret (results_ctt rfl _ _ gb457 64 #[.bool t468, .int .i64 t469] (0, 0) _ rfl (by (with_reducible repeat (first | refine blk_drewN ?_ _ | refine blk_drew ?_ | refine blk_alloc ?_ _)); refine blk_put (cs := #[.bool t468, .int .i64 x458001_2]) ?_ 1 _ rfl; (with_reducible repeat (first | refine blk_drewN ?_ _ | refine blk_drew ?_ | refine blk_alloc ?_ _)); refine blk_put (cs := #[.bool x458000_2, .int .i64 x458001_2]) ?_ 0 _ rfl; (with_reducible repeat (first | refine blk_drewN ?_ _ | refine blk_drew ?_ | refine blk_alloc ?_ _)); exact BK457.out) Tryd.underlying64 rfl (by kernel_rfl)) rfl ?_
              exact ⟨re, bl⟩
             ·rw [if_neg c19] at H
              have c19b0 := beq_eq_false_iff_ne.mpr c19
              have c19b1 := bne_iff_ne.mpr c19
              have H' := Aside0.mk H
              clear H
              have p463 : 0 ≤ (x36_2 : Int) := dt
              have q463 : x36_2 < (t458.length : Int) := dt
              obtain ⟨ad463, A463_0, c463_0, e463, hx463_0, hl463_0, hi463_0⟩ := at_L8 (Kd.S_reads' HO_34.out).2.2 x36_2 p463 q463
              cases e463
              obtain ⟨ce463, hce463, hMe463, hcc463⟩ := Kd.S_get HO_34.out [] x36_2 p463 (by first | exact q463 | exact dt | (have e_ := (Kd.S_reads' HO_34.out).1; omega))
              obtain ⟨ve463_0, rfl, ge463_0⟩ := hMe463
              have hv463_0 := hcc463 0 _ rfl
              rw [Nat.add_zero, show ((Kd.slice 5 (Kd.int .u8))).sz = 1 from rfl, Nat.mul_one] at hv463_0
              replace hv463_0 := Option.some.inj (hv463_0.symm.trans hx463_0)
              rw [hv463_0] at ge463_0
              have HL463_0 := Aside0.mk (show Kd.R (Kd.int .u8) 5 _ _ _ _ (rd_L8 t458 x36_2) from ge463_0)
              clear hv463_0 ge463_0
              clear hcc463 hce463
              have HR463_0 := Aside0.mk hi463_0
              have HC463_0 := Aside0.mk hl463_0
              clear hi463_0 hl463_0
              replace p463 := eq_true p463
              replace q463 := eq_true q463
              have p464 : 0 ≤ (x36_2 : Int) := dt
              have q464 : x36_2 < (l0.length : Int) := dt
              obtain ⟨ad464, e464, hx464_0, hx464_1, hx464_2, hx464_3⟩ := at_T87 HR0.out x36_2 p464 q464
              cases e464
              replace hx464_0 := hcB HB.out hx464_0
              replace hx464_1 := hcB HB.out hx464_1
              replace hx464_2 := hcB HB.out hx464_2
              replace hx464_3 := hcB HB.out hx464_3
              replace p464 := eq_true p464
              replace q464 := eq_true q464
              go_wp2_with (first | ((with_reducible refine gf 61 rfl ?_); refine gL (some 45) rfl rfl Tryd.func61 rfl #[.agg #[.int .i64 ((rd_T87 l0 x36_2).f0), .int .i64 ((rd_T87 l0 x36_2).f1), .int .i64 ((rd_T87 l0 x36_2).f2), .int .i64 ((rd_T87 l0 x36_2).f3)]] rfl ?_; (with_reducible refine (incunableref04_used.calls ((rd_T87 l0 x36_2).f0) ((rd_T87 l0 x36_2).f1) ((rd_T87 l0 x36_2).f2) ((rd_T87 l0 x36_2).f3) true _ A15.out).mono ?_); rintro e w24 ⟨rfl, hb⟩; refine ⟨_, rfl, ?_⟩; have n_ := aC (Kd.S_below (by (with_reducible repeat (first | apply Kd.S_alloc | apply Kd.S_drewN | apply Kd.S_drew)); exact HO_9.out) hb) (aC (Kd.S_below (by (with_reducible repeat (first | apply Kd.S_alloc | apply Kd.S_drewN | apply Kd.S_drew)); exact HO_34.out) hb) (aC (Kd.R_below (rU HL463_0.out) hb) (aC (blk_below (bU BK457.out) hb) (aC (Kd.C_below (by repeat (first | (with_reducible exact HR463_0.out) | (with_reducible refine Kd.C_alloc ?_ _) | (with_reducible refine Kd.C_drewN ?_ _) | (with_reducible refine Kd.C_drew ?_) | exact HR463_0.out)) hb) (aE (bs hb)))))); clear HO_9 HO_34 HL463_0 BK457 HR463_0 HB; obtain ⟨HO_9, HO_34, HL463_0, BK457, HR463_0, HB⟩ := n_; (try clear hb)) | (go_at_call 128; (with_reducible refine (incunableref04_begins.calls k2 _ _ (rd_L8 t458 x36_2) _ _ l1 a2 x10_1 true _ ?side1 ?side2 ?side3 ?side4 A17.out).mono ?_); (case side1 => repeat (first | exact (by repeat (first | (with_reducible exact HR463_0.out) | (with_reducible refine Kd.C_alloc ?_ _) | (with_reducible refine Kd.C_drewN ?_ _) | (with_reducible refine Kd.C_drew ?_) | exact HR463_0.out)) | (with_reducible refine Kd.C_alloc ?_ _) | (with_reducible refine Kd.C_drewN ?_ _) | (with_reducible refine Kd.C_drew ?_))); (case side2 => exact HC463_0.out); (case side3 => exact cU (Kd.C_below HR1.out HB.out)); (case side4 => exact HC1.out); rintro e w' ⟨rfl, ⟨nd, rfl⟩⟩))
              go_roundg k2
              case measure => have := HK1.out; have := HK2.out; omega
              case rel => exact ⟨(true), (wrap64 (x36_2 + 1)), (x458000_2), (x458001_2), rq, rq, H', ⟨by have := HK1.out; have := HK2.out; omega⟩, ⟨by (with_reducible repeat (first | apply Kd.S_alloc | apply Kd.S_drewN | apply Kd.S_drew)); exact HO_9.out⟩, ⟨by (with_reducible repeat (first | apply Kd.S_alloc | apply Kd.S_drewN | apply Kd.S_drew)); exact HO_34.out⟩, ⟨bU BK457.out⟩, ⟨bl⟩⟩
            ·replace c18 := Bool.eq_false_iff.mpr c18
             subst c18
             have H1 : (incunableref04_Take.l1 k2 l0 l1 a2 t458 x10_1 x13_2 t458 (t458.length : Int) (wrap64 (x36_2 + 1))) = some (r1, r2, r3, r4) := by rw [if_neg (show ¬ (false = true) by decide)] at H; exact H
             clear H
             have H := H1
             clear H1
             have H' := Aside0.mk H
             clear H
             have p463 : 0 ≤ (x36_2 : Int) := dt
             have q463 : x36_2 < (t458.length : Int) := dt
             obtain ⟨ad463, A463_0, c463_0, e463, hx463_0, hl463_0, hi463_0⟩ := at_L8 (Kd.S_reads' HO_34.out).2.2 x36_2 p463 q463
             cases e463
             obtain ⟨ce463, hce463, hMe463, hcc463⟩ := Kd.S_get HO_34.out [] x36_2 p463 (by first | exact q463 | exact dt | (have e_ := (Kd.S_reads' HO_34.out).1; omega))
             obtain ⟨ve463_0, rfl, ge463_0⟩ := hMe463
             have hv463_0 := hcc463 0 _ rfl
             rw [Nat.add_zero, show ((Kd.slice 5 (Kd.int .u8))).sz = 1 from rfl, Nat.mul_one] at hv463_0
             replace hv463_0 := Option.some.inj (hv463_0.symm.trans hx463_0)
             rw [hv463_0] at ge463_0
             have HL463_0 := Aside0.mk (show Kd.R (Kd.int .u8) 5 _ _ _ _ (rd_L8 t458 x36_2) from ge463_0)
             clear hv463_0 ge463_0
             clear hcc463 hce463
             have HR463_0 := Aside0.mk hi463_0
             have HC463_0 := Aside0.mk hl463_0
             clear hi463_0 hl463_0
             replace p463 := eq_true p463
             replace q463 := eq_true q463
             have p464 : 0 ≤ (x36_2 : Int) := dt
             have q464 : x36_2 < (l0.length : Int) := dt
             obtain ⟨ad464, e464, hx464_0, hx464_1, hx464_2, hx464_3⟩ := at_T87 HR0.out x36_2 p464 q464
             cases e464
             replace hx464_0 := hcB HB.out hx464_0
             replace hx464_1 := hcB HB.out hx464_1
             replace hx464_2 := hcB HB.out hx464_2
             replace hx464_3 := hcB HB.out hx464_3
             replace p464 := eq_true p464
             replace q464 := eq_true q464
             go_wp2_with (first | ((with_reducible refine gf 61 rfl ?_); refine gL (some 45) rfl rfl Tryd.func61 rfl #[.agg #[.int .i64 ((rd_T87 l0 x36_2).f0), .int .i64 ((rd_T87 l0 x36_2).f1), .int .i64 ((rd_T87 l0 x36_2).f2), .int .i64 ((rd_T87 l0 x36_2).f3)]] rfl ?_; (with_reducible refine (incunableref04_used.calls ((rd_T87 l0 x36_2).f0) ((rd_T87 l0 x36_2).f1) ((rd_T87 l0 x36_2).f2) ((rd_T87 l0 x36_2).f3) true _ A15.out).mono ?_); rintro e w25 ⟨rfl, hb⟩; refine ⟨_, rfl, ?_⟩; have n_ := aC (Kd.S_below (by (with_reducible repeat (first | apply Kd.S_alloc | apply Kd.S_drewN | apply Kd.S_drew)); exact HO_9.out) hb) (aC (Kd.S_below (by (with_reducible repeat (first | apply Kd.S_alloc | apply Kd.S_drewN | apply Kd.S_drew)); exact HO_34.out) hb) (aC (Kd.R_below (rU HL463_0.out) hb) (aC (blk_below (bU BK457.out) hb) (aC (Kd.C_below (by repeat (first | (with_reducible exact HR463_0.out) | (with_reducible refine Kd.C_alloc ?_ _) | (with_reducible refine Kd.C_drewN ?_ _) | (with_reducible refine Kd.C_drew ?_) | exact HR463_0.out)) hb) (aE (bs hb)))))); clear HO_9 HO_34 HL463_0 BK457 HR463_0 HB; obtain ⟨HO_9, HO_34, HL463_0, BK457, HR463_0, HB⟩ := n_; (try clear hb)) | (go_at_call 128; (with_reducible refine (incunableref04_begins.calls k2 _ _ (rd_L8 t458 x36_2) _ _ l1 a2 x10_1 false _ ?side1 ?side2 ?side3 ?side4 A17.out).mono ?_); (case side1 => repeat (first | exact (by repeat (first | (with_reducible exact HR463_0.out) | (with_reducible refine Kd.C_alloc ?_ _) | (with_reducible refine Kd.C_drewN ?_ _) | (with_reducible refine Kd.C_drew ?_) | exact HR463_0.out)) | (with_reducible refine Kd.C_alloc ?_ _) | (with_reducible refine Kd.C_drewN ?_ _) | (with_reducible refine Kd.C_drew ?_))); (case side2 => exact HC463_0.out); (case side3 => exact cU (Kd.C_below HR1.out HB.out)); (case side4 => exact HC1.out); rintro e w' ⟨rfl, ⟨nd, rfl⟩⟩))
             go_roundg k2
             case measure => have := HK1.out; have := HK2.out; omega
             case rel => exact ⟨(x13_2), (wrap64 (x36_2 + 1)), (x458000_2), (x458001_2), rq, rq, H', ⟨by have := HK1.out; have := HK2.out; omega⟩, ⟨by (with_reducible repeat (first | apply Kd.S_alloc | apply Kd.S_drewN | apply Kd.S_drew)); exact HO_9.out⟩, ⟨by (with_reducible repeat (first | apply Kd.S_alloc | apply Kd.S_drewN | apply Kd.S_drew)); exact HO_34.out⟩, ⟨bU BK457.out⟩, ⟨bl⟩⟩
           ·replace c16 := Bool.eq_false_iff.mpr c16
            subst c16
            have H1 : (incunableref04_Take.l1 k2 l0 l1 a2 t458 x10_1 x13_2 t458 (t458.length : Int) (wrap64 (x36_2 + 1))) = some (r1, r2, r3, r4) := by rw [if_neg (show ¬ (false = true) by decide)] at H; exact H
            clear H
            have H := H1
            clear H1
            have H' := Aside0.mk H
            clear H
            have p463 : 0 ≤ (x36_2 : Int) := dt
            have q463 : x36_2 < (t458.length : Int) := dt
            obtain ⟨ad463, A463_0, c463_0, e463, hx463_0, hl463_0, hi463_0⟩ := at_L8 (Kd.S_reads' HO_34.out).2.2 x36_2 p463 q463
            cases e463
            obtain ⟨ce463, hce463, hMe463, hcc463⟩ := Kd.S_get HO_34.out [] x36_2 p463 (by first | exact q463 | exact dt | (have e_ := (Kd.S_reads' HO_34.out).1; omega))
            obtain ⟨ve463_0, rfl, ge463_0⟩ := hMe463
            have hv463_0 := hcc463 0 _ rfl
            rw [Nat.add_zero, show ((Kd.slice 5 (Kd.int .u8))).sz = 1 from rfl, Nat.mul_one] at hv463_0
            replace hv463_0 := Option.some.inj (hv463_0.symm.trans hx463_0)
            rw [hv463_0] at ge463_0
            have HL463_0 := Aside0.mk (show Kd.R (Kd.int .u8) 5 _ _ _ _ (rd_L8 t458 x36_2) from ge463_0)
            clear hv463_0 ge463_0
            clear hcc463 hce463
            have HR463_0 := Aside0.mk hi463_0
            have HC463_0 := Aside0.mk hl463_0
            clear hi463_0 hl463_0
            replace p463 := eq_true p463
            replace q463 := eq_true q463
            have p464 : 0 ≤ (x36_2 : Int) := dt
            have q464 : x36_2 < (l0.length : Int) := dt
            obtain ⟨ad464, e464, hx464_0, hx464_1, hx464_2, hx464_3⟩ := at_T87 HR0.out x36_2 p464 q464
            cases e464
            replace hx464_0 := hcB HB.out hx464_0
            replace hx464_1 := hcB HB.out hx464_1
            replace hx464_2 := hcB HB.out hx464_2
            replace hx464_3 := hcB HB.out hx464_3
            replace p464 := eq_true p464
            replace q464 := eq_true q464
            go_wp2_with (first | ((with_reducible refine gf 61 rfl ?_); refine gL (some 45) rfl rfl Tryd.func61 rfl #[.agg #[.int .i64 ((rd_T87 l0 x36_2).f0), .int .i64 ((rd_T87 l0 x36_2).f1), .int .i64 ((rd_T87 l0 x36_2).f2), .int .i64 ((rd_T87 l0 x36_2).f3)]] rfl ?_; (with_reducible refine (incunableref04_used.calls ((rd_T87 l0 x36_2).f0) ((rd_T87 l0 x36_2).f1) ((rd_T87 l0 x36_2).f2) ((rd_T87 l0 x36_2).f3) false _ A15.out).mono ?_); rintro e w26 ⟨rfl, hb⟩; refine ⟨_, rfl, ?_⟩; have n_ := aC (Kd.S_below (by (with_reducible repeat (first | apply Kd.S_alloc | apply Kd.S_drewN | apply Kd.S_drew)); exact HO_9.out) hb) (aC (Kd.S_below (by (with_reducible repeat (first | apply Kd.S_alloc | apply Kd.S_drewN | apply Kd.S_drew)); exact HO_34.out) hb) (aC (Kd.R_below (rU HL463_0.out) hb) (aC (blk_below (bU BK457.out) hb) (aC (Kd.C_below (by repeat (first | (with_reducible exact HR463_0.out) | (with_reducible refine Kd.C_alloc ?_ _) | (with_reducible refine Kd.C_drewN ?_ _) | (with_reducible refine Kd.C_drew ?_) | exact HR463_0.out)) hb) (aE (bs hb)))))); clear HO_9 HO_34 HL463_0 BK457 HR463_0 HB; obtain ⟨HO_9, HO_34, HL463_0, BK457, HR463_0, HB⟩ := n_; (try clear hb)))
            go_roundg k2
            case measure => have := HK1.out; have := HK2.out; omega
            case rel => exact ⟨(x13_2), (wrap64 (x36_2 + 1)), (x458000_2), (x458001_2), rq, rq, H', ⟨by have := HK1.out; have := HK2.out; omega⟩, ⟨by (with_reducible repeat (first | apply Kd.S_alloc | apply Kd.S_drewN | apply Kd.S_drew)); exact HO_9.out⟩, ⟨by (with_reducible repeat (first | apply Kd.S_alloc | apply Kd.S_drewN | apply Kd.S_drew)); exact HO_34.out⟩, ⟨bU BK457.out⟩, ⟨bl⟩⟩
          ·rw [if_neg c14] at H
           exact absurd H (by simp)
         ·rw [if_neg c13] at H
          exact absurd H (by simp)
        ·rw [if_neg c12] at H
         exact absurd H (by simp)
       ·rw [if_neg c11] at H
        have c11b0 := decide_eq_false c11
        clear c11
        by_cases c27 : x13_2 = true
        ·subst c27
         have H1 : (incunableref04_Take.l0 k2 l0 l1 a2 t458 (wrap64 (x10_1 + 1))) = some (r1, r2, r3, r4) := by rw [if_pos rfl] at H; exact H
         clear H
         have H := H1
         clear H1
         have H' := Aside0.mk H
         clear H
         go_wp2
         go_roundg k2
         case measure => have := HK1.out; have := HK2.out; omega
         case rel => exact ⟨(wrap64 (x10_1 + 1)), (x458000_2), (x458001_2), rq, H', ⟨by have := HK1.out; have := HK2.out; omega⟩, ⟨by (with_reducible repeat (first | apply Kd.S_alloc | apply Kd.S_drewN | apply Kd.S_drew)); exact HO_9.out⟩, ⟨bU BK457.out⟩, ⟨bl⟩⟩
        ·replace c27 := Bool.eq_false_iff.mpr c27
         subst c27
         have H1 : (some (false, 0, 0, 3)) = some (r1, r2, r3, r4) := by rw [if_neg (show ¬ (false = true) by decide)] at H; exact H
         clear H
         have H := H1
         clear H1
         simp only [Option.some.injEq, Prod.mk.injEq] at H
         obtain ⟨rfl, rfl, rfl, rfl⟩ := H
         obtain ⟨hcz28_0, hcz28_1, hfz28_0, hfz28_1⟩ := cz2f BK457.out
         go_wp2
         refine bodyPost_ret (results_ctt rfl _ _ gb457 64 #[.bool false, .int .i64 0] (0, 0) _ rfl (by (with_reducible repeat (first | refine blk_drewN ?_ _ | refine blk_drew ?_ | refine blk_alloc ?_ _)); refine blk_put (cs := #[.bool false, .int .i64 x458001_2]) ?_ 1 _ rfl; (with_reducible repeat (first | refine blk_drewN ?_ _ | refine blk_drew ?_ | refine blk_alloc ?_ _)); refine blk_put (cs := #[.bool x458000_2, .int .i64 x458001_2]) ?_ 0 _ rfl; (with_reducible repeat (first | refine blk_drewN ?_ _ | refine blk_drew ?_ | refine blk_alloc ?_ _)); exact BK457.out) Tryd.underlying64 rfl (by kernel_rfl)) rfl ?_
         exact ⟨re, bl⟩
    ·replace c9 := Bool.eq_false_iff.mpr c9
     subst c9
     have H1 : (some (false, 0, 0, 6)) = some (r1, r2, r3, r4) := by rw [if_neg (show ¬ (false = true) by decide)] at H; exact H
     clear H
     have H := H1
     clear H1
     simp only [Option.some.injEq, Prod.mk.injEq] at H
     obtain ⟨rfl, rfl, rfl, rfl⟩ := H
     go_wp2_with (first | ((with_reducible refine gf 35 rfl ?_); refine gL (some 28) rfl rfl Tryd.func35 rfl #[.slice A1 l1.length c1, .int .i64 (wrap64 ((wrap64 (a2 + x10_1)) - 1))] rfl ?_; (with_reducible refine (incunableref04_BitAt.calls _ _ l1 (wrap64 ((wrap64 (a2 + x10_1)) - 1)) t461 false _ ?side1 ?side2 A8.out).mono ?_); (case side1 => exact cU (Kd.C_below HR1.out HB.out)); (case side2 => exact HC1.out); rintro e w' ⟨rfl, ⟨nd, rfl⟩⟩; refine ⟨_, rfl, ?_⟩; (try (rw [drewN_self wr]; generalize hq_ : World.drewN wr _ = wr; have n0_ : Aside0 (Kd.S (Kd.slice 5 (Kd.int .u8)) 22 wr w.heap.size (fun _ => True) v459 t458) := ⟨by rw [← hq_]; exact (by (with_reducible repeat (first | apply Kd.S_alloc | apply Kd.S_drewN | apply Kd.S_drew)); exact HO_9.out)⟩; have n1_ : Aside0 (wr.heap[gb457]? = some (.cells #[.bool x458000_1, .int .i64 x458001_1] 64 (0, 0))) := ⟨by rw [← hq_]; exact (bU BK457.out)⟩; have n2_ : Aside0 (Below w.heap.size w wr) := ⟨by rw [← hq_]; exact bl⟩; clear HO_9 BK457 HB hq_; have HO_9 := n0_; have BK457 := n1_; have HB := n2_; clear n0_ n1_ n2_)); obtain ⟨_, _, _, _⟩ := cz2f BK457.out; obtain ⟨hcz29_0, hcz29_1, hfz29_0, hfz29_1⟩ := cz2f BK457.out))
     refine bodyPost_ret (results_ctt rfl _ _ gb457 64 #[.bool false, .int .i64 0] (0, 0) _ rfl (by (with_reducible repeat (first | refine blk_drewN ?_ _ | refine blk_drew ?_ | refine blk_alloc ?_ _)); refine blk_put (cs := #[.bool false, .int .i64 x458001_1]) ?_ 1 _ rfl; (with_reducible repeat (first | refine blk_drewN ?_ _ | refine blk_drew ?_ | refine blk_alloc ?_ _)); refine blk_put (cs := #[.bool x458000_1, .int .i64 x458001_1]) ?_ 0 _ rfl; (with_reducible repeat (first | refine blk_drewN ?_ _ | refine blk_drew ?_ | refine blk_alloc ?_ _)); exact BK457.out) Tryd.underlying64 rfl (by kernel_rfl)) rfl ?_
     exact ⟨re, bl⟩
   ·rw [if_neg c7] at H
    have c7b0 := decide_eq_false c7
    clear c7
    simp only [Option.some.injEq, Prod.mk.injEq] at H
    obtain ⟨rfl, rfl, rfl, rfl⟩ := H
    obtain ⟨hcz30_0, hcz30_1, hfz30_0, hfz30_1⟩ := cz2f BK457.out
    go_wp2
    refine bodyPost_ret (results_ctt rfl _ _ gb457 64 #[.bool false, .int .i64 0] (0, 0) _ rfl (by (with_reducible repeat (first | refine blk_drewN ?_ _ | refine blk_drew ?_ | refine blk_alloc ?_ _)); refine blk_put (cs := #[.bool false, .int .i64 x458001_1]) ?_ 1 _ rfl; (with_reducible repeat (first | refine blk_drewN ?_ _ | refine blk_drew ?_ | refine blk_alloc ?_ _)); refine blk_put (cs := #[.bool x458000_1, .int .i64 x458001_1]) ?_ 0 _ rfl; (with_reducible repeat (first | refine blk_drewN ?_ _ | refine blk_drew ?_ | refine blk_alloc ?_ _)); exact BK457.out) Tryd.underlying64 rfl (by kernel_rfl)) rfl ?_
    exact ⟨re, bl⟩
end Go.Proofs.YtknclbodinfbeaaDoor.PRunsGetTwo
