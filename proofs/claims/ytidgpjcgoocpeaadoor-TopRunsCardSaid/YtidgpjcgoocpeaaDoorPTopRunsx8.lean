-- printed (wip/tools/myprint.py)
import Derived.Test.YtidgpjcgoocpeaaDoorPTopRunsx0
import Derived.Test.YtidgpjcgoocpeaaDoorPTopRunsx4
import Derived.Test.YtidgpjcgoocpeaaDoorPTopRunsx7
namespace Go.Proofs.YtidgpjcgoocpeaaDoor.PTopRuns
open Go.RowKit Go.Proofs.YtidgpjcgoocpeaaDoorW.PrintWords Go.Proofs.YtidgpjcgoocpeaaDoorW.PrintLast Go.Proofs.YtidgpjcgoocpeaaDoorW.PrintMore
attribute [local go_sem] max2_int min2_int max_two min_two max_three min_three max_four min_four
set_option linter.unusedVariables false
set_option linter.unusedSimpArgs false
def runs_lines.l0 : Nat → List (List Int) → Int → Int → Int → Int → List Int → Option ((List (List Int)))
 | 0, _, _, _, _, _, _ => none
 | k + 1, x3, x6, x7, x295000, x295001, x295002 => if x7 < x6 then (if 0 ≤ (wrap64 (x7 * x295000)) then (if (wrap64 (x7 * x295000)) ≤ (wrap64 ((wrap64 (x7 + 1)) * x295000)) then (if (wrap64 ((wrap64 (x7 + 1)) * x295000)) ≤ (x295002.length : Int) then (if x3.length < 5864062014805 then (runs_lines.l0 k (x3 ++ [((x295002.take ((wrap64 ((wrap64 (x7 + 1)) * x295000)) : Int).toNat).drop ((wrap64 (x7 * x295000)) : Int).toNat)]) x6 (wrap64 (x7 + 1)) x295000 x295001 x295002) else (none)) else (none)) else (none)) else (none)) else (some x3)
def runs_lines.f (k : Nat) (a0_0 : Int) (a0_1 : Int) (l0_2 : List Int) : Option ((List (List Int))) := runs_lines.l0 k ([] : List (List Int)) a0_1 0 a0_0 a0_1 l0_2
theorem runs_lines.mono_l : ∀ k, (∀ y0 y1 y2 y3 y4 y5, LeO (runs_lines.l0 k y0 y1 y2 y3 y4 y5) (runs_lines.l0 (k + 1) y0 y1 y2 y3 y4 y5))
 | 0 => fun _ _ _ _ _ _ r h => by simp [runs_lines.l0] at h
 | k + 1 => by
  have ih0 := runs_lines.mono_l k
  ·intro y0 y1 y2 y3 y4 y5
   unfold runs_lines.l0
   repeat' first
   | (with_reducible exact ih0 _ _ _ _ _ _)
   | (with_reducible first | exact LeO.refl _ | exact LeO.none _ | refine LeO.ite ?_ ?_ | refine LeO.bind ?_ (fun _ => ?_))
theorem runs_lines.mono : ∀ a0 a1 a2 k, LeO (runs_lines.f k a0 a1 a2) (runs_lines.f (k + 1) a0 a1 a2) := by
 intro a0 a1 a2 k
 have ih0 := runs_lines.mono_l k
 unfold runs_lines.f
 repeat' first
   | (with_reducible exact ih0 _ _ _ _ _ _)
   | (with_reducible first | exact LeO.refl _ | exact LeO.none _ | refine LeO.ite ?_ ?_ | refine LeO.bind ?_ (fun _ => ?_))
set_option maxHeartbeats 8000000 in
set_option maxRecDepth 100000 in
theorem runs_lines.calls (k : Nat) (a0_0 : Int) (a0_1 : Int) (P0_2_ : Nat → Prop) (A0_2 : Option Addr) (c0_2 : Nat) (l0_2 : List Int) (r : List (List Int)) (w : World) (hs0_2 : Kd.V (Kd.int .u8) 5 w w.heap.size (fun k_ => P0_2_ k_) (.slice A0_2 l0_2.length c0_2) l0_2) (h : runs_lines.f k a0_0 a0_1 l0_2 = some r) :
  Calls Tryd.prog 24 #[.agg #[.int .i64 a0_0, .int .i64 a0_1, .slice A0_2 l0_2.length c0_2]] w fun e w' => ∃ v0_ : Value, e = .returned (v0_) ∧ Kd.N (Kd.slice 5 (Kd.int .u8)) 22 w' w.heap.size (fun k_ => (P0_2_ k_ ∨ w.heap.size ≤ k_)) v0_ r ∧ Below w.heap.size w w' := by
 have hu24 := Tryd.underlying24
 have HO0_2 := Aside0.mk (show Kd.V (Kd.int .u8) 5 w w.heap.size (fun k_ => (P0_2_ k_ ∨ w.heap.size ≤ k_)) (.slice A0_2 l0_2.length c0_2) l0_2 from Kd.V_mono hs0_2 (fun k_ hk => .inl hk))
 have HB := Aside0.mk (Below.refl w.heap.size w)
 have H : (runs_lines.l0 k ([] : List (List Int)) a0_1 0 a0_0 a0_1 l0_2) = some r := h
 clear h
 have H' := Aside0.mk H
 clear H
 go_enter Tryd.func24, Tryd.ntmps24
 go_wp2_with (first | ((with_reducible refine gd 1 rfl ?_); refine bx 1 #[.int .i64 a0_0, .int .i64 a0_1, .slice A0_2 l0_2.length c0_2] 24 rfl rfl ?_; intro gb294 hg w2 hbox hb; have n_ := aC (Kd.V_below (Kd.V_elderB (by (with_reducible repeat (first | apply Kd.V_alloc | apply Kd.V_drewN | apply Kd.V_drew)); exact HO0_2.out) gb294 (Nat.le_of_eq hg.symm)) hb) (aC (bs hb) (aC hbox (aC (gz hg) (aE (gz hg))))); clear HO0_2 HB; obtain ⟨HO0_2, HB, BK294, GW294, GE294⟩ := n_; clear hb hbox hg; obtain ⟨hcz3_0, hcz3_1, hcz3_2, hfz3_0, hfz3_1, hfz3_2⟩ := cz3f BK294.out))
 go_loopg [3, 7] k (fun kq v3 v7 w' => ∃ (x3_1 : List (List Int)) (x7_1 : Int), v7 = .int .i64 x7_1 ∧ Aside0 (runs_lines.l0 kq x3_1 a0_1 x7_1 a0_0 a0_1 l0_2 = some r) ∧ Aside0 (kq ≤ k) ∧ Aside0 (Kd.N (Kd.slice 5 (Kd.int .u8)) 22 w' w.heap.size (fun k_ => (P0_2_ k_ ∨ w.heap.size ≤ k_) ∧ k_ ≠ gb294) v3 x3_1) ∧ Aside0 (Kd.V (Kd.int .u8) 5 w' w.heap.size (fun k_ => (P0_2_ k_ ∨ w.heap.size ≤ k_) ∧ some k_ ≠ (v3 : Value).ownBlock ∧ k_ ≠ gb294) (.slice A0_2 l0_2.length c0_2) l0_2) ∧ Aside0 (w'.heap[gb294]? = some (.cells #[.int .i64 a0_0, .int .i64 a0_1, (.slice A0_2 l0_2.length c0_2)] 24 (0, 0))) ∧ Aside0 (Below w.heap.size w w'))
 case atStart => exact ⟨(([] : List (List Int))), (0), rq, H', ⟨Nat.le_refl _⟩, ⟨by first | exact Kd.S_nil _ _ _ _ _ | exact Kd.N_nil _ _ _ _ _ | exact Kd.V_nil _ _ _ _ _ | exact Kd.Q_nil _ _ _ _ _ | exact Kd.R_nil _ _ _ _ _⟩, ⟨by (with_reducible repeat (first | apply Kd.V_alloc | apply Kd.V_drewN | apply Kd.V_drew)); exact Kd.V_mono HO0_2.out (fun _ hk => ⟨hk.1, ⟨(by simp [Value.ownBlock]), hk.2⟩⟩)⟩, ⟨bU BK294.out⟩, ⟨bl⟩⟩
 case round =>
  clear H'
  obtain ⟨x3_1, x7_1, rfl, HA, HK1, HO_3, HO_295002, BK294, HB⟩ := hrel
  cases gk with
  | zero => exact absurd HA.out (by simp [runs_lines.l0])
  | succ k1 =>
   have H := HA.out
   clear HA
   simp only [runs_lines.l0] at H
   rcases iL H with H1 | H1 <;> clear H <;> obtain ⟨H, c4b0⟩ := H1
   ·obtain ⟨ji5, hji5⟩ : ∃ j_ : Int, (wrap64 (x7_1 * a0_0)) = j_ := ⟨_, rfl⟩
    replace H : (if 0 ≤ (ji5) then (if (ji5) ≤ (wrap64 ((wrap64 (x7_1 + 1)) * a0_0)) then (if (wrap64 ((wrap64 (x7_1 + 1)) * a0_0)) ≤ (l0_2.length : Int) then (if x3_1.length < 5864062014805 then (runs_lines.l0 k1 (x3_1 ++ [((l0_2.take ((wrap64 ((wrap64 (x7_1 + 1)) * a0_0)) : Int).toNat).drop ((ji5) : Int).toNat)]) a0_1 (wrap64 (x7_1 + 1)) a0_0 a0_1 l0_2) else (none)) else (none)) else (none)) else (none)) = some r := by first | (rw [hji5] at H; exact H) | (simp only [hji5] at H ⊢; exact H)
    have hji5w : (IntKind.i64.wrap (x7_1 * a0_0)) = ji5 := (i64_w _).trans hji5
    by_cases c6 : 0 ≤ (ji5)
    ·rw [if_pos c6] at H
     have c6b0 := eq_true c6
     have c6b1 := decide_eq_true c6
     clear c6
     by_cases c7 : (ji5) ≤ (wrap64 ((wrap64 (x7_1 + 1)) * a0_0))
     ·rw [if_pos c7] at H
      have c7b0 := eq_true c7
      have c7b1 := decide_eq_true c7
      by_cases c8 : (wrap64 ((wrap64 (x7_1 + 1)) * a0_0)) ≤ (l0_2.length : Int)
      ·rw [if_pos c8] at H
       have c8b0 := eq_true c8
       have c8b1 := decide_eq_true c8
       obtain ⟨y295, hy_⟩ : ∃ y_ : List Int, y_ = ((l0_2.take ((wrap64 ((wrap64 (x7_1 + 1)) * a0_0)) : Int).toNat).drop ((ji5) : Int).toNat) := ⟨_, rfl⟩
       replace H : (if x3_1.length < 5864062014805 then (runs_lines.l0 k1 (x3_1 ++ [y295]) a0_1 (wrap64 (x7_1 + 1)) a0_0 a0_1 l0_2) else (none)) = some r := rh
       have Ny295 := aE hy_
       clear hy_
       by_cases c9 : x3_1.length < 5864062014805
       ·rw [if_pos c9] at H
        have LMc9 := Aside0.mk c9
        clear c9
        obtain ⟨y300, hy_⟩ : ∃ y_ : List (List Int), y_ = (x3_1 ++ [y295]) := ⟨_, rfl⟩
        replace H : (runs_lines.l0 k1 y300 a0_1 (wrap64 (x7_1 + 1)) a0_0 a0_1 l0_2) = some r := rh
        have Ny300 := aE hy_
        clear hy_
        have H' := Aside0.mk H
        clear H
        obtain ⟨hcz10_0, hcz10_1, hcz10_2, hfz10_0, hfz10_1, hfz10_2⟩ := cz3f BK294.out
        have q11 : ((wrap64 ((wrap64 (x7_1 + 1)) * a0_0)) : Int) ≤ ((l0_2.length : Int) : Int) := dt
        obtain ⟨i011, hi011, _, hsz11, _⟩ := info_parts info5
        have hroom11 : l0_2.length ≤ c0_2 := (Kd.V_reads' HO_295002.out).2.1
        have hC11 : Kd.F (Kd.int .u8) _ _ A0_2 l0_2.length l0_2 := (Kd.V_at (base := w.heap.size) HO_295002.out).2.2
        have ql11 : ((ji5) : Int) ≤ ((wrap64 ((wrap64 (x7_1 + 1)) * a0_0)) : Int) := dt
        have q011 : (0 : Int) ≤ ((ji5) : Int) := dt
        have hcut11 := cut_mid (P := Tryd.prog) 22 5 .i64 .i64 Tryd.underlying22 hi011 1 hsz11 A0_2 l0_2.length c0_2 (ji5) (wrap64 ((wrap64 (x7_1 + 1)) * a0_0)) q011 ql11 q11 hroom11
        have hr11 := Kd.F_mid (lo := ((ji5) : Int).toNat) (hi := ((wrap64 ((wrap64 (x7_1 + 1)) * a0_0)) : Int).toNat) (c := c0_2) hC11 (by omega) (by omega) hroom11
        obtain ⟨A11, hA11⟩ : ∃ A1, A1 = (if c0_2 = ((ji5) : Int).toNat then A0_2 else (A0_2 : Option Addr).map (·.add (((ji5) : Int).toNat * 1))) := ⟨_, rfl⟩
        obtain ⟨c11, hc11⟩ : ∃ c1, c1 = c0_2 - ((ji5) : Int).toNat := ⟨_, rfl⟩
        have hy11 : y295.length = ((wrap64 ((wrap64 (x7_1 + 1)) * a0_0)) : Int).toNat - ((ji5) : Int).toNat := (by rw [Ny295.out, List.length_drop, List.length_take] <;> omega)
        rw [show ((l0_2).take ((wrap64 ((wrap64 (x7_1 + 1)) * a0_0)) : Int).toNat).drop ((ji5) : Int).toNat = y295 from Ny295.out.symm] at hr11
        replace hr11 : Kd.F (Kd.int .u8) _ _ A11 y295.length y295 := (by rw [hA11]; exact hr11)
        rw [← hy11, ← hA11, ← hc11] at hcut11
        have HO299 := Aside0.mk (show Kd.V (Kd.int .u8) 5 _ w.heap.size _ (.slice A11 y295.length c11) y295 from Kd.V_mk (by rw [hy11, hc11]; exact Nat.sub_le_sub_right (Nat.le_trans (by omega) hroom11) _) hr11)
        have HC299 := Aside0.mk (show y295.length ≤ c11 from by rw [hy11, hc11]; exact Nat.sub_le_sub_right (Nat.le_trans (by omega) hroom11) _)
        clear hr11 hC11 hroom11 hi011 hsz11 hc11
        have KY11 := Aside0.mk hy11
        have KA11 := Aside0.mk hA11
        clear hy11 hA11
        replace q11 := eq_true q11
        go_wp2_with (first | ((with_reducible refine gate_builtin (b := .append) (xs := #[.tmp 10, .tmp 23]) rfl ?_); at_builtin; refine Kd.N_append (Kd.slice 5 (Kd.int .u8)) (w0 := w) w.heap.size rfl (.tmp 10) (.tmp 23) 50 22 (.slice none 0 0) 24 rfl Tryd.underlying50 info22 rfl (by decide) (by omega) u3 x3_1 y295 [.slice A11 y295.length c11] (fun k_ => (P0_2_ k_ ∨ w.heap.size ≤ k_) ∧ k_ ≠ gb294) (fun k_ => ((fun k_ => (P0_2_ k_ ∨ w.heap.size ≤ k_) ∧ k_ ≠ gb294)) k_ ∧ some k_ ≠ (u3 : Value).ownBlock) rfl rfl ?aP (fun _ hk => hk) ?aF ?aO ?aB ?aS ?aL ?_; (case aP => exact (Kd.FK_slice_mk (Kd.V_reads' (Kd.V_mono (ok' := (fun k_ => ((fun k_ => (P0_2_ k_ ∨ w.heap.size ≤ k_) ∧ k_ ≠ gb294)) k_ ∧ some k_ ≠ (u3 : Value).ownBlock)) (HO299.out) (fun k_ hk => ⟨⟨hk.1, hk.2.2⟩, hk.2.1⟩))).2.1 (Kd.V_F (Kd.V_mono (ok' := (fun k_ => ((fun k_ => (P0_2_ k_ ∨ w.heap.size ≤ k_) ∧ k_ ≠ gb294)) k_ ∧ some k_ ≠ (u3 : Value).ownBlock)) (HO299.out) (fun k_ hk => ⟨⟨hk.1, hk.2.2⟩, hk.2.1⟩))))); (case aB => exact bl); (case aF => exact (fun k_ hk => ⟨(.inr (Nat.le_trans bz hk)), Kd.freshB (bU BK294.out) k_ hk⟩)); (case aO => exact (by (with_reducible repeat (first | apply Kd.N_alloc | apply Kd.N_drewN | apply Kd.N_drew)); exact HO_3.out)); (case aS => exact bz); (case aL => have := LMc9.out; omega); intro v301 w12 ho hb hg hat; rw [← Ny300.out] at ho; have n_ := aC (Kd.V_afterv (ok := (fun k_ => (P0_2_ k_ ∨ w.heap.size ≤ k_) ∧ k_ ≠ gb294)) (by (with_reducible repeat (first | apply Kd.V_alloc | apply Kd.V_drewN | apply Kd.V_drew)); exact Kd.V_mono HO_295002.out (fun _ hk => ⟨⟨hk.1, hk.2.2⟩, hk.2.1⟩)) hg hat) (aC (blk_grown (bU BK294.out) hg (Kd.N_ne HO_3.out BK294.out (by decide))) (aC (Kd.V_afterv (ok := (fun k_ => (P0_2_ k_ ∨ w.heap.size ≤ k_) ∧ k_ ≠ gb294)) (by (with_reducible repeat (first | apply Kd.V_alloc | apply Kd.V_drewN | apply Kd.V_drew)); exact Kd.V_mono HO299.out (fun _ hk => ⟨⟨hk.1, hk.2.2⟩, hk.2.1⟩)) hg hat) (aC hb (aE ho)))); clear HO_295002 BK294 HO299 HB HO_3; obtain ⟨HO_295002, BK294, HO299, HB, HO302⟩ := n_; clear ho hb hg hat))
        go_roundg k1
        case measure => have := HK1.out; omega
        case rel => exact ⟨(y300), (wrap64 (x7_1 + 1)), rq, H', ⟨by have := HK1.out; omega⟩, ⟨by (with_reducible repeat (first | apply Kd.N_alloc | apply Kd.N_drewN | apply Kd.N_drew)); exact HO302.out⟩, ⟨by (with_reducible repeat (first | apply Kd.V_alloc | apply Kd.V_drewN | apply Kd.V_drew)); exact Kd.V_mono HO_295002.out (fun _ hk => ⟨hk.1.1, ⟨hk.2, hk.1.2⟩⟩)⟩, ⟨bU BK294.out⟩, ⟨bl⟩⟩
       ·rw [if_neg c9] at H
        exact absurd H (by simp)
      ·rw [if_neg c8] at H
       exact absurd H (by simp)
     ·rw [if_neg c7] at H
      exact absurd H (by simp)
    ·rw [if_neg c6] at H
     exact absurd H (by simp)
   ·obtain rfl := Option.some.inj H
    go_wp2
    go_ret
    exact ⟨_, re, by (with_reducible repeat (first | apply Kd.N_alloc | apply Kd.N_drewN | apply Kd.N_drew)); exact Kd.N_mono HO_3.out (fun _ hk => hk.1), bl⟩
mutual
def runs_One.l0 : Nat → List Int → List (List Int) → Int → Int → Option (List Int × Int)
 | 0, _, _, _, _ => none
 | k + 1, x4, x13, x14, x15 => if x15 < x14 then (if 0 ≤ x15 then (if x15 < (x13.length : Int) then ((runs_row.f k (rd_L8 x13 x15)).bind fun t313 => (runs_One.l1 k x4 x13 x14 x15 t313 (t313.length : Int) 0)) else (none)) else (none)) else ((bits_Pack.f k x4).bind fun bt308 => (some (bt308.1, bt308.2)))
def runs_One.l1 : Nat → List Int → List (List Int) → Int → Int → List Int → Int → Int → Option (List Int × Int)
 | 0, _, _, _, _, _, _, _ => none
 | k + 1, x4, x13, x14, x15, x20, x21, x22 => if x22 < x21 then (if 0 ≤ x22 then (if x22 < (x20.length : Int) then ((runs_runBits.f k (rd x20 x22) (Int.tmod x22 2)).bind fun t317 => (if x4.length + t317.length < 140737488355328 then (runs_One.l1 k (x4 ++ t317) x13 x14 x15 x20 x21 (wrap64 (x22 + 1))) else (none))) else (none)) else (none)) else (runs_One.l0 k x4 x13 x14 (wrap64 (x15 + 1)))
end
def runs_One.f (k : Nat) (a0_0 : Int) (a0_1 : Int) (l0_2 : List Int) : Option (List Int × Int) := (bitmap_Valid.f k a0_0 a0_1 l0_2).bind fun t304 => (if t304 = true then ((runs_lines.f k a0_0 a0_1 l0_2).bind fun t305 => (runs_One.l0 k ([] : List Int) t305 (t305.length : Int) 0)) else (some (([] : List Int), 30)))
theorem runs_One.mono_l : ∀ k, (∀ y0 y1 y2 y3, LeO (runs_One.l0 k y0 y1 y2 y3) (runs_One.l0 (k + 1) y0 y1 y2 y3)) ∧ (∀ y0 y1 y2 y3 y4 y5 y6, LeO (runs_One.l1 k y0 y1 y2 y3 y4 y5 y6) (runs_One.l1 (k + 1) y0 y1 y2 y3 y4 y5 y6))
 | 0 => ⟨fun _ _ _ _ r h => by simp [runs_One.l0] at h, fun _ _ _ _ _ _ _ r h => by simp [runs_One.l1] at h⟩
 | k + 1 => by
  obtain ⟨ih0, ih1⟩ := runs_One.mono_l k
  refine ⟨?_, ?_⟩
  ·intro y0 y1 y2 y3
   unfold runs_One.l0
   repeat' first
   | (with_reducible exact ih0 _ _ _ _)
   | (with_reducible exact ih1 _ _ _ _ _ _ _)
   | (with_reducible exact bitmap_Valid.mono _ _ _ _)
   | (with_reducible exact bits_Pack.mono _ _)
   | (with_reducible exact runs_lines.mono _ _ _ _)
   | (with_reducible exact runs_row.mono _ _)
   | (with_reducible exact runs_runBits.mono _ _ _)
   | (with_reducible first | exact LeO.refl _ | exact LeO.none _ | refine LeO.ite ?_ ?_ | refine LeO.bind ?_ (fun _ => ?_))
  ·intro y0 y1 y2 y3 y4 y5 y6
   unfold runs_One.l1
   repeat' first
   | (with_reducible exact ih0 _ _ _ _)
   | (with_reducible exact ih1 _ _ _ _ _ _ _)
   | (with_reducible exact bitmap_Valid.mono _ _ _ _)
   | (with_reducible exact bits_Pack.mono _ _)
   | (with_reducible exact runs_lines.mono _ _ _ _)
   | (with_reducible exact runs_row.mono _ _)
   | (with_reducible exact runs_runBits.mono _ _ _)
   | (with_reducible first | exact LeO.refl _ | exact LeO.none _ | refine LeO.ite ?_ ?_ | refine LeO.bind ?_ (fun _ => ?_))
theorem runs_One.mono : ∀ a0 a1 a2 k, LeO (runs_One.f k a0 a1 a2) (runs_One.f (k + 1) a0 a1 a2) := by
 intro a0 a1 a2 k
 obtain ⟨ih0, ih1⟩ := runs_One.mono_l k
 unfold runs_One.f
 repeat' first
   | (with_reducible exact ih0 _ _ _ _)
   | (with_reducible exact ih1 _ _ _ _ _ _ _)
   | (with_reducible exact bitmap_Valid.mono _ _ _ _)
   | (with_reducible exact bits_Pack.mono _ _)
   | (with_reducible exact runs_lines.mono _ _ _ _)
   | (with_reducible exact runs_row.mono _ _)
   | (with_reducible exact runs_runBits.mono _ _ _)
   | (with_reducible first | exact LeO.refl _ | exact LeO.none _ | refine LeO.ite ?_ ?_ | refine LeO.bind ?_ (fun _ => ?_))
set_option maxHeartbeats 8000000 in
set_option maxRecDepth 100000 in
theorem runs_One.calls (k : Nat) (a0_0 : Int) (a0_1 : Int) (A0_2 : Option Addr) (c0_2 : Nat) (l0_2 : List Int) (r1 : List Int) (r2 : Int) (w : World) (hr0_2 : Kd.C (Kd.int .u8) w A0_2 l0_2.length l0_2) (hc0_2 : l0_2.length ≤ c0_2) (h : runs_One.f k a0_0 a0_1 l0_2 = some (r1, r2)) :
  Calls Tryd.prog 8 #[.agg #[.int .i64 a0_0, .int .i64 a0_1, .slice A0_2 l0_2.length c0_2]] w fun e w' => ∃ v0_ : Value, e = .returned (.tuple #[v0_, .int .i64 r2]) ∧ Kd.R (Kd.int .u8) 5 w' w.heap.size (fun _ => True) v0_ r1 ∧ Below w.heap.size w w' := by
 have hu24 := Tryd.underlying24
 have HR0_2 := Aside0.mk hr0_2
 have HC0_2 := Aside0.mk hc0_2
 clear hr0_2 hc0_2
 have HB := Aside0.mk (Below.refl w.heap.size w)
 have H := h
 unfold runs_One.f at H
 clear h
 obtain ⟨t304, A2, H⟩ := oB H
 try dsimp only at H
 by_cases c3 : t304 = true
 ·subst c3
  rw [if_pos rfl] at H
  obtain ⟨t305, A4, H⟩ := oB H
  try dsimp only at H
  have H' := Aside0.mk H
  clear H
  go_enter Tryd.func8, Tryd.ntmps8
  go_wp2_with (first | ((with_reducible refine gd 1 rfl ?_); refine bx 1 #[.int .i64 a0_0, .int .i64 a0_1, .slice A0_2 l0_2.length c0_2] 24 rfl rfl ?_; intro gb303 hg w5 hbox hb; have n_ := aC (bs hb) (aC hbox (aC (gz hg) (aE (gz hg)))); clear HB; obtain ⟨HB, BK303, GW303, GE303⟩ := n_; clear hb hbox hg; obtain ⟨hcz6_0, hcz6_1, hcz6_2, hfz6_0, hfz6_1, hfz6_2⟩ := cz3f BK303.out) | (refine gF 23 10 Tryd.func23 #[.agg #[.int .i64 a0_0, .int .i64 a0_1, .slice A0_2 l0_2.length c0_2]] rfl rfl ?_; (with_reducible refine (bitmap_Valid.calls k a0_0 a0_1 _ _ l0_2 true _ ?side1 ?side2 A2.out).mono ?_); (case side1 => exact cU (Kd.C_below HR0_2.out HB.out)); (case side2 => exact HC0_2.out); rintro e w7 ⟨rfl, hb⟩; refine ⟨_, rfl, ?_⟩; have n_ := aC (blk_below (bU BK303.out) hb) (aE (bs hb)); clear BK303 HB; obtain ⟨BK303, HB⟩ := n_; obtain ⟨hcz8_0, hcz8_1, hcz8_2, hfz8_0, hfz8_1, hfz8_2⟩ := cz3f BK303.out) | (refine gF 24 13 Tryd.func24 #[.agg #[.int .i64 a0_0, .int .i64 a0_1, .slice A0_2 l0_2.length c0_2]] rfl rfl ?_; (with_reducible refine (runs_lines.calls k a0_0 a0_1 (fun k_ => k_ < w.heap.size) _ _ l0_2 t305 _ ?side1 A4.out).mono ?_); (case side1 => exact Kd.V_mk HC0_2.out (Kd.F_below (Kd.C_F (Kd.heap_int .u8) HR0_2.out) bl)); rintro e w9 ⟨v306, rfl, ho0, hb⟩; refine ⟨_, rfl, ?_⟩; have n_ := aC (Kd.N_lower (Kd.N_mono (ok' := fun k_ => k_ ≠ gb303) ho0 (fun k_ hk_ => Or.elim hk_ (fun hs_ => fun e_ => Nat.not_le.2 hs_ (by rw [e_]; exact GW303.out)) (fun hn_ => (Kd.freshB (bU BK303.out) k_ hn_)))) bz) (aC (blk_below (bU BK303.out) hb) (aE (bs hb))); clear BK303 HB; obtain ⟨HO307, BK303, HB⟩ := n_; obtain ⟨Ao10, co10, eo10⟩ := Kd.N_slice HO307.out; subst eo10))
  go_loopg [4, 15] k (fun kq v4 v15 w' => ∃ (x4_1 : List Int) (x15_1 : Int), v15 = .int .i64 x15_1 ∧ Aside0 (runs_One.l0 kq x4_1 t305 (t305.length : Int) x15_1 = some (r1, r2)) ∧ Aside0 (kq ≤ k) ∧ Aside0 (Kd.R (Kd.int .u8) 5 w' w.heap.size (fun _ => True) v4 x4_1) ∧ Aside0 (Kd.N (Kd.slice 5 (Kd.int .u8)) 22 w' w.heap.size (fun k_ => some k_ ≠ (v4 : Value).ownBlock ∧ k_ ≠ gb303) (.slice Ao10 t305.length co10) t305) ∧ Aside0 (w'.heap[gb303]? = some (.cells #[.int .i64 a0_0, .int .i64 a0_1, (.slice A0_2 l0_2.length c0_2)] 24 (0, 0))) ∧ Aside0 (Below w.heap.size w w'))
  case atStart => exact ⟨(([] : List Int)), (0), rq, H', ⟨Nat.le_refl _⟩, ⟨by first | exact Kd.R_nil _ _ _ _ _ | exact Kd.N_nil _ _ _ _ _ | exact Kd.V_nil _ _ _ _ _ | exact Kd.Q_nil _ _ _ _ _ | exact Kd.S_nil _ _ _ _ _⟩, ⟨by (with_reducible repeat (first | apply Kd.N_alloc | apply Kd.N_drewN | apply Kd.N_drew)); exact Kd.N_mono HO307.out (fun _ hk => ⟨(by simp [Value.ownBlock]), hk⟩)⟩, ⟨bU BK303.out⟩, ⟨bl⟩⟩
  case round =>
   clear H'
   obtain ⟨x4_1, x15_1, rfl, HA, HK1, HO_4, HO_13, BK303, HB⟩ := hrel
   cases gk with
   | zero => exact absurd HA.out (by simp [runs_One.l0])
   | succ k1 =>
    have H := HA.out
    clear HA
    simp only [runs_One.l0] at H
    rcases iL H with H1 | H1 <;> clear H <;> obtain ⟨H, c11b0⟩ := H1
    ·by_cases c12 : 0 ≤ x15_1
     ·rw [if_pos c12] at H
      have c12b0 := decide_eq_true c12
      clear c12
      by_cases c13 : x15_1 < (t305.length : Int)
      ·rw [if_pos c13] at H
       have c13b0 := decide_eq_true c13
       clear c13
       obtain ⟨t313, A14, H⟩ := oB H
       try dsimp only at H
       have H' := Aside0.mk H
       clear H
       have p312 : 0 ≤ (x15_1 : Int) := dt
       have q312 : x15_1 < (t305.length : Int) := dt
       obtain ⟨ad312, A312_0, c312_0, e312, hx312_0, hl312_0, hi312_0⟩ := at_L8 (Kd.N_reads' HO_13.out).2.2 x15_1 p312 q312
       cases e312
       obtain ⟨ce312, hce312, hMe312, hcc312⟩ := Kd.N_get HO_13.out [] x15_1 p312 (by first | exact q312 | exact dt | (have e_ := (Kd.N_reads' HO_13.out).1; omega))
       obtain ⟨ua312_0, uc312_0, rfl, ul312_0, ge312_0⟩ := Kd.FK_slice_open hMe312
       have hv312_0 := hcc312 0 _ rfl
       rw [Nat.add_zero, show ((Kd.slice 5 (Kd.int .u8))).sz = 1 from rfl, Nat.mul_one] at hv312_0
       replace hv312_0 := Option.some.inj (hv312_0.symm.trans hx312_0)
       injection hv312_0 with hva_ hvn_ hvc_
       rw [hva_] at ge312_0
       rw [hvc_] at ul312_0
       have HL312_0 := Aside0.mk (show Kd.V (Kd.int .u8) 5 _ w.heap.size _ _ (rd_L8 t305 x15_1) from Kd.V_mk ul312_0 ge312_0)
       clear hva_ hvn_ hvc_ ge312_0 ul312_0
       clear hcc312 hce312
       have HR312_0 := Aside0.mk hi312_0
       have HC312_0 := Aside0.mk hl312_0
       clear hi312_0 hl312_0
       replace p312 := eq_true p312
       replace q312 := eq_true q312
       go_wp2_with (first | (refine gF 21 20 Tryd.func21 #[.slice A312_0 (rd_L8 t305 x15_1).length c312_0] rfl rfl ?_; (with_reducible refine (runs_row.calls k1 _ _ (rd_L8 t305 x15_1) t313 _ ?side1 ?side2 A14.out).mono ?_); (case side1 => repeat (first | exact (by repeat (first | (with_reducible exact HR312_0.out) | (with_reducible refine Kd.C_alloc ?_ _) | (with_reducible refine Kd.C_drewN ?_ _) | (with_reducible refine Kd.C_drew ?_) | exact HR312_0.out)) | (with_reducible refine Kd.C_alloc ?_ _) | (with_reducible refine Kd.C_drewN ?_ _) | (with_reducible refine Kd.C_drew ?_))); (case side2 => exact HC312_0.out); rintro e w15 ⟨v314, rfl, ho0, hb⟩; refine ⟨_, rfl, ?_⟩; have n_ := aC (Kd.R_below (rU HO_4.out) hb) (aC (Kd.N_elder' (by (with_reducible repeat (first | apply Kd.N_alloc | apply Kd.N_drewN | apply Kd.N_drew)); exact HO_13.out) (Kd.R_base ho0) hb) (aC (Kd.V_elder' (by (with_reducible repeat (first | apply Kd.V_alloc | apply Kd.V_drewN | apply Kd.V_drew)); exact HL312_0.out) (Kd.R_base ho0) hb) (aC (Kd.R_lower ho0 bz) (aC (blk_below (bU BK303.out) hb) (aC (Kd.C_below (by repeat (first | (with_reducible exact HR312_0.out) | (with_reducible refine Kd.C_alloc ?_ _) | (with_reducible refine Kd.C_drewN ?_ _) | (with_reducible refine Kd.C_drew ?_) | exact HR312_0.out)) hb) (aE (bs hb))))))); clear HO_4 HO_13 HL312_0 BK303 HR312_0 HB; obtain ⟨HO_4, HO_13, HL312_0, HO315, BK303, HR312_0, HB⟩ := n_; obtain ⟨Ao16, co16, eo16⟩ := Kd.R_slice HO315.out; subst eo16))
       go_loopg [4, 22] k1 (fun kq v4 v22 w' => ∃ (x4_2 : List Int) (x22_2 : Int), v22 = .int .i64 x22_2 ∧ Aside0 (runs_One.l1 kq x4_2 t305 (t305.length : Int) x15_1 t313 (t313.length : Int) x22_2 = some (r1, r2)) ∧ Aside0 (kq ≤ k1) ∧ Aside0 (Kd.R (Kd.int .u8) 5 w' w.heap.size (fun _ => True) v4 x4_2) ∧ Aside0 (Kd.N (Kd.slice 5 (Kd.int .u8)) 22 w' w.heap.size (fun k_ => some k_ ≠ (v4 : Value).ownBlock ∧ some k_ ≠ ((.slice Ao16 t313.length co16) : Value).ownBlock ∧ k_ ≠ gb303) (.slice (some ad312) t305.length co10) t305) ∧ Aside0 (Kd.R (Kd.int .i64) 3 w' w.heap.size (fun _ => True) (.slice Ao16 t313.length co16) t313) ∧ Aside0 (w'.heap[gb303]? = some (.cells #[.int .i64 a0_0, .int .i64 a0_1, (.slice A0_2 l0_2.length c0_2)] 24 (0, 0))) ∧ Aside0 (Below w.heap.size w w'))
       case atStart => exact ⟨(x4_1), (0), rq, H', ⟨Nat.le_refl _⟩, ⟨rU HO_4.out⟩, ⟨by (with_reducible repeat (first | apply Kd.N_alloc | apply Kd.N_drewN | apply Kd.N_drew)); exact Kd.N_mono HO_13.out (fun _ hk => ⟨hk.1.1, ⟨hk.2, hk.1.2⟩⟩)⟩, ⟨rU HO315.out⟩, ⟨bU BK303.out⟩, ⟨bl⟩⟩
       case round =>
        clear H'
        obtain ⟨x4_2, x22_2, rfl, HA, HK2, HO_4, HO_13, HO_20, BK303, HB⟩ := hrel
        cases gk with
        | zero => exact absurd HA.out (by simp [runs_One.l1])
        | succ k2 =>
         have H := HA.out
         clear HA
         simp only [runs_One.l1] at H
         rcases iL H with H1 | H1 <;> clear H <;> obtain ⟨H, c17b0⟩ := H1
         ·by_cases c18 : 0 ≤ x22_2
          ·rw [if_pos c18] at H
           have c18b0 := decide_eq_true c18
           clear c18
           by_cases c19 : x22_2 < (t313.length : Int)
           ·rw [if_pos c19] at H
            have c19b0 := decide_eq_true c19
            clear c19
            obtain ⟨t317, A20, H⟩ := oB H
            try dsimp only at H
            by_cases c21 : x4_2.length + t317.length < 140737488355328
            ·rw [if_pos c21] at H
             have LMc21 := Aside0.mk c21
             clear c21
             obtain ⟨y320, hy_⟩ : ∃ y_ : List Int, y_ = (x4_2 ++ t317) := ⟨_, rfl⟩
             replace H : (runs_One.l1 k2 y320 t305 (t305.length : Int) x15_1 t313 (t313.length : Int) (wrap64 (x22_2 + 1))) = some (r1, r2) := rh
             have Ny320 := aE hy_
             clear hy_
             have H' := Aside0.mk H
             clear H
             have p316 : 0 ≤ (x22_2 : Int) := dt
             have q316 : x22_2 < (t313.length : Int) := dt
             obtain ⟨ad316, e316, hx316_0⟩ := Kd.at_int (Kd.R_reads' HO_20.out).2.2 x22_2 p316 q316
             cases e316
             replace p316 := eq_true p316
             replace q316 := eq_true q316
             go_wp2_with (first | (refine gF 22 31 Tryd.func22 #[.int .i64 (rd t313 x22_2), .int .i64 (Int.tmod x22_2 2)] rfl rfl ?_; (with_reducible refine (runs_runBits.calls k2 (rd t313 x22_2) (Int.tmod x22_2 2) t317 _ A20.out).mono ?_); rintro e w22 ⟨v318, rfl, ho0, hb⟩; refine ⟨_, rfl, ?_⟩; have n_ := aC (Kd.R_elder' (rU HO_4.out) (Kd.R_base ho0) hb) (aC (Kd.N_elder' (by (with_reducible repeat (first | apply Kd.N_alloc | apply Kd.N_drewN | apply Kd.N_drew)); exact HO_13.out) (Kd.R_base ho0) hb) (aC (Kd.R_below (rU HO_20.out) hb) (aC (Kd.R_lower (Kd.R_new' ho0 (Kd.R_lt (rU HO_4.out))) bz) (aC (blk_below (bU BK303.out) hb) (aE (bs hb)))))); clear HO_4 HO_13 HO_20 BK303 HB; obtain ⟨HO_4, HO_13, HO_20, HO319, BK303, HB⟩ := n_; obtain ⟨Ao24, co24, eo24⟩ := Kd.R_slice HO319.out; subst eo24) | ((with_reducible refine gate_builtin (b := .append) (xs := #[.tmp 27, .tmp 31]) rfl ?_); at_builtin; refine Kd.R_append_rows (Kd.int .u8) (w0 := w) w.heap.size rfl (.tmp 27) (.tmp 31) 22 5 (.int .u8 0) 1 rfl Tryd.underlying22 info5 rfl (by decide) (by omega) u4 x4_2 t317 _ _ _ (fun k_ => some k_ ≠ (.slice Ao24 t317.length co24 : Value).ownBlock) (fun _ => False) rfl rfl ?aO ?aR (fun _ _ h => h) (fun _ h => h.elim) ?aF ?aB ?aS ?aL ?_; (case aR => repeat (first | exact (Kd.R_reads' HO319.out).2.2 | (with_reducible refine Kd.C_alloc ?_ _) | (with_reducible refine Kd.C_drewN ?_ _) | (with_reducible refine Kd.C_drew ?_))); (case aB => exact bl); (case aF => exact (fun k_ hk => Kd.fresh' (Kd.R_lt (rU HO319.out)) k_ hk)); (case aO => exact (rU (Kd.R_mono HO_4.out (fun _ hk => hk.2)))); (case aS => exact bz); (case aL => have := LMc21.out; omega); intro v321 w23 ho hb hg hat; rw [← Ny320.out] at ho; have n_ := aC (Kd.N_afterv (ok := (fun k_ => some k_ ≠ (.slice (some ad316) t313.length co16 : Value).ownBlock ∧ some k_ ≠ (.slice Ao24 t317.length co24 : Value).ownBlock ∧ k_ ≠ gb303)) (by (with_reducible repeat (first | apply Kd.N_alloc | apply Kd.N_drewN | apply Kd.N_drew)); exact Kd.N_mono HO_13.out (fun _ hk => ⟨⟨hk.1.2.1, ⟨hk.2, hk.1.2.2⟩⟩, hk.1.1⟩)) hg hat) (aC (Kd.R_over' (rU HO_20.out) (Kd.R_typed (rU HO_4.out)) (by decide) hg) (aC (blk_grown (bU BK303.out) hg (Kd.R_ne HO_4.out BK303.out (by decide))) (aC (Kd.R_after (ok := (fun _ => True)) (rU HO319.out) hg hat) (aC hb (aE ho))))); clear HO_13 HO_20 BK303 HO319 HB HO_4; obtain ⟨HO_13, HO_20, BK303, HO319, HB, HO322⟩ := n_; clear ho hb hg hat))
             go_roundg k2
             case measure => have := HK1.out; have := HK2.out; omega
             case rel => exact ⟨(y320), (wrap64 (x22_2 + 1)), rq, H', ⟨by have := HK1.out; have := HK2.out; omega⟩, ⟨rU (Kd.R_mono HO322.out (fun _ hk => trivial))⟩, ⟨by (with_reducible repeat (first | apply Kd.N_alloc | apply Kd.N_drewN | apply Kd.N_drew)); exact Kd.N_mono HO_13.out (fun _ hk => ⟨hk.2, ⟨hk.1.1, hk.1.2.2⟩⟩)⟩, ⟨rU HO_20.out⟩, ⟨bU BK303.out⟩, ⟨bl⟩⟩
            ·rw [if_neg c21] at H
             exact absurd H (by simp)
           ·rw [if_neg c19] at H
            exact absurd H (by simp)
          ·rw [if_neg c18] at H
           exact absurd H (by simp)
         ·have H' := Aside0.mk H
          clear H
          go_wp2
          go_roundg k2
          case measure => have := HK1.out; have := HK2.out; omega
          case rel => exact ⟨(x4_2), (wrap64 (x15_1 + 1)), rq, H', ⟨by have := HK1.out; have := HK2.out; omega⟩, ⟨rU HO_4.out⟩, ⟨by (with_reducible repeat (first | apply Kd.N_alloc | apply Kd.N_drewN | apply Kd.N_drew)); exact Kd.N_mono HO_13.out (fun _ hk => ⟨hk.1, hk.2.2⟩)⟩, ⟨bU BK303.out⟩, ⟨bl⟩⟩
      ·rw [if_neg c13] at H
       exact absurd H (by simp)
     ·rw [if_neg c12] at H
      exact absurd H (by simp)
    ·obtain ⟨⟨t308, t309⟩, A25, H⟩ := oB H
     try dsimp only at H
     simp only [Option.some.injEq, Prod.mk.injEq] at H
     obtain ⟨rfl, rfl⟩ := H
     obtain ⟨Ao26, co26, eo26⟩ := Kd.R_slice HO_4.out
     subst eo26
     go_wp2_with (first | (refine gF 9 36 Tryd.func9 #[.slice Ao26 x4_1.length co26] rfl rfl ?_; (with_reducible refine (bits_Pack.calls k1 _ _ x4_1 t308 t309 _ ?side1 ?side2 A25.out).mono ?_); (case side1 => exact cU (Kd.R_reads' HO_4.out).2.2); (case side2 => exact (Kd.R_reads' HO_4.out).2.1); rintro e w27 ⟨v310, rfl, ho0, hb⟩; refine ⟨_, rfl, ?_⟩; have n_ := aC (Kd.R_elder' (rU HO_4.out) (Kd.R_base ho0) hb) (aC (Kd.N_elder' (by (with_reducible repeat (first | apply Kd.N_alloc | apply Kd.N_drewN | apply Kd.N_drew)); exact HO_13.out) (Kd.R_base ho0) hb) (aC (Kd.R_lower (Kd.R_new' ho0 (Kd.R_lt (rU HO_4.out))) bz) (aC (blk_below (bU BK303.out) hb) (aE (bs hb))))); clear HO_4 HO_13 BK303 HB; obtain ⟨HO_4, HO_13, HO311, BK303, HB⟩ := n_))
     go_ret2
     exact ⟨_, re, rU (Kd.R_mono HO311.out (fun _ hk => trivial)), bl⟩
 ·replace c3 := Bool.eq_false_iff.mpr c3
  subst c3
  rw [if_neg Bool.false_ne_true] at H
  simp only [Option.some.injEq, Prod.mk.injEq] at H
  obtain ⟨rfl, rfl⟩ := H
  go_enter Tryd.func8, Tryd.ntmps8
  go_wp2_with (first | ((with_reducible refine gd 1 rfl ?_); refine bx 1 #[.int .i64 a0_0, .int .i64 a0_1, .slice A0_2 l0_2.length c0_2] 24 rfl rfl ?_; intro gb303 hg w28 hbox hb; have n_ := aC (bs hb) (aC hbox (aC (gz hg) (aE (gz hg)))); clear HB; obtain ⟨HB, BK303, GW303, GE303⟩ := n_; clear hb hbox hg; obtain ⟨hcz29_0, hcz29_1, hcz29_2, hfz29_0, hfz29_1, hfz29_2⟩ := cz3f BK303.out) | (refine gF 23 10 Tryd.func23 #[.agg #[.int .i64 a0_0, .int .i64 a0_1, .slice A0_2 l0_2.length c0_2]] rfl rfl ?_; (with_reducible refine (bitmap_Valid.calls k a0_0 a0_1 _ _ l0_2 false _ ?side1 ?side2 A2.out).mono ?_); (case side1 => exact cU (Kd.C_below HR0_2.out HB.out)); (case side2 => exact HC0_2.out); rintro e w30 ⟨rfl, hb⟩; refine ⟨_, rfl, ?_⟩; have n_ := aC (blk_below (bU BK303.out) hb) (aE (bs hb)); clear BK303 HB; obtain ⟨BK303, HB⟩ := n_))
  go_ret2
  exact ⟨_, re, by first | exact Kd.R_nil _ _ _ _ _ | exact Kd.N_nil _ _ _ _ _ | exact Kd.V_nil _ _ _ _ _ | exact Kd.Q_nil _ _ _ _ _ | exact Kd.S_nil _ _ _ _ _, bl⟩
def runs_list.l0 : Nat → List Int → Int → Int → Option (List Int)
 | 0, _, _, _ => none
 | k + 1, x3, x8, x9 => if x9 < x8 then (if 0 ≤ x9 then (if x9 < (x3.length : Int) then (runs_list.l0 k (x3.set (x9 : Int).toNat (((rd x3 x9) - 48) % 256)) x8 (wrap64 (x9 + 1))) else (none)) else (none)) else (some x3)
def runs_list.f (k : Nat) (a0 : ByteArray) : Option (List Int) := if a0.size ≤ 140737488355328 then ((some (bytesOf a0 : List Int)).bind fun y323 => (runs_list.l0 k y323 (y323.length : Int) 0)) else (none)
theorem runs_list.mono_l : ∀ k, (∀ y0 y1 y2, LeO (runs_list.l0 k y0 y1 y2) (runs_list.l0 (k + 1) y0 y1 y2))
 | 0 => fun _ _ _ r h => by simp [runs_list.l0] at h
 | k + 1 => by
  have ih0 := runs_list.mono_l k
  ·intro y0 y1 y2
   unfold runs_list.l0
   repeat' first
   | (with_reducible exact ih0 _ _ _)
   | (with_reducible first | exact LeO.refl _ | exact LeO.none _ | refine LeO.ite ?_ ?_ | refine LeO.bind ?_ (fun _ => ?_))
theorem runs_list.mono : ∀ a0 k, LeO (runs_list.f k a0) (runs_list.f (k + 1) a0) := by
 intro a0 k
 have ih0 := runs_list.mono_l k
 unfold runs_list.f
 repeat' first
   | (with_reducible exact ih0 _ _ _)
   | (with_reducible first | exact LeO.refl _ | exact LeO.none _ | refine LeO.ite ?_ ?_ | refine LeO.bind ?_ (fun _ => ?_))
set_option maxHeartbeats 8000000 in
set_option maxRecDepth 100000 in
theorem runs_list.calls (k : Nat) (a0 : ByteArray) (r : List Int) (w : World) (h : runs_list.f k a0 = some r) :
  Calls Tryd.prog 42 #[.string a0] w fun e w' => ∃ v0_ : Value, e = .returned (v0_) ∧ Kd.U (Kd.int .u8) 5 w' w.heap.size (fun _ => True) v0_ r ∧ Below w.heap.size w w' := by
 have HB := Aside0.mk (Below.refl w.heap.size w)
 have H := h
 unfold runs_list.f at H
 clear h
 by_cases c2 : a0.size ≤ 140737488355328
 ·rw [if_pos c2] at H
  have c2b0 := eq_true c2
  have c2b1 := decide_eq_true c2
  clear c2
  obtain ⟨y323, hy_⟩ : ∃ y_ : List Int, y_ = (bytesOf a0) := ⟨_, rfl⟩
  replace H : (runs_list.l0 k y323 (y323.length : Int) 0) = some r := rh
  have Ny323 := aE hy_
  clear hy_
  have H' := Aside0.mk H
  clear H
  go_enter Tryd.func42, Tryd.ntmps42
  go_wp2_with (first | ((with_reducible refine gd 6 rfl ?_); refine Kd.U_conv _ 5 rfl (N := 6) rfl 9 22 rfl rfl (dt : a0.size ≤ 140737488355328) Tryd.underlying9 Tryd.underlying22 Tryd.underlying5 (ok := fun _ => True) (okp := fun _ => True) (fun _ hk => hk) trivial (Below.refl _ _) (Nat.le_refl _) ?_; intro v324 w3 ho4 hb hg_ hnew_; clear hg_ hnew_; (first | rw [← Ny323.out] at ho4 | (simp only [Int.reduceToNat] at ho4; rw [← Ny323.out] at ho4)); have n_ := aC (Kd.U_lower ho4 bz) (aE (bs hb)); clear HB; obtain ⟨HO325, HB⟩ := n_; clear hb ho4; obtain ⟨Ao5, co5, eo5⟩ := Kd.U_slice HO325.out; subst eo5))
  go_loopg [9] k (fun kq v9 w' => ∃ (x3_1 : List Int) (x9_1 : Int), v9 = .int .i64 x9_1 ∧ Aside0 (runs_list.l0 kq x3_1 (y323.length : Int) x9_1 = some r) ∧ Aside0 (kq ≤ k) ∧ Aside0 (Kd.U (Kd.int .u8) 5 w' w.heap.size (fun _ => True) (.slice Ao5 y323.length co5) x3_1) ∧ Aside0 (Below w.heap.size w w'))
  case atStart => exact ⟨(y323), (0), rq, H', ⟨Nat.le_refl _⟩, ⟨by (with_reducible repeat (first | apply Kd.U_alloc | apply Kd.U_drewN | apply Kd.U_drew)); exact HO325.out⟩, ⟨bl⟩⟩
  case round =>
   clear H'
   obtain ⟨x3_1, x9_1, rfl, HA, HK1, HO_3, HB⟩ := hrel
   have hl3_1 := (Kd.U_reads' HO_3.out).1
   rw [hl3_1] at HO_3
   (try simp only [hl3_1])
   cases gk with
   | zero => exact absurd HA.out (by simp [runs_list.l0])
   | succ k1 =>
    have H := HA.out
    clear HA
    simp only [runs_list.l0] at H
    by_cases c6 : x9_1 < (y323.length : Int)
    ·rw [if_pos c6] at H
     have c6b0 := decide_eq_true c6
     (try (have c6b0_hl3_1 := c6b0; simp only [hl3_1] at c6b0_hl3_1))
     clear c6
     by_cases c7 : 0 ≤ x9_1
     ·rw [if_pos c7] at H
      have c7b0 := decide_eq_true c7
      clear c7
      by_cases c8 : x9_1 < (x3_1.length : Int)
      ·rw [if_pos c8] at H
       have c8b0 := decide_eq_true c8
       (try (have c8b0_hl3_1 := c8b0; simp only [hl3_1] at c8b0_hl3_1))
       clear c8
       obtain ⟨y327, hy_⟩ : ∃ y_ : List Int, y_ = (x3_1.set (x9_1 : Int).toNat (((rd x3_1 x9_1) - 48) % 256)) := ⟨_, rfl⟩
       replace H : (runs_list.l0 k1 y327 (y323.length : Int) (wrap64 (x9_1 + 1))) = some r := rh
       have Ny327 := aE hy_
       clear hy_
       have H' := Aside0.mk H
       clear H
       have p326 : 0 ≤ (x9_1 : Int) := dt
       have q326 : x9_1 < (x3_1.length : Int) := dt
       obtain ⟨ad326, e326, hx326_0⟩ := Kd.at_int (Kd.U_reads' HO_3.out).2.2 x9_1 p326 q326
       cases e326
       replace p326 := eq_true p326
       replace q326 := eq_true q326
       have p9 : 0 ≤ (x9_1 : Int) := dt
       have q9 : (x9_1 : Int) < ((x3_1.length : Int) : Int) := dt
       obtain ⟨go9, co9, eo9, gb9, gl9, cl9, HG9⟩ := Kd.U_form HO_3.out (by omega)
       (first | cases eo9 | (injection eo9 with ea_ en_ ec_; (first | subst ea_ | (injection ea_ with ea_; subst ea_)); subst ec_; clear en_))
       have GB9 := Aside0.mk gb9
       have GG9 := Aside0.mk HG9
       clear gb9 gl9 HG9
       (first | simp only [add_plain] at hx326_0 | skip)
       obtain ⟨hx9_0, hf9_0⟩ := Kd.U_celln 0 HO_3.out (x9_1 : Int) p9 q9
       replace p9 := eq_true p9
       replace q9 := eq_true q9
       have HP10 := Kd.U_putg HO_3.out (x9_1 : Int) (((rd x3_1 x9_1) - 48) % 256)
       go_wp2_with (first | ((with_reducible refine gate_store (t := 5) (p := 17) rfl ?_); refine store_event (t := 5) (p := 17) (v := ?vo_w11) (w1 := (wr.setCell ⟨go9, (x9_1 : Int).toNat, none⟩ (.int .u8 (((rd x3_1 x9_1) - 48) % 256)))) ?hg ?ho ?hn ?hr ?_; (case ho => rfl); (case hg => rfl); (case hn => rfl); (case hr => first | (go_simp; done) | (go_simp; rfl)); intro w11 hw; have hg : wr.grownBy w11 (some go9) := (by rw [hw]; exact HP10.2); have hp_ : Kd.U (Kd.int .u8) 5 w11 w.heap.size (fun _ => True) (.slice (some ⟨go9, 0, none⟩) x3_1.length co5) y327 := (by rw [hw, Ny327.out]; exact HP10.1); clear HP10; have n_ := aC hp_ (aE ((by rw [hw]; exact below_set (HB.out) GB9.out : Below w.heap.size w w11))); clear HO_3 HB; obtain ⟨HO_3, HB⟩ := n_; clear hg hw hp_))
       (try simp only [← hl3_1])
       go_roundg k1
       case measure => have := HK1.out; omega
       case rel => exact ⟨(y327), (wrap64 (x9_1 + 1)), rq, H', ⟨by have := HK1.out; omega⟩, ⟨by (try simp only [hl3_1]); (with_reducible repeat (first | apply Kd.U_alloc | apply Kd.U_drewN | apply Kd.U_drew)); exact HO_3.out⟩, ⟨bl⟩⟩
      ·rw [if_neg c8] at H
       exact absurd H (by simp)
     ·rw [if_neg c7] at H
      exact absurd H (by simp)
    ·rw [if_neg c6] at H
     have c6b0 := decide_eq_false c6
     (try (have c6b0_hl3_1 := c6b0; simp only [hl3_1] at c6b0_hl3_1))
     clear c6
     obtain rfl := Option.some.inj H
     go_wp2
     go_ret
     exact ⟨_, re, by (with_reducible repeat (first | apply Kd.U_alloc | apply Kd.U_drewN | apply Kd.U_drew)); exact HO_3.out, bl⟩
 ·rw [if_neg c2] at H
  exact absurd H (by simp)
def runs_uprights.f  : Option (List ByteArray) := some (([(⟨#[48, 48, 48, 48, 48, 49, 48]⟩ : ByteArray), (⟨#[48, 48, 48, 48, 49, 48]⟩ : ByteArray), (⟨#[48, 49, 48]⟩ : ByteArray), (⟨#[49]⟩ : ByteArray), (⟨#[48, 49, 49]⟩ : ByteArray), (⟨#[48, 48, 48, 48, 49, 49]⟩ : ByteArray), (⟨#[48, 48, 48, 48, 48, 49, 49]⟩ : ByteArray)] : List ByteArray))
set_option maxHeartbeats 8000000 in
set_option maxRecDepth 100000 in
theorem runs_uprights.calls  (r : List ByteArray) (w : World) (h : runs_uprights.f  = some r) :
  Calls Tryd.prog 43 #[] w fun e w' => ∃ v0_ : Value, e = .returned (v0_) ∧ Kd.R Kd.string 9 w' w.heap.size (fun _ => True) v0_ r ∧ Below w.heap.size w w' := by
 have HB := Aside0.mk (Below.refl w.heap.size w)
 have H := h
 unfold runs_uprights.f at H
 clear h
 obtain ⟨y328, hy_⟩ : ∃ y_ : List ByteArray, y_ = (([(⟨#[48, 48, 48, 48, 48, 49, 48]⟩ : ByteArray), (⟨#[48, 48, 48, 48, 49, 48]⟩ : ByteArray), (⟨#[48, 49, 48]⟩ : ByteArray), (⟨#[49]⟩ : ByteArray), (⟨#[48, 49, 49]⟩ : ByteArray), (⟨#[48, 48, 48, 48, 49, 49]⟩ : ByteArray), (⟨#[48, 48, 48, 48, 48, 49, 49]⟩ : ByteArray)] : List ByteArray)) := ⟨_, rfl⟩
 replace H : (some y328) = some r := rh
 have Ny328 := aE hy_
 clear hy_
 obtain rfl := Option.some.inj H
 go_enter Tryd.func43, Tryd.ntmps43
 go_wp2_with (first | ((with_reducible refine gd 1 rfl ?_); refine Kd.R_lit Kd.string _ 9 ?hg (N := 1) ?hd (xs := ([(⟨#[48, 48, 48, 48, 48, 49, 48]⟩ : ByteArray), (⟨#[48, 48, 48, 48, 49, 48]⟩ : ByteArray), (⟨#[48, 49, 48]⟩ : ByteArray), (⟨#[49]⟩ : ByteArray), (⟨#[48, 49, 49]⟩ : ByteArray), (⟨#[48, 48, 48, 48, 49, 49]⟩ : ByteArray), (⟨#[48, 48, 48, 48, 48, 49, 49]⟩ : ByteArray)] : List ByteArray)) (inner := [.string (⟨#[48, 48, 48, 48, 48, 49, 48]⟩ : ByteArray), .string (⟨#[48, 48, 48, 48, 49, 48]⟩ : ByteArray), .string (⟨#[48, 49, 48]⟩ : ByteArray), .string (⟨#[49]⟩ : ByteArray), .string (⟨#[48, 49, 49]⟩ : ByteArray), .string (⟨#[48, 48, 48, 48, 49, 49]⟩ : ByteArray), .string (⟨#[48, 48, 48, 48, 48, 49, 49]⟩ : ByteArray)]) (ok := fun _ => True) (okp := fun _ => True) ?hr ?hp (fun _ hk => hk) trivial (Below.refl _ _) (Nat.le_refl _) (by simp) ?_; (case hd => rfl); (case hg => rfl); (case hr => first | (go_simp; done) | (go_simp; rfl)); (case hp => exact (Reps.one (show Kd.M Kd.string _ _ _ (⟨#[48, 48, 48, 48, 48, 49, 48]⟩ : ByteArray) [.string (⟨#[48, 48, 48, 48, 48, 49, 48]⟩ : ByteArray)] from rfl) (Reps.one (show Kd.M Kd.string _ _ _ (⟨#[48, 48, 48, 48, 49, 48]⟩ : ByteArray) [.string (⟨#[48, 48, 48, 48, 49, 48]⟩ : ByteArray)] from rfl) (Reps.one (show Kd.M Kd.string _ _ _ (⟨#[48, 49, 48]⟩ : ByteArray) [.string (⟨#[48, 49, 48]⟩ : ByteArray)] from rfl) (Reps.one (show Kd.M Kd.string _ _ _ (⟨#[49]⟩ : ByteArray) [.string (⟨#[49]⟩ : ByteArray)] from rfl) (Reps.one (show Kd.M Kd.string _ _ _ (⟨#[48, 49, 49]⟩ : ByteArray) [.string (⟨#[48, 49, 49]⟩ : ByteArray)] from rfl) (Reps.one (show Kd.M Kd.string _ _ _ (⟨#[48, 48, 48, 48, 49, 49]⟩ : ByteArray) [.string (⟨#[48, 48, 48, 48, 49, 49]⟩ : ByteArray)] from rfl) (Reps.one (show Kd.M Kd.string _ _ _ (⟨#[48, 48, 48, 48, 48, 49, 49]⟩ : ByteArray) [.string (⟨#[48, 48, 48, 48, 48, 49, 49]⟩ : ByteArray)] from rfl) (Reps.none _ _))))))))); intro v329 w1 ho2 hb hg_ hnew_; clear hg_ hnew_; (first | rw [← Ny328.out] at ho2 | (simp only [Int.reduceToNat] at ho2; rw [← Ny328.out] at ho2)); have n_ := aC (Kd.R_lower ho2 bz) (aE (bs hb)); clear HB; obtain ⟨HO330, HB⟩ := n_; clear hb ho2))
 go_ret
 exact ⟨_, re, rU HO330.out, bl⟩
end Go.Proofs.YtidgpjcgoocpeaaDoor.PTopRuns
