-- Written by a program of this session (wip/tools/myprint.py) over the kit's print. Not trusted: Lean checks it.
import Derived.Test.YtaflekobfbgedaaPShapePiecesx0
import Derived.Test.YtaflekobfbgedaaPShapePiecesx1
import Derived.Test.YtaflekobfbgedaaPShapePiecesx2
import Derived.Test.YtaflekobfbgedaaPShapePiecesx3
namespace Go.Proofs.Ytaflekobfbgedaa.PShapePieces
open Go.RowKit Go.Proofs.YtaflekobfbgedaaW.PrintWords Go.Proofs.YtaflekobfbgedaaW.PrintLast Go.Proofs.YtaflekobfbgedaaW.PrintMore
attribute [local go_sem] max2_int min2_int max_two min_two max_three min_three max_four min_four   -- for this text's walks alone
set_option linter.unusedVariables false
set_option linter.unusedSimpArgs false

/-! ### shape_components: function 51 -/
mutual
def shape_components.l0 : Nat → List (S48) → List Bool → List Int → Int → Int → Int → Int → List Int → Option ((List (S48)))
 | 0, _, _, _, _, _, _, _, _ => none
 | k + 1, x3, x4, x12, x13, x14, x166000, x166001, x166002 => if x14 < x13 then (if 0 ≤ x14 then (if x14 < (x12.length : Int) then (if (rd x12 x14) = 1 then (if x14 < (x4.length : Int) then (shape_components.j1 k x3 x4 x14 x12 x13 x14 (!(rdOf false x4 x14)) x166000 x166001 x166002) else (none)) else (shape_components.j1 k x3 x4 x14 x12 x13 x14 false x166000 x166001 x166002)) else (none)) else (none)) else (some x3)
def shape_components.j1 : Nat → List (S48) → List Bool → Int → List Int → Int → Int → Bool → Int → Int → List Int → Option ((List (S48)))
 | 0, _, _, _, _, _, _, _, _, _, _ => none
 | k + 1, x3, x4, x5, x12, x13, x14, x27, x166000, x166001, x166002 => if x27 = true then (if x166000 = 0 then (none) else ((shape_eight.f).bind fun t171 => ((shape_flood.f k x166000 x166001 x166002 x4 (Int.tmod x5 x166000) (wrap64 (Int.tdiv x5 x166000)) t171).bind fun bt174 => ((shape_placed.f k bt174.1).bind fun bt178 => (if x3.length < 2513169434916 then (shape_components.l0 k (x3 ++ [(⟨(⟨bt178.1, bt178.2.1, bt178.2.2.1⟩ : S24), bt178.2.2.2.1, bt178.2.2.2.2⟩ : S48)]) bt174.2 x12 x13 (wrap64 (x14 + 1)) x166000 x166001 x166002) else (none)))))) else (shape_components.l0 k x3 x4 x12 x13 (wrap64 (x14 + 1)) x166000 x166001 x166002)
end
def shape_components.f (k : Nat) (a0_0 : Int) (a0_1 : Int) (l0_2 : List Int) : Option ((List (S48))) := if 0 ≤ (l0_2.length : Int) then (if ((l0_2.length : Int) : Int).toNat ≤ 281474976710656 then (shape_components.l0 k ([] : List (S48)) (List.replicate ((l0_2.length : Int) : Int).toNat false) l0_2 (l0_2.length : Int) 0 a0_0 a0_1 l0_2) else (none)) else (none)
theorem shape_components.mono_l : ∀ k, (∀ y0 y1 y2 y3 y4 y5 y6 y7, LeO (shape_components.l0 k y0 y1 y2 y3 y4 y5 y6 y7) (shape_components.l0 (k + 1) y0 y1 y2 y3 y4 y5 y6 y7)) ∧ (∀ y0 y1 y2 y3 y4 y5 y6 y7 y8 y9, LeO (shape_components.j1 k y0 y1 y2 y3 y4 y5 y6 y7 y8 y9) (shape_components.j1 (k + 1) y0 y1 y2 y3 y4 y5 y6 y7 y8 y9))
 | 0 => ⟨fun _ _ _ _ _ _ _ _ r h => by simp [shape_components.l0] at h, fun _ _ _ _ _ _ _ _ _ _ r h => by simp [shape_components.j1] at h⟩
 | k + 1 => by
  obtain ⟨ih0, ih1⟩ := shape_components.mono_l k
  refine ⟨?_, ?_⟩
  ·intro y0 y1 y2 y3 y4 y5 y6 y7
   unfold shape_components.l0
   repeat' first
   | (with_reducible exact ih0 _ _ _ _ _ _ _ _)
   | (with_reducible exact ih1 _ _ _ _ _ _ _ _ _ _)
   | (with_reducible exact shape_flood.mono _ _ _ _ _ _ _ _)
   | (with_reducible exact shape_placed.mono _ _)
   | (with_reducible first | exact LeO.refl _ | exact LeO.none _ | refine LeO.ite ?_ ?_ | refine LeO.bind ?_ (fun _ => ?_))
   | exact ih0 _ _ _ _ _ _ _ _
   | exact ih1 _ _ _ _ _ _ _ _ _ _
   | exact shape_flood.mono _ _ _ _ _ _ _ _
   | exact shape_placed.mono _ _
   | exact LeO.none _ | refine LeO.ite ?_ ?_ | refine LeO.bind ?_ (fun _ => ?_)
  ·intro y0 y1 y2 y3 y4 y5 y6 y7 y8 y9
   unfold shape_components.j1
   repeat' first
   | (with_reducible exact ih0 _ _ _ _ _ _ _ _)
   | (with_reducible exact ih1 _ _ _ _ _ _ _ _ _ _)
   | (with_reducible exact shape_flood.mono _ _ _ _ _ _ _ _)
   | (with_reducible exact shape_placed.mono _ _)
   | (with_reducible first | exact LeO.refl _ | exact LeO.none _ | refine LeO.ite ?_ ?_ | refine LeO.bind ?_ (fun _ => ?_))
   | exact ih0 _ _ _ _ _ _ _ _
   | exact ih1 _ _ _ _ _ _ _ _ _ _
   | exact shape_flood.mono _ _ _ _ _ _ _ _
   | exact shape_placed.mono _ _
   | exact LeO.none _ | refine LeO.ite ?_ ?_ | refine LeO.bind ?_ (fun _ => ?_)
theorem shape_components.mono : ∀ a0 a1 a2 k, LeO (shape_components.f k a0 a1 a2) (shape_components.f (k + 1) a0 a1 a2) := by
 intro a0 a1 a2 k
 obtain ⟨ih0, ih1⟩ := shape_components.mono_l k
 unfold shape_components.f
 repeat' first
   | (with_reducible exact ih0 _ _ _ _ _ _ _ _)
   | (with_reducible exact ih1 _ _ _ _ _ _ _ _ _ _)
   | (with_reducible exact shape_flood.mono _ _ _ _ _ _ _ _)
   | (with_reducible exact shape_placed.mono _ _)
   | (with_reducible first | exact LeO.refl _ | exact LeO.none _ | refine LeO.ite ?_ ?_ | refine LeO.bind ?_ (fun _ => ?_))
   | exact ih0 _ _ _ _ _ _ _ _
   | exact ih1 _ _ _ _ _ _ _ _ _ _
   | exact shape_flood.mono _ _ _ _ _ _ _ _
   | exact shape_placed.mono _ _
   | exact LeO.none _ | refine LeO.ite ?_ ?_ | refine LeO.bind ?_ (fun _ => ?_)
def shape_components.T7 : Bool × List (List Nat × List Nat) := (true, [([], []), ([], []), ([], []), ([], []), ([], []), ([4], [4]), ([3, 5], [3, 5]), ([], []), ([], []), ([8], [8]), ([7, 9], [7, 9]), ([6, 10], [6, 10]), ([], []), ([1, 2, 11, 12, 12], [1, 2, 11, 12]), ([13, 13], [13]), ([14], [14]), ([0, 15, 14], [0, 15]), ([16, 16, 0, 1, 2, 3, 4, 5, 6, 7, 8, 9, 10, 11, 12, 13, 14, 15, 16], [0, 16])])
def shape_components.B7 : List Nat := [0, 0, 0, 0, 0, 16, 56, 0, 0, 256, 896, 2040, 0, 8190, 16382, 32766, 65535, 131071]
theorem shape_components.tab7 : rtab .any (opsOf Try.f51 7) = shape_components.T7 := by kernel_rfl
theorem shape_components.bits7 : waitsOk shape_components.T7.2 shape_components.B7 = true := by kernel_rfl
set_option maxHeartbeats 8000000 in
set_option maxRecDepth 100000 in
theorem shape_components.calls (k : Nat) (a0_0 : Int) (a0_1 : Int) (A0_2 : Option Addr) (c0_2 : Nat) (l0_2 : List Int) (r : List (S48)) (w : World) (hr0_2 : Kd.C (Kd.int .u8) w A0_2 l0_2.length l0_2) (hc0_2 : l0_2.length ≤ c0_2) (h : shape_components.f k a0_0 a0_1 l0_2 = some r) :
  Calls Try.prog 51 #[.agg #[.int .i64 a0_0, .int .i64 a0_1, .slice A0_2 l0_2.length c0_2]] w fun e w' => ∃ v0_ : Value, e = .returned (v0_) ∧ Kd.S k48 48 w' w.heap.size (fun _ => True) v0_ r ∧ Below w.heap.size w w' := by
 have hu24 := Try.underlying24
 have hu66 := Try.underlying66
 have HR0_2 := Aside0.mk hr0_2
 have HC0_2 := Aside0.mk hc0_2
 clear hr0_2 hc0_2
 have HB := Aside0.mk (Below.refl w.heap.size w)
 have H : (if 0 ≤ (l0_2.length : Int) then (if ((l0_2.length : Int) : Int).toNat ≤ 281474976710656 then (shape_components.l0 k ([] : List (S48)) (List.replicate ((l0_2.length : Int) : Int).toNat false) l0_2 (l0_2.length : Int) 0 a0_0 a0_1 l0_2) else (none)) else (none)) = some r := h
 clear h
 by_cases c2 : 0 ≤ (l0_2.length : Int)
 ·rw [if_pos c2] at H
  have c2b0 := eq_true c2
  have c2b1 := decide_eq_true c2
  clear c2
  by_cases c3 : ((l0_2.length : Int) : Int).toNat ≤ 281474976710656
  ·rw [if_pos c3] at H
   have c3b0 := eq_true c3
   have c3b1 := decide_eq_true c3
   clear c3
   obtain ⟨y166, hy_⟩ : ∃ y_ : List Bool, y_ = (List.replicate ((l0_2.length : Int) : Int).toNat false) := ⟨_, rfl⟩
   replace H : (shape_components.l0 k ([] : List (S48)) y166 l0_2 (l0_2.length : Int) 0 a0_0 a0_1 l0_2) = some r := rh
   have Ny166 := aE hy_
   clear hy_
   have H' := Aside0.mk H
   clear H
   go_enter Try.func51, Try.ntmps51
   go_wp2_with (first | ((with_reducible refine gd 1 rfl ?_); refine bx 1 #[.int .i64 a0_0, .int .i64 a0_1, .slice A0_2 l0_2.length c0_2] 24 rfl rfl ?_; intro gb165 hg w4 hbox hb; have n_ := aC (bs hb) (aC hbox (aC (gz hg) (aE (gz hg)))); clear HB; obtain ⟨HB, BK165, GW165, GE165⟩ := n_; clear hb hbox hg; obtain ⟨hcz5_0, hcz5_1, hcz5_2, hfz5_0, hfz5_1, hfz5_2⟩ := cz3f BK165.out) | ((with_reducible refine gd 10 rfl ?_); refine Kd.R_make Kd.bool _ 4 rfl (N := 10) rfl 62 _ _ rfl (l0_2.length : Int) rfl rfl Try.underlying62 (.bool false) 1 info4 rfl (by decide) (by omega) false (ok := fun _ => True) (okp := fun _ => True) rfl (fun _ hk => hk) trivial (dt) (Nat.le_trans (Nat.mul_le_mul_right _ (dt : (l0_2.length : Int).toNat ≤ 281474976710656)) (by omega)) (Below.refl _ _) (Nat.le_refl _) ?_; intro v167 w6 ho7 hb hg_ hnew_; clear hg_ hnew_; (first | rw [← Ny166.out] at ho7 | (simp only [Int.reduceToNat] at ho7; rw [← Ny166.out] at ho7)); have n_ := aC (Kd.R_lower ho7 bz) (aC (blk_below (bU BK165.out) hb) (aE (bs hb))); clear BK165 HB; obtain ⟨HO168, BK165, HB⟩ := n_; clear hb ho7; obtain ⟨hcz8_0, hcz8_1, hcz8_2, hfz8_0, hfz8_1, hfz8_2⟩ := cz3f BK165.out))
   go_loopg [3, 14] k (fun kq v3 v14 w' => ∃ (x3_1 : List (S48)) (x4_1 : List Bool) (x14_1 : Int), v14 = .int .i64 x14_1 ∧ Aside0 (shape_components.l0 kq x3_1 x4_1 l0_2 (l0_2.length : Int) x14_1 a0_0 a0_1 l0_2 = some r) ∧ Aside0 (kq ≤ k) ∧ Aside0 (Kd.S k48 48 w' w.heap.size (fun _ => True) v3 x3_1) ∧ Aside0 (Kd.R Kd.bool 4 w' w.heap.size (fun _ => True) v167 x4_1) ∧ Aside0 (w'.heap[gb165]? = some (.cells #[.int .i64 a0_0, .int .i64 a0_1, (.slice A0_2 l0_2.length c0_2)] 24 (0, 0))) ∧ Aside0 (Below w.heap.size w w'))
   case atStart => exact ⟨(([] : List (S48))), (y166), (0), rq, H', ⟨Nat.le_refl _⟩, ⟨by first | exact Kd.S_nil _ _ _ _ _ | exact Kd.N_nil _ _ _ _ _ | exact Kd.V_nil _ _ _ _ _ | exact Kd.Q_nil _ _ _ _ _ | exact Kd.R_nil _ _ _ _ _⟩, ⟨rU HO168.out⟩, ⟨bU BK165.out⟩, ⟨bl⟩⟩
   case round =>
    clear H'
    obtain ⟨x3_1, x4_1, x14_1, rfl, HA, HK1, HO_3, HO_4, BK165, HB⟩ := hrel
    cases gk with
    | zero => exact absurd HA.out (by simp [shape_components.l0])
    | succ k1 =>
     have H := HA.out
     clear HA
     simp only [shape_components.l0] at H
     by_cases c9 : x14_1 < (l0_2.length : Int)
     ·rw [if_pos c9] at H
      have c9b0 := decide_eq_true c9
      clear c9
      by_cases c10 : 0 ≤ x14_1
      ·rw [if_pos c10] at H
       have c10b0 := decide_eq_true c10
       clear c10
       by_cases c11 : x14_1 < (l0_2.length : Int)
       ·rw [if_pos c11] at H
        have c11b0 := decide_eq_true c11
        clear c11
        have HC12 := Aside0.mk H
        clear H
        have p169 : 0 ≤ (x14_1 : Int) := dt
        have q169 : x14_1 < (l0_2.length : Int) := dt
        obtain ⟨ad169, e169, hx169_0⟩ := Kd.at_int HR0_2.out x14_1 p169 q169
        cases e169
        replace hx169_0 := hcB HB.out hx169_0
        replace p169 := eq_true p169
        replace q169 := eq_true q169
        go_upto_region 6 with (fail)
        go_cut [27] (fun v27 wc => ∃ (kq : Nat) (x27_11 : Bool), v27 = .bool x27_11 ∧ Aside0 (shape_components.j1 kq x3_1 x4_1 x14_1 l0_2 (l0_2.length : Int) x14_1 x27_11 a0_0 a0_1 l0_2 = some r) ∧ Aside0 (kq ≤ k1) ∧ Aside0 (Kd.S k48 48 wc w.heap.size (fun _ => True) u3 x3_1) ∧ Aside0 (Kd.R Kd.bool 4 wc w.heap.size (fun _ => True) v167 x4_1) ∧ Aside0 (wc.heap[gb165]? = some (.cells #[.int .i64 a0_0, .int .i64 a0_1, (.slice (some ad169) l0_2.length c0_2)] 24 (0, 0))) ∧ Aside0 (Below w.heap.size w wc))
        case first =>
         have H := HC12.out
         clear HC12
         by_cases c13 : (rd l0_2 x14_1) = 1
         ·rw [if_pos c13] at H
          have c13b0 := beq_iff_eq.mpr c13
          have c13b1 := bne_eq_false_iff_eq.mpr c13
          clear c13
          (first | rw [c13b0] | (simp only [i64_w, i32_w]; rw [c13b0]) | skip)
          by_cases c14 : x14_1 < (x4_1.length : Int)
          ·rw [if_pos c14] at H
           have c14b0 := decide_eq_true c14
           clear c14
           have H' := Aside0.mk H
           clear H
           obtain ⟨Ao15, co15, eo15⟩ := Kd.R_slice HO_4.out
           subst eo15
           have p170 : 0 ≤ (x14_1 : Int) := dt
           have q170 : x14_1 < (x4_1.length : Int) := dt
           obtain ⟨ad170, e170, hx170_0⟩ := Kd.at_bool (Kd.R_reads' HO_4.out).2.2 x14_1 p170 q170
           cases e170
           replace p170 := eq_true p170
           replace q170 := eq_true q170
           go_wp2
           go_meet
           case rel => exact ⟨_, (!(rdOf false x4_1 x14_1)), rq, H', ⟨by have := HK1.out; first | omega | exact Nat.le_refl _⟩, ⟨by (with_reducible repeat (first | apply Kd.S_alloc | apply Kd.S_drewN | apply Kd.S_drew)); exact HO_3.out⟩, ⟨rU HO_4.out⟩, ⟨bU BK165.out⟩, ⟨bl⟩⟩
          ·rw [if_neg c14] at H
           exact absurd H (by simp)
         ·rw [if_neg c13] at H
          have c13b0 := beq_eq_false_iff_ne.mpr c13
          have c13b1 := bne_iff_ne.mpr c13
          (first | rw [c13b0] | (simp only [i64_w, i32_w]; rw [c13b0]) | skip)
          have H' := Aside0.mk H
          clear H
          go_wp2
          go_meet
          case rel => exact ⟨_, (false), rq, H', ⟨by have := HK1.out; first | omega | exact Nat.le_refl _⟩, ⟨by (with_reducible repeat (first | apply Kd.S_alloc | apply Kd.S_drewN | apply Kd.S_drew)); exact HO_3.out⟩, ⟨rU HO_4.out⟩, ⟨bU BK165.out⟩, ⟨bl⟩⟩
        case rest =>
         clear HC12
         obtain ⟨kq, x27_11, rfl, HA, HJ11, HO_3, HO_4, BK165, HB⟩ := hcut
         cases kq with
         | zero => exact absurd HA.out (by simp [shape_components.j1])
         | succ kj11 =>
          have H := HA.out
          clear HA
          simp only [shape_components.j1] at H
          by_cases c16 : x27_11 = true
          ·subst c16
           have H1 : (if a0_0 = 0 then (none) else ((shape_eight.f).bind fun t171 => ((shape_flood.f kj11 a0_0 a0_1 l0_2 x4_1 (Int.tmod x14_1 a0_0) (wrap64 (Int.tdiv x14_1 a0_0)) t171).bind fun bt174 => ((shape_placed.f kj11 bt174.1).bind fun bt178 => (if x3_1.length < 2513169434916 then (shape_components.l0 kj11 (x3_1 ++ [(⟨(⟨bt178.1, bt178.2.1, bt178.2.2.1⟩ : S24), bt178.2.2.2.1, bt178.2.2.2.2⟩ : S48)]) bt174.2 l0_2 (l0_2.length : Int) (wrap64 (x14_1 + 1)) a0_0 a0_1 l0_2) else (none)))))) = some r := by rw [if_pos rfl] at H; exact H
           clear H
           have H := H1
           clear H1
           by_cases c17 : a0_0 = 0
           ·rw [if_pos c17] at H
            exact absurd H (by simp)
           ·rw [if_neg c17] at H
            have c17b0 := beq_eq_false_iff_ne.mpr c17
            have c17b1 := bne_iff_ne.mpr c17
            replace H := Option.bind_eq_some_iff.mp H
            obtain ⟨t171, A180, H⟩ := H
            replace H : ((shape_flood.f kj11 a0_0 a0_1 l0_2 x4_1 (Int.tmod x14_1 a0_0) (wrap64 (Int.tdiv x14_1 a0_0)) t171).bind fun bt174 => ((shape_placed.f kj11 bt174.1).bind fun bt178 => (if x3_1.length < 2513169434916 then (shape_components.l0 kj11 (x3_1 ++ [(⟨(⟨bt178.1, bt178.2.1, bt178.2.2.1⟩ : S24), bt178.2.2.2.1, bt178.2.2.2.2⟩ : S48)]) bt174.2 l0_2 (l0_2.length : Int) (wrap64 (x14_1 + 1)) a0_0 a0_1 l0_2) else (none)))) = some r := H
            have A18 := Aside0.mk A180
            clear A180
            replace H := Option.bind_eq_some_iff.mp H
            obtain ⟨⟨t174, t177⟩, A190, H⟩ := H
            replace H : ((shape_placed.f kj11 t174).bind fun bt178 => (if x3_1.length < 2513169434916 then (shape_components.l0 kj11 (x3_1 ++ [(⟨(⟨bt178.1, bt178.2.1, bt178.2.2.1⟩ : S24), bt178.2.2.2.1, bt178.2.2.2.2⟩ : S48)]) t177 l0_2 (l0_2.length : Int) (wrap64 (x14_1 + 1)) a0_0 a0_1 l0_2) else (none))) = some r := H
            have A19 := Aside0.mk A190
            clear A190
            replace H := Option.bind_eq_some_iff.mp H
            obtain ⟨⟨t178, t179, t180, t183, t184⟩, A200, H⟩ := H
            replace H : (if x3_1.length < 2513169434916 then (shape_components.l0 kj11 (x3_1 ++ [(⟨(⟨t178, t179, t180⟩ : S24), t183, t184⟩ : S48)]) t177 l0_2 (l0_2.length : Int) (wrap64 (x14_1 + 1)) a0_0 a0_1 l0_2) else (none)) = some r := H
            have A20 := Aside0.mk A200
            clear A200
            by_cases c21 : x3_1.length < 2513169434916
            ·rw [if_pos c21] at H
             have LMc21 := Aside0.mk c21
             clear c21
             obtain ⟨y185, hy_⟩ : ∃ y_ : List (S48), y_ = (x3_1 ++ [(⟨(⟨t178, t179, t180⟩ : S24), t183, t184⟩ : S48)]) := ⟨_, rfl⟩
             replace H : (shape_components.l0 kj11 y185 t177 l0_2 (l0_2.length : Int) (wrap64 (x14_1 + 1)) a0_0 a0_1 l0_2) = some r := rh
             have Ny185 := aE hy_
             clear hy_
             have H' := Aside0.mk H
             clear H
             try go_wp2
             have n_ := aC (Kd.S_drew HO_3.out) (aC (Kd.R_drew HO_4.out) (aC (blk_drew BK165.out) (aE (below_drew1 HB.out))))
             clear HO_3 HO_4 BK165 HB
             obtain ⟨HO_3, HO_4, BK165, HB⟩ := n_
             refine st 18 (fun w' => w'.cell? ⟨gb165, 0, none⟩ = some (.int .i64 a0_0) ∧ w'.cell? ⟨gb165, 1, none⟩ = some (.int .i64 a0_1) ∧ w'.cell? ⟨gb165, 2, none⟩ = some (.slice (some ad169) l0_2.length c0_2)) [] (bv 18 0) shape_components.tab7 shape_components.bits7 ⟨kc0 BK165.out, kc1 BK165.out, kc2 BK165.out⟩ (fun hHeld HT_ HW_ => ?_)
             generalize wc.drew = w22 at HO_3 HO_4 BK165 HB hHeld ⊢
             refine pu 0 28 (bv 18 1) HT_ rfl rfl ?_
             refine pu 2 30 (bv 18 5) HT_ rfl rfl ?_
             refine pu 3 31 (bv 18 13) HT_ rfl rfl ?_
             refine pu 4 32 (bv 18 29) HT_ rfl rfl ?_
             refine pu 7 35 (bv 18 157) HT_ rfl rfl ?_
             refine pu 8 36 (bv 18 413) HT_ rfl rfl ?_
             refine tk 1 29 (bv 18 415) HT_ HW_ hHeld rfl rfl (by rintro w' ⟨s0, s1, s2⟩; exact yl) ?_
             refine tk 5 33 (bv 18 447) HT_ HW_ hHeld rfl rfl (by rintro w' ⟨s0, s1, s2⟩; exact yl) ?_
             refine pu 6 34 (bv 18 511) HT_ rfl rfl ?_
             refine tk 9 37 (bv 18 1023) HT_ HW_ hHeld rfl rfl (by rintro w' ⟨s0, s1, s2⟩; exact yl) ?_
             refine pu 10 38 (bv 18 2047) HT_ rfl rfl ?_
             refine pu 11 39 (bv 18 4095) HT_ rfl rfl ?_
             refine one_ (i := 12) (N := some 40) (bv 18 8191) rfl rfl (one_of HT_.out (by kernel_rfl)) (by decide) (fun K hK => ?_)
             refine gK Try.func82 rfl #[] rfl rfl ?_
             with_reducible refine (shape_eight.calls  t171 _ A18.out).mono ?_
             rintro e w23 ⟨v172, rfl, ho0, hb⟩
             refine ⟨_, rfl, ?_⟩
             have n_ := aC (Kd.S_below (by (with_reducible repeat (first | apply Kd.S_alloc | apply Kd.S_drewN | apply Kd.S_drew)); exact HO_3.out) hb) (aC (Kd.R_below (rU HO_4.out) hb) (aC (Kd.R_lower ho0 bz) (aC (blk_below (bU BK165.out) hb) (aE (bs hb)))))
             clear HO_3 HO_4 BK165 HB
             obtain ⟨HO_3, HO_4, HO173, BK165, HB⟩ := n_
             (try clear hb)
             (try clear hb2)
             (try clear hk)
             (try clear hi)
             (try clear ho0)
             obtain ⟨Ao24, co24, eo24⟩ := Kd.R_slice HO_4.out
             (first | subst eo24 | (injection eo24 with f1_ f2_ f3_; have f4_ := f1_.symm; have f5_ := f3_.symm; clear f1_ f2_ f3_; subst f4_; subst f5_))
             obtain ⟨Ao25, co25, eo25⟩ := Kd.R_slice HO173.out
             (first | subst eo25 | (injection eo25 with f1_ f2_ f3_; have f4_ := f1_.symm; have f5_ := f3_.symm; clear f1_ f2_ f3_; subst f4_; subst f5_))
             refine hK.out _ _ ⟨kc0 BK165.out, kc1 BK165.out, kc2 BK165.out⟩ (fun hHeld => ?_)
             clear hK K
             refine nm (some 40) ?_
             refine one_ (i := 13) (N := some 41) (bv 18 16383) rfl rfl (one_of HT_.out (by kernel_rfl)) (by decide) (fun K hK => ?_)
             refine gK Try.func39 rfl #[.agg #[.int .i64 a0_0, .int .i64 a0_1, .slice (some ad169) l0_2.length c0_2], .slice Ao24 x4_1.length co24, .agg #[.int .i64 (Int.tmod x14_1 a0_0), .int .i64 (wrap64 (Int.tdiv x14_1 a0_0))], .slice Ao25 t171.length co25] rfl rfl ?_
             with_reducible refine (shape_flood.calls kj11 a0_0 a0_1 _ _ l0_2 (fun k_ => some k_ = (.slice Ao24 x4_1.length co24 : Value).ownBlock) (.slice Ao24 x4_1.length co24) x4_1 (Int.tmod x14_1 a0_0) (wrap64 (Int.tdiv x14_1 a0_0)) _ _ t171 t174 t177 w _ ?side1 ?side2 ?side3 ?side4 ?side5 ?side6 A19.out).mono ?_
             (case side1 => repeat (first | (with_reducible first | exact HB.out | apply below_alloc | apply pw_below_drewN | apply below_drew1 | refine below_set ?_ GE165.out) | exact HB.out))
             (case side2 => exact Kd.C_kept_came (Kd.heap_int .u8) HR0_2.out bl (fun k_ hs_ => (fun e_ => Kd.R_base HO_4.out k_ e_.symm) hs_))
             (case side3 => exact HC0_2.out)
             (case side4 => exact Kd.R_tight rfl HO_4.out)
             (case side5 => exact Kd.C_kept_own ((Kd.R_apart' HO173.out (Kd.R_typed HO_4.out) (by decide))) (fun k_ hk_ hs_ => (hk_.2) hs_))
             (case side6 => exact (Kd.R_reads' HO173.out).2.1)
             rintro e w26 ⟨v175, rfl, ho0, hy0, hb, hkp⟩
             refine ⟨_, rfl, ?_⟩
             have n_ := aC (Kd.S_mono (ok' := fun k_ => True) (Kd.S_keptB ((Kd.S_apart' HO_3.out (Kd.R_typed HO_4.out) (by decide))) hkp (fun k_ hk_ hs_ => (hk_.2) hs_)) (fun k_ hk_ => trivial)) (aC (Kd.R_reok rfl hy0 (fun k_ e_ => HO_4.out.1 k_ e_)) (aC (blk_kept (bU BK165.out) hkp (fun hs_ => (fun e_ => (Kd.R_ne HO_4.out BK165.out (by decide)) e_) hs_)) (aC (Kd.R_mono (ok' := fun k_ => some k_ ≠ (v175 : Value).ownBlock) (Kd.R_keptB ((Kd.R_apart' HO173.out (Kd.R_typed HO_4.out) (by decide))) hkp (fun k_ hk_ hs_ => (hk_.2) hs_)) (fun k_ hk_ => fun e_ => Or.elim (ho0.1 k_ e_.symm) (fun hs_ => hk_.2.1 hs_) (fun hn_ => Nat.not_le.2 hk_.2.2 hn_))) (aC (Kd.R_mono (ok' := fun k_ => some k_ ≠ (.slice Ao25 t171.length co25 : Value).ownBlock) ho0 (fun k_ hk_ => Or.elim hk_ (fun hs_ => fun e_ => ((((Kd.R_apart' HO173.out (Kd.R_typed HO_4.out) (by decide))).1 k_ e_.symm).2) hs_) (fun hn_ => (Kd.fresh' (Kd.R_lt (rU HO173.out)) k_ hn_)))) (aE hb)))))
             clear HO_3 HO_4 BK165 HO173 HB
             obtain ⟨HO_3, HO_4, BK165, HO173, HO176, HB⟩ := n_
             (try clear hb)
             (try clear hkp)
             (try clear ho0)
             (try clear hy0)
             obtain ⟨Ao27, co27, eo27⟩ := Kd.R_slice HO176.out
             (first | subst eo27 | (injection eo27 with f1_ f2_ f3_; have f4_ := f1_.symm; have f5_ := f3_.symm; clear f1_ f2_ f3_; subst f4_; subst f5_))
             refine hK.out _ _ ⟨kc0 BK165.out, kc1 BK165.out, kc2 BK165.out⟩ (fun hHeld => ?_)
             clear hK K
             refine nm (some 41) ?_
             refine one_ (i := 14) (N := some 42) (bv 18 32767) rfl rfl (one_of HT_.out (by kernel_rfl)) (by decide) (fun K hK => ?_)
             refine gK Try.func81 rfl #[.slice Ao27 t174.length co27] rfl rfl ?_
             with_reducible refine (shape_placed.calls kj11 _ _ t174 t178 t179 t180 t183 t184 _ ?side1 ?side2 A20.out).mono ?_
             (case side1 => exact cU (Kd.R_reads' HO176.out).2.2)
             (case side2 => exact (Kd.R_reads' HO176.out).2.1)
             rintro e w28 ⟨v181, rfl, ho0, hb⟩
             refine ⟨_, rfl, ?_⟩
             have n_ := aC (Kd.S_elder' (by (with_reducible repeat (first | apply Kd.S_alloc | apply Kd.S_drewN | apply Kd.S_drew)); exact HO_3.out) (Kd.R_base ho0) hb) (aC (Kd.R_below (rU HO_4.out) hb) (aC (Kd.R_below (rU HO173.out) hb) (aC (Kd.R_below (rU HO176.out) hb) (aC (Kd.R_lower ho0 bz) (aC (blk_below (bU BK165.out) hb) (aE (bs hb)))))))
             clear HO_3 HO_4 HO173 HO176 BK165 HB
             obtain ⟨HO_3, HO_4, HO173, HO176, HO182, BK165, HB⟩ := n_
             (try clear hb)
             (try clear hb2)
             (try clear hk)
             (try clear hi)
             (try clear ho0)
             obtain ⟨Ao30, co30, eo30⟩ := Kd.R_slice HO182.out
             (first | subst eo30 | (injection eo30 with f1_ f2_ f3_; have f4_ := f1_.symm; have f5_ := f3_.symm; clear f1_ f2_ f3_; subst f4_; subst f5_))
             refine hK.out _ _ ⟨kc0 BK165.out, kc1 BK165.out, kc2 BK165.out⟩ (fun hHeld => ?_)
             clear hK K
             refine nm (some 42) ?_
             refine one_ (i := 15) (N := some 43) (bv 18 65535) rfl rfl (one_of HT_.out (by kernel_rfl)) (by decide) (fun K hK => ?_)
             refine value_ (w1 := ?_) (v := ?_) (by rfl) rfl ?_ ?_
             rotate_left 2
             ·go_simp
              constructor
              ·rfl
              ·rfl
             refine hK.out _ _ ⟨(blk_cell (blk_alloc BK165.out _) 0).trans rfl, (blk_cell (blk_alloc BK165.out _) 1).trans rfl, (blk_cell (blk_alloc BK165.out _) 2).trans rfl⟩ (fun hHeld => ?_)
             clear hK K
             refine nm (some 43) ?_
             refine one_ (i := 16) (N := some 44) (bv 18 131071) rfl rfl (one_of HT_.out (by kernel_rfl)) (by decide) (fun K hK => ?_)
             refine Kd.S_append_step k48 (w0 := w) w.heap.size (by rfl) (.tmp 28) (.tmp 43) 40 48 (.agg #[(.int .i64 0), (.int .i64 0), (.slice none 0 0), (.int .i64 0), (.int .i64 0)]) 56 rfl Try.underlying40 info48 rfl (by decide) (by omega) u3 x3_1 (⟨(⟨t178, t179, t180⟩ : S24), t183, t184⟩ : S48) [.int .i64 t178, .int .i64 t179, .slice Ao30 t180.length co30, .int .i64 t183, .int .i64 t184] (fun _ => True) (fun k_ => some k_ = (.slice Ao30 t180.length co30 : Value).ownBlock) rfl rfl ?aP (fun k_ hk_ => ((Kd.R_mono (ok' := fun k_ => ((fun _ => True)) k_ ∧ some k_ ≠ (u3 : Value).ownBlock) (Kd.R_apart' (HO182.out) (Kd.S_typed HO_3.out) (by decide)) (fun k_ hk => ⟨trivial, hk.2⟩))).1 k_ hk_.symm) ?aF ?aO ?aB ?aS ?aL ?_
             (case aP => exact k48_mkM _ _ _ (⟨(⟨t178, t179, t180⟩ : S24), t183, t184⟩ : S48) (Kd.R_mono (Kd.R_tight rfl (Kd.R_mono (ok' := fun k_ => ((fun _ => True)) k_ ∧ some k_ ≠ (u3 : Value).ownBlock) (Kd.R_apart' (HO182.out) (Kd.S_typed HO_3.out) (by decide)) (fun k_ hk => ⟨trivial, hk.2⟩))) (fun _ h_ => h_)))
             (case aB => exact bl)
             (case aF => exact (fun _ _ => trivial))
             (case aO => exact (by (with_reducible repeat (first | apply Kd.S_alloc | apply Kd.S_drewN | apply Kd.S_drew)); exact Kd.S_mono HO_3.out (fun k_ hk => ⟨trivial, fun e_ => hk.2 e_⟩)))
             (case aS => exact bz)
             (case aL => have := LMc21.out; omega)
             intro v186 w29 ho hb hg hat
             rw [← Ny185.out] at ho
             have n_ := aC (Kd.R_over' (rU HO_4.out) (Kd.S_typed (by (with_reducible repeat (first | apply Kd.S_alloc | apply Kd.S_drewN | apply Kd.S_drew)); exact HO_3.out)) (by decide) hg) (aC (blk_grown (bU BK165.out) hg (Kd.S_ne HO_3.out BK165.out (by decide))) (aC (Kd.R_over' (rU HO173.out) (Kd.S_typed (by (with_reducible repeat (first | apply Kd.S_alloc | apply Kd.S_drewN | apply Kd.S_drew)); exact HO_3.out)) (by decide) hg) (aC (Kd.R_over' (rU HO176.out) (Kd.S_typed (by (with_reducible repeat (first | apply Kd.S_alloc | apply Kd.S_drewN | apply Kd.S_drew)); exact HO_3.out)) (by decide) hg) (aC hb (aE ho)))))
             clear HO_4 BK165 HO173 HO176 HB HO_3 HO182
             obtain ⟨HO_4, BK165, HO173, HO176, HB, HO187⟩ := n_
             clear ho hb hg hat
             refine hK.out _ _ ⟨kc0 BK165.out, kc1 BK165.out, kc2 BK165.out⟩ (fun hHeld => ?_)
             clear hK K
             refine nm (some 44) ?_
             refine pu 17 3 (bv 18 262143) HT_ rfl rfl ?_
             refine done_ (done_of HT_.out (by kernel_rfl)) ?_
             try go_wp2
             go_roundg kj11
             case measure => have := HK1.out; have := HJ11.out; omega
             case rel => exact ⟨(y185), (t177), (wrap64 (x14_1 + 1)), rq, H', ⟨by have := HK1.out; have := HJ11.out; omega⟩, ⟨by (with_reducible repeat (first | apply Kd.S_alloc | apply Kd.S_drewN | apply Kd.S_drew)); exact HO187.out⟩, ⟨rU HO_4.out⟩, ⟨bU BK165.out⟩, ⟨bl⟩⟩
            ·rw [if_neg c21] at H
             exact absurd H (by simp)
          ·replace c16 := Bool.eq_false_iff.mpr c16
           subst c16
           have H1 : (shape_components.l0 kj11 x3_1 x4_1 l0_2 (l0_2.length : Int) (wrap64 (x14_1 + 1)) a0_0 a0_1 l0_2) = some r := by rw [if_neg (show ¬ (false = true) by decide)] at H; exact H
           clear H
           have H := H1
           clear H1
           have H' := Aside0.mk H
           clear H
           go_wp2
           go_roundg kj11
           case measure => have := HK1.out; have := HJ11.out; omega
           case rel => exact ⟨(x3_1), (x4_1), (wrap64 (x14_1 + 1)), rq, H', ⟨by have := HK1.out; have := HJ11.out; omega⟩, ⟨by (with_reducible repeat (first | apply Kd.S_alloc | apply Kd.S_drewN | apply Kd.S_drew)); exact HO_3.out⟩, ⟨rU HO_4.out⟩, ⟨bU BK165.out⟩, ⟨bl⟩⟩
       ·rw [if_neg c11] at H
        exact absurd H (by simp)
      ·rw [if_neg c10] at H
       exact absurd H (by simp)
     ·rw [if_neg c9] at H
      have c9b0 := decide_eq_false c9
      clear c9
      obtain rfl := Option.some.inj H
      go_wp2
      go_ret
      exact ⟨_, re, by (with_reducible repeat (first | apply Kd.S_alloc | apply Kd.S_drewN | apply Kd.S_drew)); exact HO_3.out, bl⟩
  ·rw [if_neg c3] at H
   exact absurd H (by simp)
 ·rw [if_neg c2] at H
  exact absurd H (by simp)

/-! ### shape_Components: function 21 -/
def shape_Components.f (k : Nat) (a0_0 : Int) (a0_1 : Int) (l0_2 : List Int) : Option ((List (S48)) × Int) := (bitmap_Valid.f k a0_0 a0_1 l0_2).bind fun t189 => (if t189 = true then ((shape_components.f k a0_0 a0_1 l0_2).bind fun t190 => (some (t190, 0))) else (some (([] : List (S48)), 30)))
theorem shape_Components.mono : ∀ a0 a1 a2 k, LeO (shape_Components.f k a0 a1 a2) (shape_Components.f (k + 1) a0 a1 a2) := by
 intro a0 a1 a2 k
 unfold shape_Components.f
 repeat' first
   | (with_reducible exact bitmap_Valid.mono _ _ _ _)
   | (with_reducible exact shape_components.mono _ _ _ _)
   | (with_reducible first | exact LeO.refl _ | exact LeO.none _ | refine LeO.ite ?_ ?_ | refine LeO.bind ?_ (fun _ => ?_))
   | exact bitmap_Valid.mono _ _ _ _
   | exact shape_components.mono _ _ _ _
   | exact LeO.none _ | refine LeO.ite ?_ ?_ | refine LeO.bind ?_ (fun _ => ?_)
set_option maxHeartbeats 8000000 in
set_option maxRecDepth 100000 in
theorem shape_Components.calls (k : Nat) (a0_0 : Int) (a0_1 : Int) (A0_2 : Option Addr) (c0_2 : Nat) (l0_2 : List Int) (r1 : List (S48)) (r2 : Int) (w : World) (hr0_2 : Kd.C (Kd.int .u8) w A0_2 l0_2.length l0_2) (hc0_2 : l0_2.length ≤ c0_2) (h : shape_Components.f k a0_0 a0_1 l0_2 = some (r1, r2)) :
  Calls Try.prog 21 #[.agg #[.int .i64 a0_0, .int .i64 a0_1, .slice A0_2 l0_2.length c0_2]] w fun e w' => ∃ v0_ : Value, e = .returned (.tuple #[v0_, .int .i64 r2]) ∧ Kd.S k48 48 w' w.heap.size (fun _ => True) v0_ r1 ∧ Below w.heap.size w w' := by
 have hu24 := Try.underlying24
 have HR0_2 := Aside0.mk hr0_2
 have HC0_2 := Aside0.mk hc0_2
 clear hr0_2 hc0_2
 have HB := Aside0.mk (Below.refl w.heap.size w)
 have H : ((bitmap_Valid.f k a0_0 a0_1 l0_2).bind fun t189 => (if t189 = true then ((shape_components.f k a0_0 a0_1 l0_2).bind fun t190 => (some (t190, 0))) else (some (([] : List (S48)), 30)))) = some (r1, r2) := h
 clear h
 replace H := Option.bind_eq_some_iff.mp H
 obtain ⟨t189, A20, H⟩ := H
 replace H : (if t189 = true then ((shape_components.f k a0_0 a0_1 l0_2).bind fun t190 => (some (t190, 0))) else (some (([] : List (S48)), 30))) = some (r1, r2) := H
 have A2 := Aside0.mk A20
 clear A20
 by_cases c3 : t189 = true
 ·subst c3
  have H1 : ((shape_components.f k a0_0 a0_1 l0_2).bind fun t190 => (some (t190, 0))) = some (r1, r2) := by rw [if_pos rfl] at H; exact H
  clear H
  have H := H1
  clear H1
  replace H := Option.bind_eq_some_iff.mp H
  obtain ⟨t190, A40, H⟩ := H
  replace H : (some (t190, 0)) = some (r1, r2) := H
  have A4 := Aside0.mk A40
  clear A40
  simp only [Option.some.injEq, Prod.mk.injEq] at H
  obtain ⟨rfl, rfl⟩ := H
  go_enter Try.func21, Try.ntmps21
  go_wp2_with (first | ((with_reducible refine gd 1 rfl ?_); refine bx 1 #[.int .i64 a0_0, .int .i64 a0_1, .slice A0_2 l0_2.length c0_2] 24 rfl rfl ?_; intro gb188 hg w5 hbox hb; have n_ := aC (bs hb) (aC hbox (aC (gz hg) (aE (gz hg)))); clear HB; obtain ⟨HB, BK188, GW188, GE188⟩ := n_; clear hb hbox hg; obtain ⟨hcz6_0, hcz6_1, hcz6_2, hfz6_0, hfz6_1, hfz6_2⟩ := cz3f BK188.out) | ((with_reducible refine gf 38 rfl ?_); refine gL (some 5) rfl rfl Try.func38 rfl #[.agg #[.int .i64 a0_0, .int .i64 a0_1, .slice A0_2 l0_2.length c0_2]] rfl ?_; (with_reducible refine (bitmap_Valid.calls k a0_0 a0_1 _ _ l0_2 true _ ?side1 ?side2 A2.out).mono ?_); (case side1 => exact cU (Kd.C_below HR0_2.out HB.out)); (case side2 => exact HC0_2.out); rintro e w7 ⟨rfl, hb⟩; refine ⟨_, rfl, ?_⟩; have n_ := aC (blk_below (bU BK188.out) hb) (aE (bs hb)); clear BK188 HB; obtain ⟨BK188, HB⟩ := n_; (try clear hb); obtain ⟨hcz8_0, hcz8_1, hcz8_2, hfz8_0, hfz8_1, hfz8_2⟩ := cz3f BK188.out) | ((with_reducible refine gf 51 rfl ?_); refine gL (some 8) rfl rfl Try.func51 rfl #[.agg #[.int .i64 a0_0, .int .i64 a0_1, .slice A0_2 l0_2.length c0_2]] rfl ?_; (with_reducible refine (shape_components.calls k a0_0 a0_1 _ _ l0_2 t190 _ ?side1 ?side2 A4.out).mono ?_); (case side1 => exact cU (Kd.C_below HR0_2.out HB.out)); (case side2 => exact HC0_2.out); rintro e w9 ⟨v191, rfl, ho0, hb⟩; refine ⟨_, rfl, ?_⟩; have n_ := aC (Kd.S_lower ho0 bz) (aC (blk_below (bU BK188.out) hb) (aE (bs hb))); clear BK188 HB; obtain ⟨HO192, BK188, HB⟩ := n_; (try clear hb); (try clear ho0)))
  go_ret2
  exact ⟨_, re, by (with_reducible repeat (first | apply Kd.S_alloc | apply Kd.S_drewN | apply Kd.S_drew)); exact HO192.out, bl⟩
 ·replace c3 := Bool.eq_false_iff.mpr c3
  subst c3
  have H1 : (some (([] : List (S48)), 30)) = some (r1, r2) := by rw [if_neg (show ¬ (false = true) by decide)] at H; exact H
  clear H
  have H := H1
  clear H1
  simp only [Option.some.injEq, Prod.mk.injEq] at H
  obtain ⟨rfl, rfl⟩ := H
  go_enter Try.func21, Try.ntmps21
  go_wp2_with (first | ((with_reducible refine gd 1 rfl ?_); refine bx 1 #[.int .i64 a0_0, .int .i64 a0_1, .slice A0_2 l0_2.length c0_2] 24 rfl rfl ?_; intro gb188 hg w10 hbox hb; have n_ := aC (bs hb) (aC hbox (aC (gz hg) (aE (gz hg)))); clear HB; obtain ⟨HB, BK188, GW188, GE188⟩ := n_; clear hb hbox hg; obtain ⟨hcz11_0, hcz11_1, hcz11_2, hfz11_0, hfz11_1, hfz11_2⟩ := cz3f BK188.out) | ((with_reducible refine gf 38 rfl ?_); refine gL (some 5) rfl rfl Try.func38 rfl #[.agg #[.int .i64 a0_0, .int .i64 a0_1, .slice A0_2 l0_2.length c0_2]] rfl ?_; (with_reducible refine (bitmap_Valid.calls k a0_0 a0_1 _ _ l0_2 false _ ?side1 ?side2 A2.out).mono ?_); (case side1 => exact cU (Kd.C_below HR0_2.out HB.out)); (case side2 => exact HC0_2.out); rintro e w12 ⟨rfl, hb⟩; refine ⟨_, rfl, ?_⟩; have n_ := aC (blk_below (bU BK188.out) hb) (aE (bs hb)); clear BK188 HB; obtain ⟨BK188, HB⟩ := n_; (try clear hb)))
  go_ret2
  exact ⟨_, re, by first | exact Kd.S_nil _ _ _ _ _ | exact Kd.N_nil _ _ _ _ _ | exact Kd.V_nil _ _ _ _ _ | exact Kd.Q_nil _ _ _ _ _ | exact Kd.R_nil _ _ _ _ _, bl⟩

/-! ### incunablelaw15_Sane: function 11 -/
def incunablelaw15_Sane.f (k : Nat)  : Option (Bool) := (shape_Components.f k 2 2 (([1, 0, 0, 1] : List Int))).bind fun bt196 => (if bt196.2 = 0 then (if (bt196.1.length : Int) = 1 then (if 0 < (bt196.1.length : Int) then (if ((rd_T48 bt196.1 0).f0.f0) = 2 then (some (((rd_T48 bt196.1 0).f0.f1) == 2)) else (some false)) else (none)) else (some false)) else (some false))
theorem incunablelaw15_Sane.mono : ∀ k, LeO (incunablelaw15_Sane.f k ) (incunablelaw15_Sane.f (k + 1) ) := by
 intro  k
 unfold incunablelaw15_Sane.f
 repeat' first
   | (with_reducible exact shape_Components.mono _ _ _ _)
   | (with_reducible first | exact LeO.refl _ | exact LeO.none _ | refine LeO.ite ?_ ?_ | refine LeO.bind ?_ (fun _ => ?_))
   | exact shape_Components.mono _ _ _ _
   | exact LeO.none _ | refine LeO.ite ?_ ?_ | refine LeO.bind ?_ (fun _ => ?_)
set_option maxHeartbeats 8000000 in
set_option maxRecDepth 100000 in
theorem incunablelaw15_Sane.calls (k : Nat)  (r : Bool) (w : World) (h : incunablelaw15_Sane.f k  = some r) :
  Calls Try.prog 11 #[] w fun e w' => e = .returned (.bool r) ∧ Below w.heap.size w w' := by
 have hu24 := Try.underlying24
 have HB := Aside0.mk (Below.refl w.heap.size w)
 have H : ((shape_Components.f k 2 2 (([1, 0, 0, 1] : List Int))).bind fun bt196 => (if bt196.2 = 0 then (if (bt196.1.length : Int) = 1 then (if 0 < (bt196.1.length : Int) then (if ((rd_T48 bt196.1 0).f0.f0) = 2 then (some (((rd_T48 bt196.1 0).f0.f1) == 2)) else (some false)) else (none)) else (some false)) else (some false))) = some r := h
 clear h
 obtain ⟨y193, hy_⟩ : ∃ y_ : List Int, y_ = (([1, 0, 0, 1] : List Int)) := ⟨_, rfl⟩
 replace H : ((shape_Components.f k 2 2 y193).bind fun bt196 => (if bt196.2 = 0 then (if (bt196.1.length : Int) = 1 then (if 0 < (bt196.1.length : Int) then (if ((rd_T48 bt196.1 0).f0.f0) = 2 then (some (((rd_T48 bt196.1 0).f0.f1) == 2)) else (some false)) else (none)) else (some false)) else (some false))) = some r := rh
 have Ny193 := aE hy_
 clear hy_
 replace H := Option.bind_eq_some_iff.mp H
 obtain ⟨⟨t196, t199⟩, A10, H⟩ := H
 replace H : (if t199 = 0 then (if (t196.length : Int) = 1 then (if 0 < (t196.length : Int) then (if ((rd_T48 t196 0).f0.f0) = 2 then (some (((rd_T48 t196 0).f0.f1) == 2)) else (some false)) else (none)) else (some false)) else (some false)) = some r := H
 have A1 := Aside0.mk A10
 clear A10
 by_cases c2 : t199 = 0
 ·rw [if_pos c2] at H
  have c2b0 := beq_iff_eq.mpr c2
  have c2b1 := bne_eq_false_iff_eq.mpr c2
  clear c2
  by_cases c3 : (t196.length : Int) = 1
  ·rw [if_pos c3] at H
   have c3b0 := beq_iff_eq.mpr c3
   have c3b1 := bne_eq_false_iff_eq.mpr c3
   clear c3
   by_cases c4 : 0 < (t196.length : Int)
   ·rw [if_pos c4] at H
    have c4b0 := decide_eq_true c4
    have c4b1 : decide (0 < t196.length) = true := decide_eq_true (by omega)
    clear c4
    by_cases c5 : ((rd_T48 t196 0).f0.f0) = 2
    ·rw [if_pos c5] at H
     have c5b0 := beq_iff_eq.mpr c5
     have c5b1 := bne_eq_false_iff_eq.mpr c5
     clear c5
     obtain rfl := Option.some.inj H
     go_enter Try.func11, Try.ntmps11
     go_wp2_with (first | ((with_reducible refine gd 4 rfl ?_); (try (refine gate_guard (by rfl) ?_; dsimp only)); refine Kd.R_lit (Kd.int .u8) _ 5 ?hg (N := 4) ?hd (xs := ([1, 0, 0, 1] : List Int)) (inner := [.int .u8 1, .int .u8 0, .int .u8 0, .int .u8 1]) (ok := fun _ => True) (okp := fun _ => True) ?hr ?hp (fun _ hk => hk) trivial (Below.refl _ _) (Nat.le_refl _) (by simp) ?_; (case hd => rfl); (case hg => rfl); (case hr => first | (go_simp; done) | (go_simp; rfl)); (case hp => exact (Reps.one (show Kd.M (Kd.int .u8) _ _ _ 1 [.int .u8 1] from rfl) (Reps.one (show Kd.M (Kd.int .u8) _ _ _ 0 [.int .u8 0] from rfl) (Reps.one (show Kd.M (Kd.int .u8) _ _ _ 0 [.int .u8 0] from rfl) (Reps.one (show Kd.M (Kd.int .u8) _ _ _ 1 [.int .u8 1] from rfl) (Reps.none _ _)))))); intro v194 w6 ho7 hb hg_ hnew_; clear hg_ hnew_; (first | rw [← Ny193.out] at ho7 | (simp only [Int.reduceToNat] at ho7; rw [← Ny193.out] at ho7)); have n_ := aC (Kd.R_lower ho7 bz) (aE (bs hb)); clear HB; obtain ⟨HO195, HB⟩ := n_; clear hb ho7; obtain ⟨Ao8, co8, eo8⟩ := Kd.R_slice HO195.out; subst eo8) | ((with_reducible refine gf 21 rfl ?_); refine gL (some 6) rfl rfl Try.func21 rfl #[.agg #[.int .i64 2, .int .i64 2, .slice Ao8 y193.length co8]] rfl ?_; (with_reducible refine (shape_Components.calls k 2 2 _ _ y193 t196 t199 _ ?side1 ?side2 A1.out).mono ?_); (case side1 => exact cU (Kd.R_reads' HO195.out).2.2); (case side2 => exact (Kd.R_reads' HO195.out).2.1); rintro e w9 ⟨v197, rfl, ho0, hb⟩; refine ⟨_, rfl, ?_⟩; have n_ := aC (Kd.R_below (rU HO195.out) hb) (aC (Kd.S_lower (Kd.S_new' ho0 (Kd.R_lt (rU HO195.out))) bz) (aE (bs hb))); clear HO195 HB; obtain ⟨HO195, HO198, HB⟩ := n_; (try clear hb); (try clear ho0); obtain ⟨Ao10, co10, eo10⟩ := Kd.S_slice HO198.out; subst eo10; have p200 : 0 ≤ (0 : Int) := (by omega); have q200 : 0 < (t196.length : Int) := dt; obtain ⟨ad200, A200_2, c200_2, e200, hx200_0, hx200_1, hx200_2, hx200_3, hx200_4, hl200_2, hi200_2⟩ := at_T48 (Kd.S_reads' HO198.out).2.2 0 p200 q200; cases e200; obtain ⟨ce200, hce200, hMe200, hcc200⟩ := Kd.S_get HO198.out z48 0 p200 (by first | exact q200 | exact dt | (have e_ := (Kd.S_reads' HO198.out).1; omega)); obtain ⟨ve200_2, rfl, ge200_2⟩ := k48_openM hMe200; have hv200_2 := hcc200 2 _ rfl; rw [add_field _ _ 2 (by omega)] at hv200_2; replace hv200_2 := Option.some.inj (hv200_2.symm.trans hx200_2); rw [hv200_2] at ge200_2; have HL200_2 := Aside0.mk (show Kd.R (Kd.int .u8) 5 _ _ _ _ ((rd_T48 t196 0).f0.f2) from ge200_2); clear hv200_2 ge200_2; clear hcc200 hce200; have qi200 : (0 < t196.length) = True := eq_true (by omega); (try rw [show ((0 : Int)).toNat = 0 from rfl] at hx200_0); (try rw [show 0 * 5 = 0 from rfl] at hx200_0); (try rw [Addr.add_zero'] at hx200_0); (try rw [show ((0 : Int)).toNat = 0 from rfl] at hx200_1); (try rw [show 0 * 5 = 0 from rfl] at hx200_1); (try rw [Addr.add_zero'] at hx200_1); (try rw [show ((0 : Int)).toNat = 0 from rfl] at hx200_2); (try rw [show 0 * 5 = 0 from rfl] at hx200_2); (try rw [Addr.add_zero'] at hx200_2); (try rw [show ((0 : Int)).toNat = 0 from rfl] at hx200_3); (try rw [show 0 * 5 = 0 from rfl] at hx200_3); (try rw [Addr.add_zero'] at hx200_3); (try rw [show ((0 : Int)).toNat = 0 from rfl] at hx200_4); (try rw [show 0 * 5 = 0 from rfl] at hx200_4); (try rw [Addr.add_zero'] at hx200_4); have HR200_2 := Aside0.mk hi200_2; have HC200_2 := Aside0.mk hl200_2; clear hi200_2 hl200_2; replace p200 := eq_true p200; replace q200 := eq_true q200; have p201 : 0 ≤ (0 : Int) := (by omega); have q201 : 0 < (t196.length : Int) := dt; obtain ⟨ad201, A201_2, c201_2, e201, hx201_0, hx201_1, hx201_2, hx201_3, hx201_4, hl201_2, hi201_2⟩ := at_T48 (Kd.S_reads' HO198.out).2.2 0 p201 q201; obtain rfl : ad200 = ad201 := (by injection e201); obtain ⟨ce201, hce201, hMe201, hcc201⟩ := Kd.S_get HO198.out z48 0 p201 (by first | exact q201 | exact dt | (have e_ := (Kd.S_reads' HO198.out).1; omega)); obtain ⟨ve201_2, rfl, ge201_2⟩ := k48_openM hMe201; have hv201_2 := hcc201 2 _ rfl; rw [add_field _ _ 2 (by omega)] at hv201_2; replace hv201_2 := Option.some.inj (hv201_2.symm.trans hx201_2); rw [hv201_2] at ge201_2; have HL201_2 := Aside0.mk (show Kd.R (Kd.int .u8) 5 _ _ _ _ ((rd_T48 t196 0).f0.f2) from ge201_2); clear hv201_2 ge201_2; clear hcc201 hce201; have qi201 : (0 < t196.length) = True := eq_true (by omega); (try rw [show ((0 : Int)).toNat = 0 from rfl] at hx201_0); (try rw [show 0 * 5 = 0 from rfl] at hx201_0); (try rw [Addr.add_zero'] at hx201_0); (try rw [show ((0 : Int)).toNat = 0 from rfl] at hx201_1); (try rw [show 0 * 5 = 0 from rfl] at hx201_1); (try rw [Addr.add_zero'] at hx201_1); (try rw [show ((0 : Int)).toNat = 0 from rfl] at hx201_2); (try rw [show 0 * 5 = 0 from rfl] at hx201_2); (try rw [Addr.add_zero'] at hx201_2); (try rw [show ((0 : Int)).toNat = 0 from rfl] at hx201_3); (try rw [show 0 * 5 = 0 from rfl] at hx201_3); (try rw [Addr.add_zero'] at hx201_3); (try rw [show ((0 : Int)).toNat = 0 from rfl] at hx201_4); (try rw [show 0 * 5 = 0 from rfl] at hx201_4); (try rw [Addr.add_zero'] at hx201_4); have HR201_2 := Aside0.mk hi201_2; have HC201_2 := Aside0.mk hl201_2; clear hi201_2 hl201_2; replace p201 := eq_true p201; replace q201 := eq_true q201; have ea_ := Option.some.inj (hx200_2.symm.trans hx201_2); injection ea_ with ea_ en_ ec_; subst ea_; subst ec_; clear en_))
     go_ret
     exact ⟨re, bl⟩
    ·rw [if_neg c5] at H
     have c5b0 := beq_eq_false_iff_ne.mpr c5
     have c5b1 := bne_iff_ne.mpr c5
     obtain rfl := Option.some.inj H
     go_enter Try.func11, Try.ntmps11
     go_wp2_with (first | ((with_reducible refine gd 4 rfl ?_); (try (refine gate_guard (by rfl) ?_; dsimp only)); refine Kd.R_lit (Kd.int .u8) _ 5 ?hg (N := 4) ?hd (xs := ([1, 0, 0, 1] : List Int)) (inner := [.int .u8 1, .int .u8 0, .int .u8 0, .int .u8 1]) (ok := fun _ => True) (okp := fun _ => True) ?hr ?hp (fun _ hk => hk) trivial (Below.refl _ _) (Nat.le_refl _) (by simp) ?_; (case hd => rfl); (case hg => rfl); (case hr => first | (go_simp; done) | (go_simp; rfl)); (case hp => exact (Reps.one (show Kd.M (Kd.int .u8) _ _ _ 1 [.int .u8 1] from rfl) (Reps.one (show Kd.M (Kd.int .u8) _ _ _ 0 [.int .u8 0] from rfl) (Reps.one (show Kd.M (Kd.int .u8) _ _ _ 0 [.int .u8 0] from rfl) (Reps.one (show Kd.M (Kd.int .u8) _ _ _ 1 [.int .u8 1] from rfl) (Reps.none _ _)))))); intro v194 w11 ho12 hb hg_ hnew_; clear hg_ hnew_; (first | rw [← Ny193.out] at ho12 | (simp only [Int.reduceToNat] at ho12; rw [← Ny193.out] at ho12)); have n_ := aC (Kd.R_lower ho12 bz) (aE (bs hb)); clear HB; obtain ⟨HO195, HB⟩ := n_; clear hb ho12; obtain ⟨Ao13, co13, eo13⟩ := Kd.R_slice HO195.out; subst eo13) | ((with_reducible refine gf 21 rfl ?_); refine gL (some 6) rfl rfl Try.func21 rfl #[.agg #[.int .i64 2, .int .i64 2, .slice Ao13 y193.length co13]] rfl ?_; (with_reducible refine (shape_Components.calls k 2 2 _ _ y193 t196 t199 _ ?side1 ?side2 A1.out).mono ?_); (case side1 => exact cU (Kd.R_reads' HO195.out).2.2); (case side2 => exact (Kd.R_reads' HO195.out).2.1); rintro e w14 ⟨v197, rfl, ho0, hb⟩; refine ⟨_, rfl, ?_⟩; have n_ := aC (Kd.R_below (rU HO195.out) hb) (aC (Kd.S_lower (Kd.S_new' ho0 (Kd.R_lt (rU HO195.out))) bz) (aE (bs hb))); clear HO195 HB; obtain ⟨HO195, HO198, HB⟩ := n_; (try clear hb); (try clear ho0); obtain ⟨Ao15, co15, eo15⟩ := Kd.S_slice HO198.out; subst eo15; have p200 : 0 ≤ (0 : Int) := (by omega); have q200 : 0 < (t196.length : Int) := dt; obtain ⟨ad200, A200_2, c200_2, e200, hx200_0, hx200_1, hx200_2, hx200_3, hx200_4, hl200_2, hi200_2⟩ := at_T48 (Kd.S_reads' HO198.out).2.2 0 p200 q200; cases e200; obtain ⟨ce200, hce200, hMe200, hcc200⟩ := Kd.S_get HO198.out z48 0 p200 (by first | exact q200 | exact dt | (have e_ := (Kd.S_reads' HO198.out).1; omega)); obtain ⟨ve200_2, rfl, ge200_2⟩ := k48_openM hMe200; have hv200_2 := hcc200 2 _ rfl; rw [add_field _ _ 2 (by omega)] at hv200_2; replace hv200_2 := Option.some.inj (hv200_2.symm.trans hx200_2); rw [hv200_2] at ge200_2; have HL200_2 := Aside0.mk (show Kd.R (Kd.int .u8) 5 _ _ _ _ ((rd_T48 t196 0).f0.f2) from ge200_2); clear hv200_2 ge200_2; clear hcc200 hce200; have qi200 : (0 < t196.length) = True := eq_true (by omega); (try rw [show ((0 : Int)).toNat = 0 from rfl] at hx200_0); (try rw [show 0 * 5 = 0 from rfl] at hx200_0); (try rw [Addr.add_zero'] at hx200_0); (try rw [show ((0 : Int)).toNat = 0 from rfl] at hx200_1); (try rw [show 0 * 5 = 0 from rfl] at hx200_1); (try rw [Addr.add_zero'] at hx200_1); (try rw [show ((0 : Int)).toNat = 0 from rfl] at hx200_2); (try rw [show 0 * 5 = 0 from rfl] at hx200_2); (try rw [Addr.add_zero'] at hx200_2); (try rw [show ((0 : Int)).toNat = 0 from rfl] at hx200_3); (try rw [show 0 * 5 = 0 from rfl] at hx200_3); (try rw [Addr.add_zero'] at hx200_3); (try rw [show ((0 : Int)).toNat = 0 from rfl] at hx200_4); (try rw [show 0 * 5 = 0 from rfl] at hx200_4); (try rw [Addr.add_zero'] at hx200_4); have HR200_2 := Aside0.mk hi200_2; have HC200_2 := Aside0.mk hl200_2; clear hi200_2 hl200_2; replace p200 := eq_true p200; replace q200 := eq_true q200))
     go_ret
     exact ⟨re, bl⟩
   ·rw [if_neg c4] at H
    exact absurd H (by simp)
  ·rw [if_neg c3] at H
   have c3b0 := beq_eq_false_iff_ne.mpr c3
   have c3b1 := bne_iff_ne.mpr c3
   obtain rfl := Option.some.inj H
   go_enter Try.func11, Try.ntmps11
   go_wp2_with (first | ((with_reducible refine gd 4 rfl ?_); (try (refine gate_guard (by rfl) ?_; dsimp only)); refine Kd.R_lit (Kd.int .u8) _ 5 ?hg (N := 4) ?hd (xs := ([1, 0, 0, 1] : List Int)) (inner := [.int .u8 1, .int .u8 0, .int .u8 0, .int .u8 1]) (ok := fun _ => True) (okp := fun _ => True) ?hr ?hp (fun _ hk => hk) trivial (Below.refl _ _) (Nat.le_refl _) (by simp) ?_; (case hd => rfl); (case hg => rfl); (case hr => first | (go_simp; done) | (go_simp; rfl)); (case hp => exact (Reps.one (show Kd.M (Kd.int .u8) _ _ _ 1 [.int .u8 1] from rfl) (Reps.one (show Kd.M (Kd.int .u8) _ _ _ 0 [.int .u8 0] from rfl) (Reps.one (show Kd.M (Kd.int .u8) _ _ _ 0 [.int .u8 0] from rfl) (Reps.one (show Kd.M (Kd.int .u8) _ _ _ 1 [.int .u8 1] from rfl) (Reps.none _ _)))))); intro v194 w16 ho17 hb hg_ hnew_; clear hg_ hnew_; (first | rw [← Ny193.out] at ho17 | (simp only [Int.reduceToNat] at ho17; rw [← Ny193.out] at ho17)); have n_ := aC (Kd.R_lower ho17 bz) (aE (bs hb)); clear HB; obtain ⟨HO195, HB⟩ := n_; clear hb ho17; obtain ⟨Ao18, co18, eo18⟩ := Kd.R_slice HO195.out; subst eo18) | ((with_reducible refine gf 21 rfl ?_); refine gL (some 6) rfl rfl Try.func21 rfl #[.agg #[.int .i64 2, .int .i64 2, .slice Ao18 y193.length co18]] rfl ?_; (with_reducible refine (shape_Components.calls k 2 2 _ _ y193 t196 t199 _ ?side1 ?side2 A1.out).mono ?_); (case side1 => exact cU (Kd.R_reads' HO195.out).2.2); (case side2 => exact (Kd.R_reads' HO195.out).2.1); rintro e w19 ⟨v197, rfl, ho0, hb⟩; refine ⟨_, rfl, ?_⟩; have n_ := aC (Kd.R_below (rU HO195.out) hb) (aC (Kd.S_lower (Kd.S_new' ho0 (Kd.R_lt (rU HO195.out))) bz) (aE (bs hb))); clear HO195 HB; obtain ⟨HO195, HO198, HB⟩ := n_; (try clear hb); (try clear ho0); obtain ⟨Ao20, co20, eo20⟩ := Kd.S_slice HO198.out; subst eo20))
   go_ret
   exact ⟨re, bl⟩
 ·rw [if_neg c2] at H
  have c2b0 := beq_eq_false_iff_ne.mpr c2
  have c2b1 := bne_iff_ne.mpr c2
  obtain rfl := Option.some.inj H
  go_enter Try.func11, Try.ntmps11
  go_wp2_with (first | ((with_reducible refine gd 4 rfl ?_); (try (refine gate_guard (by rfl) ?_; dsimp only)); refine Kd.R_lit (Kd.int .u8) _ 5 ?hg (N := 4) ?hd (xs := ([1, 0, 0, 1] : List Int)) (inner := [.int .u8 1, .int .u8 0, .int .u8 0, .int .u8 1]) (ok := fun _ => True) (okp := fun _ => True) ?hr ?hp (fun _ hk => hk) trivial (Below.refl _ _) (Nat.le_refl _) (by simp) ?_; (case hd => rfl); (case hg => rfl); (case hr => first | (go_simp; done) | (go_simp; rfl)); (case hp => exact (Reps.one (show Kd.M (Kd.int .u8) _ _ _ 1 [.int .u8 1] from rfl) (Reps.one (show Kd.M (Kd.int .u8) _ _ _ 0 [.int .u8 0] from rfl) (Reps.one (show Kd.M (Kd.int .u8) _ _ _ 0 [.int .u8 0] from rfl) (Reps.one (show Kd.M (Kd.int .u8) _ _ _ 1 [.int .u8 1] from rfl) (Reps.none _ _)))))); intro v194 w21 ho22 hb hg_ hnew_; clear hg_ hnew_; (first | rw [← Ny193.out] at ho22 | (simp only [Int.reduceToNat] at ho22; rw [← Ny193.out] at ho22)); have n_ := aC (Kd.R_lower ho22 bz) (aE (bs hb)); clear HB; obtain ⟨HO195, HB⟩ := n_; clear hb ho22; obtain ⟨Ao23, co23, eo23⟩ := Kd.R_slice HO195.out; subst eo23) | ((with_reducible refine gf 21 rfl ?_); refine gL (some 6) rfl rfl Try.func21 rfl #[.agg #[.int .i64 2, .int .i64 2, .slice Ao23 y193.length co23]] rfl ?_; (with_reducible refine (shape_Components.calls k 2 2 _ _ y193 t196 t199 _ ?side1 ?side2 A1.out).mono ?_); (case side1 => exact cU (Kd.R_reads' HO195.out).2.2); (case side2 => exact (Kd.R_reads' HO195.out).2.1); rintro e w24 ⟨v197, rfl, ho0, hb⟩; refine ⟨_, rfl, ?_⟩; have n_ := aC (Kd.R_below (rU HO195.out) hb) (aC (Kd.S_lower (Kd.S_new' ho0 (Kd.R_lt (rU HO195.out))) bz) (aE (bs hb))); clear HO195 HB; obtain ⟨HO195, HO198, HB⟩ := n_; (try clear hb); (try clear ho0)))
  go_ret
  exact ⟨re, bl⟩

/-! ### incunablelaw15_Large: function 20 -/
def incunablelaw15_Large.f (a0_0 : Int) (a0_1 : Int) (l0_2 : List Int) : Option (Bool) := some (decide ((l0_2.length : Int) > 900))
set_option maxHeartbeats 8000000 in
set_option maxRecDepth 100000 in
theorem incunablelaw15_Large.calls (a0_0 : Int) (a0_1 : Int) (A0_2 : Option Addr) (c0_2 : Nat) (l0_2 : List Int) (r : Bool) (w : World) (hr0_2 : Kd.C (Kd.int .u8) w A0_2 l0_2.length l0_2) (hc0_2 : l0_2.length ≤ c0_2) (h : incunablelaw15_Large.f a0_0 a0_1 l0_2 = some r) :
  Calls Try.prog 20 #[.agg #[.int .i64 a0_0, .int .i64 a0_1, .slice A0_2 l0_2.length c0_2]] w fun e w' => e = .returned (.bool r) ∧ Below w.heap.size w w' := by
 have hu24 := Try.underlying24
 have HR0_2 := Aside0.mk hr0_2
 have HC0_2 := Aside0.mk hc0_2
 clear hr0_2 hc0_2
 have HB := Aside0.mk (Below.refl w.heap.size w)
 have H : (some (decide ((l0_2.length : Int) > 900))) = some r := h
 clear h
 obtain rfl := Option.some.inj H
 go_enter Try.func20, Try.ntmps20
 go_wp2_with (first | ((with_reducible refine gd 1 rfl ?_); refine bx 1 #[.int .i64 a0_0, .int .i64 a0_1, .slice A0_2 l0_2.length c0_2] 24 rfl rfl ?_; intro gb202 hg w2 hbox hb; have n_ := aC (bs hb) (aC hbox (aC (gz hg) (aE (gz hg)))); clear HB; obtain ⟨HB, BK202, GW202, GE202⟩ := n_; clear hb hbox hg; obtain ⟨hcz3_0, hcz3_1, hcz3_2, hfz3_0, hfz3_1, hfz3_2⟩ := cz3f BK202.out))
 go_ret
 exact ⟨re, bl⟩

/-! ### incunableref05_Same: function 25 -/
def incunableref05_Same.f (a0_0 : Int) (a0_1 : Int) (l0_2 : List Int) (a1_0 : Int) (a1_1 : Int) (l1_2 : List Int) : Option (Bool) := if a0_0 = a1_0 then (if a0_1 = a1_1 then (some ((strOfNums l0_2).toList == (strOfNums l1_2).toList)) else (some false)) else (some false)
set_option maxHeartbeats 8000000 in
set_option maxRecDepth 100000 in
theorem incunableref05_Same.calls (a0_0 : Int) (a0_1 : Int) (A0_2 : Option Addr) (c0_2 : Nat) (l0_2 : List Int) (a1_0 : Int) (a1_1 : Int) (A1_2 : Option Addr) (c1_2 : Nat) (l1_2 : List Int) (r : Bool) (w : World) (hr0_2 : Kd.C (Kd.int .u8) w A0_2 l0_2.length l0_2) (hc0_2 : l0_2.length ≤ c0_2) (hr1_2 : Kd.C (Kd.int .u8) w A1_2 l1_2.length l1_2) (hc1_2 : l1_2.length ≤ c1_2) (h : incunableref05_Same.f a0_0 a0_1 l0_2 a1_0 a1_1 l1_2 = some r) :
  Calls Try.prog 25 #[.agg #[.int .i64 a0_0, .int .i64 a0_1, .slice A0_2 l0_2.length c0_2], .agg #[.int .i64 a1_0, .int .i64 a1_1, .slice A1_2 l1_2.length c1_2]] w fun e w' => e = .returned (.bool r) ∧ Below w.heap.size w w' := by
 have hu24 := Try.underlying24
 have HR0_2 := Aside0.mk hr0_2
 have HC0_2 := Aside0.mk hc0_2
 clear hr0_2 hc0_2
 have HR1_2 := Aside0.mk hr1_2
 have HC1_2 := Aside0.mk hc1_2
 clear hr1_2 hc1_2
 have HB := Aside0.mk (Below.refl w.heap.size w)
 have H : (if a0_0 = a1_0 then (if a0_1 = a1_1 then (some ((strOfNums l0_2).toList == (strOfNums l1_2).toList)) else (some false)) else (some false)) = some r := h
 clear h
 by_cases c3 : a0_0 = a1_0
 ·rw [if_pos c3] at H
  have c3b0 := beq_iff_eq.mpr c3
  have c3b1 := bne_eq_false_iff_eq.mpr c3
  clear c3
  by_cases c4 : a0_1 = a1_1
  ·rw [if_pos c4] at H
   have c4b0 := beq_iff_eq.mpr c4
   have c4b1 := bne_eq_false_iff_eq.mpr c4
   clear c4
   obtain rfl := Option.some.inj H
   go_enter Try.func25, Try.ntmps25
   go_wp2_with (first | ((with_reducible refine gd 2 rfl ?_); refine bx 2 #[.int .i64 a0_0, .int .i64 a0_1, .slice A0_2 l0_2.length c0_2] 24 rfl rfl ?_; intro gb203 hg w5 hbox hb; have n_ := aC (bs hb) (aC hbox (aC (gz hg) (aE (gz hg)))); clear HB; obtain ⟨HB, BK203, GW203, GE203⟩ := n_; clear hb hbox hg) | ((with_reducible refine gd 3 rfl ?_); refine bx 3 #[.int .i64 a1_0, .int .i64 a1_1, .slice A1_2 l1_2.length c1_2] 24 rfl rfl ?_; intro gb204 hg w6 hbox hb; have n_ := aC (blk_below (bU BK203.out) hb) (aC (bs hb) (aC hbox (aC (gz hg) (aC (gz hg) (aC (gn hg (bU BK203.out)) (aE (gm hg (bU BK203.out)))))))); clear BK203 HB; obtain ⟨BK203, HB, BK204, GW204, GE204, NB203_204, NB204_203⟩ := n_; clear hb hbox hg; have hnb7 := NB203_204.out; have hnc7 := NB204_203.out; obtain ⟨hcz8_0, hcz8_1, hcz8_2, hfz8_0, hfz8_1, hfz8_2⟩ := cz3f BK203.out; obtain ⟨hcz9_0, hcz9_1, hcz9_2, hfz9_0, hfz9_1, hfz9_2⟩ := cz3f BK204.out; have hcv10 := Kd.C_string (P := Try.prog) (A := A0_2) (c := c0_2) Try.underlying22 Try.underlying5 Try.underlying9 (Kd.C_below HR0_2.out HB.out); have hcv11 := Kd.C_string (P := Try.prog) (A := A1_2) (c := c1_2) Try.underlying22 Try.underlying5 Try.underlying9 (Kd.C_below HR1_2.out HB.out)))
   go_ret
   exact ⟨re, bl⟩
  ·rw [if_neg c4] at H
   have c4b0 := beq_eq_false_iff_ne.mpr c4
   have c4b1 := bne_iff_ne.mpr c4
   obtain rfl := Option.some.inj H
   go_enter Try.func25, Try.ntmps25
   go_wp2_with (first | ((with_reducible refine gd 2 rfl ?_); refine bx 2 #[.int .i64 a0_0, .int .i64 a0_1, .slice A0_2 l0_2.length c0_2] 24 rfl rfl ?_; intro gb203 hg w12 hbox hb; have n_ := aC (bs hb) (aC hbox (aC (gz hg) (aE (gz hg)))); clear HB; obtain ⟨HB, BK203, GW203, GE203⟩ := n_; clear hb hbox hg) | ((with_reducible refine gd 3 rfl ?_); refine bx 3 #[.int .i64 a1_0, .int .i64 a1_1, .slice A1_2 l1_2.length c1_2] 24 rfl rfl ?_; intro gb204 hg w13 hbox hb; have n_ := aC (blk_below (bU BK203.out) hb) (aC (bs hb) (aC hbox (aC (gz hg) (aC (gz hg) (aC (gn hg (bU BK203.out)) (aE (gm hg (bU BK203.out)))))))); clear BK203 HB; obtain ⟨BK203, HB, BK204, GW204, GE204, NB203_204, NB204_203⟩ := n_; clear hb hbox hg; have hnb14 := NB203_204.out; have hnc14 := NB204_203.out; obtain ⟨hcz15_0, hcz15_1, hcz15_2, hfz15_0, hfz15_1, hfz15_2⟩ := cz3f BK203.out; obtain ⟨hcz16_0, hcz16_1, hcz16_2, hfz16_0, hfz16_1, hfz16_2⟩ := cz3f BK204.out))
   go_ret
   exact ⟨re, bl⟩
 ·rw [if_neg c3] at H
  have c3b0 := beq_eq_false_iff_ne.mpr c3
  have c3b1 := bne_iff_ne.mpr c3
  obtain rfl := Option.some.inj H
  go_enter Try.func25, Try.ntmps25
  go_wp2_with (first | ((with_reducible refine gd 2 rfl ?_); refine bx 2 #[.int .i64 a0_0, .int .i64 a0_1, .slice A0_2 l0_2.length c0_2] 24 rfl rfl ?_; intro gb203 hg w17 hbox hb; have n_ := aC (bs hb) (aC hbox (aC (gz hg) (aE (gz hg)))); clear HB; obtain ⟨HB, BK203, GW203, GE203⟩ := n_; clear hb hbox hg) | ((with_reducible refine gd 3 rfl ?_); refine bx 3 #[.int .i64 a1_0, .int .i64 a1_1, .slice A1_2 l1_2.length c1_2] 24 rfl rfl ?_; intro gb204 hg w18 hbox hb; have n_ := aC (blk_below (bU BK203.out) hb) (aC (bs hb) (aC hbox (aC (gz hg) (aC (gz hg) (aC (gn hg (bU BK203.out)) (aE (gm hg (bU BK203.out)))))))); clear BK203 HB; obtain ⟨BK203, HB, BK204, GW204, GE204, NB203_204, NB204_203⟩ := n_; clear hb hbox hg; have hnb19 := NB203_204.out; have hnc19 := NB204_203.out; obtain ⟨hcz20_0, hcz20_1, hcz20_2, hfz20_0, hfz20_1, hfz20_2⟩ := cz3f BK203.out; obtain ⟨hcz21_0, hcz21_1, hcz21_2, hfz21_0, hfz21_1, hfz21_2⟩ := cz3f BK204.out))
  go_ret
  exact ⟨re, bl⟩

end Go.Proofs.Ytaflekobfbgedaa.PShapePieces
