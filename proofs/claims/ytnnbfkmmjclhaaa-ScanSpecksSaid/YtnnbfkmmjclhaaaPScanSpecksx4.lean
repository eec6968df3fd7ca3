-- printed (wip/tools/myprint.py)
import Derived.Test.YtnnbfkmmjclhaaaPScanSpecksx0
import Derived.Test.YtnnbfkmmjclhaaaPScanSpecksx1
import Derived.Test.YtnnbfkmmjclhaaaPScanSpecksx2
import Derived.Test.YtnnbfkmmjclhaaaPScanSpecksx3
namespace Go.Proofs.Ytnnbfkmmjclhaaa.PScanSpecks
open Go.RowKit Go.Proofs.YtnnbfkmmjclhaaaW.PrintWords Go.Proofs.YtnnbfkmmjclhaaaW.PrintLast Go.Proofs.YtnnbfkmmjclhaaaW.PrintMore
attribute [local go_sem] max2_int min2_int max_two min_two max_three min_three max_four min_four
set_option linter.unusedVariables false
set_option linter.unusedSimpArgs false
def shape_four.f  : Option ((List (S74))) := some (([(⟨(-1), 0⟩ : S74), (⟨1, 0⟩ : S74), (⟨0, (-1)⟩ : S74), (⟨0, 1⟩ : S74)] : List (S74)))
set_option maxHeartbeats 8000000 in
set_option maxRecDepth 100000 in
theorem shape_four.calls  (r : List (S74)) (w : World) (h : shape_four.f  = some r) :
  Calls Try.prog 53 #[] w fun e w' => ∃ v0_ : Value, e = .returned (v0_) ∧ Kd.R k74 74 w' w.heap.size (fun _ => True) v0_ r ∧ Below w.heap.size w w' := by
 have hu74 := Try.underlying74
 have HB := Aside0.mk (Below.refl w.heap.size w)
 have H : (some (([(⟨(-1), 0⟩ : S74), (⟨1, 0⟩ : S74), (⟨0, (-1)⟩ : S74), (⟨0, 1⟩ : S74)] : List (S74)))) = some r := h
 clear h
 obtain ⟨y172, hy_⟩ : ∃ y_ : List (S74), y_ = (([(⟨(-1), 0⟩ : S74), (⟨1, 0⟩ : S74), (⟨0, (-1)⟩ : S74), (⟨0, 1⟩ : S74)] : List (S74))) := ⟨_, rfl⟩
 replace H : (some y172) = some r := rh
 have Ny172 := aE hy_
 clear hy_
 obtain rfl := Option.some.inj H
 go_enter Try.func53, Try.ntmps53
 go_wp2_with (first | ((with_reducible refine gd 5 rfl ?_); refine Kd.R_lit k74 _ 74 ?hg (N := 5) ?hd (xs := ([(⟨(-1), 0⟩ : S74), (⟨1, 0⟩ : S74), (⟨0, (-1)⟩ : S74), (⟨0, 1⟩ : S74)] : List (S74))) (inner := [.int .i64 (-1), .int .i64 0, .int .i64 1, .int .i64 0, .int .i64 0, .int .i64 (-1), .int .i64 0, .int .i64 1]) (ok := fun _ => True) (okp := fun _ => True) ?hr ?hp (fun _ hk => hk) trivial (Below.refl _ _) (Nat.le_refl _) (by simp) ?_; (case hd => rfl); (case hg => rfl); (case hr => first | (go_simp; done) | (go_simp; rfl)); (case hp => exact (Reps.c2 (show Kd.M k74 _ _ _ (⟨(-1), 0⟩ : S74) [.int .i64 (-1), .int .i64 0] from (k74_mkM _ _ _ (⟨(-1), 0⟩ : S74) )) (Reps.c2 (show Kd.M k74 _ _ _ (⟨1, 0⟩ : S74) [.int .i64 1, .int .i64 0] from (k74_mkM _ _ _ (⟨1, 0⟩ : S74) )) (Reps.c2 (show Kd.M k74 _ _ _ (⟨0, (-1)⟩ : S74) [.int .i64 0, .int .i64 (-1)] from (k74_mkM _ _ _ (⟨0, (-1)⟩ : S74) )) (Reps.c2 (show Kd.M k74 _ _ _ (⟨0, 1⟩ : S74) [.int .i64 0, .int .i64 1] from (k74_mkM _ _ _ (⟨0, 1⟩ : S74) )) (Reps.none _ _)))))); intro v173 w1 ho2 hb hg_ hnew_; clear hg_ hnew_; (first | rw [← Ny172.out] at ho2 | (simp only [Int.reduceToNat] at ho2; rw [← Ny172.out] at ho2)); have n_ := aC (Kd.R_lower ho2 bz) (aE (bs hb)); clear HB; obtain ⟨HO174, HB⟩ := n_; clear hb ho2))
 go_ret
 exact ⟨_, re, rU HO174.out, bl⟩
def shape_eight.f  : Option ((List (S74))) := (shape_four.f).bind fun t175 => ((some (([(⟨(-1), (-1)⟩ : S74), (⟨1, (-1)⟩ : S74), (⟨(-1), 1⟩ : S74), (⟨1, 1⟩ : S74)] : List (S74)) : List (S74))).bind fun y178 => (if t175.length + y178.length < 8796093022208 then (some (t175 ++ y178)) else (none)))
set_option maxHeartbeats 8000000 in
set_option maxRecDepth 100000 in
theorem shape_eight.calls  (r : List (S74)) (w : World) (h : shape_eight.f  = some r) :
  Calls Try.prog 39 #[] w fun e w' => ∃ v0_ : Value, e = .returned (v0_) ∧ Kd.R k74 74 w' w.heap.size (fun _ => True) v0_ r ∧ Below w.heap.size w w' := by
 have hu74 := Try.underlying74
 have HB := Aside0.mk (Below.refl w.heap.size w)
 have H := h
 unfold shape_eight.f at H
 clear h
 obtain ⟨t175, A1, H⟩ := oB H
 try dsimp only at H
 obtain ⟨y178, hy_⟩ : ∃ y_ : List (S74), y_ = (([(⟨(-1), (-1)⟩ : S74), (⟨1, (-1)⟩ : S74), (⟨(-1), 1⟩ : S74), (⟨1, 1⟩ : S74)] : List (S74))) := ⟨_, rfl⟩
 replace H : (if t175.length + y178.length < 8796093022208 then (some (t175 ++ y178)) else (none)) = some r := rh
 have Ny178 := aE hy_
 clear hy_
 by_cases c2 : t175.length + y178.length < 8796093022208
 ·rw [if_pos c2] at H
  have LMc2 := Aside0.mk c2
  clear c2
  obtain ⟨y181, hy_⟩ : ∃ y_ : List (S74), y_ = (t175 ++ y178) := ⟨_, rfl⟩
  replace H : (some y181) = some r := rh
  have Ny181 := aE hy_
  clear hy_
  obtain rfl := Option.some.inj H
  go_enter Try.func39, Try.ntmps39
  go_wp2_with (first | ((with_reducible refine gf 53 rfl ?_); refine gL (some 1) rfl rfl Try.func53 rfl #[] rfl ?_; (with_reducible refine (shape_four.calls  t175 _ A1.out).mono ?_); rintro e w3 ⟨v176, rfl, ho0, hb⟩; refine ⟨_, rfl, ?_⟩; have n_ := aC (Kd.R_lower ho0 bz) (aE (bs hb)); clear HB; obtain ⟨HO177, HB⟩ := n_) | ((with_reducible refine gd 6 rfl ?_); refine Kd.R_lit k74 _ 74 ?hg (N := 6) ?hd (xs := ([(⟨(-1), (-1)⟩ : S74), (⟨1, (-1)⟩ : S74), (⟨(-1), 1⟩ : S74), (⟨1, 1⟩ : S74)] : List (S74))) (inner := [.int .i64 (-1), .int .i64 (-1), .int .i64 1, .int .i64 (-1), .int .i64 (-1), .int .i64 1, .int .i64 1, .int .i64 1]) (ok := fun _ => True) (okp := fun _ => True) ?hr ?hp (fun _ hk => hk) trivial (Below.refl _ _) (Nat.le_refl _) (by simp) ?_; (case hd => rfl); (case hg => rfl); (case hr => first | (go_simp; done) | (go_simp; rfl)); (case hp => exact (Reps.c2 (show Kd.M k74 _ _ _ (⟨(-1), (-1)⟩ : S74) [.int .i64 (-1), .int .i64 (-1)] from (k74_mkM _ _ _ (⟨(-1), (-1)⟩ : S74) )) (Reps.c2 (show Kd.M k74 _ _ _ (⟨1, (-1)⟩ : S74) [.int .i64 1, .int .i64 (-1)] from (k74_mkM _ _ _ (⟨1, (-1)⟩ : S74) )) (Reps.c2 (show Kd.M k74 _ _ _ (⟨(-1), 1⟩ : S74) [.int .i64 (-1), .int .i64 1] from (k74_mkM _ _ _ (⟨(-1), 1⟩ : S74) )) (Reps.c2 (show Kd.M k74 _ _ _ (⟨1, 1⟩ : S74) [.int .i64 1, .int .i64 1] from (k74_mkM _ _ _ (⟨1, 1⟩ : S74) )) (Reps.none _ _)))))); intro v179 w4 ho5 hb hg_ hnew_; clear hg_ hnew_; (first | rw [← Ny178.out] at ho5 | (simp only [Int.reduceToNat] at ho5; rw [← Ny178.out] at ho5)); have n_ := aC (Kd.R_elder' (rU HO177.out) (Kd.R_base ho5) hb) (aC (Kd.R_lower (Kd.R_new' ho5 (Kd.R_lt (rU HO177.out))) bz) (aE (bs hb))); clear HO177 HB; obtain ⟨HO177, HO180, HB⟩ := n_; clear hb ho5; obtain ⟨Ao7, co7, eo7⟩ := Kd.R_slice HO180.out; subst eo7) | ((with_reducible refine gate_builtin (b := .append) (xs := #[.tmp 1, .tmp 6]) rfl ?_); at_builtin; refine Kd.R_append_rows k74 (w0 := w) w.heap.size rfl (.tmp 1) (.tmp 6) 71 74 (.agg #[(.int .i64 0), (.int .i64 0)]) 16 rfl Try.underlying71 info74 rfl (by decide) (by omega) v176 t175 y178 _ _ _ (fun k_ => some k_ ≠ (.slice Ao7 y178.length co7 : Value).ownBlock) (fun _ => False) rfl rfl ?aO ?aR (fun _ _ h => h) (fun _ h => h.elim) ?aF ?aB ?aS ?aL ?_; (case aR => repeat (first | exact (Kd.R_reads' HO180.out).2.2 | (with_reducible refine Kd.C_alloc ?_ _) | (with_reducible refine Kd.C_drewN ?_ _) | (with_reducible refine Kd.C_drew ?_))); (case aB => exact bl); (case aF => exact (fun k_ hk => Kd.fresh' (Kd.R_lt (rU HO180.out)) k_ hk)); (case aO => exact (rU (Kd.R_mono HO177.out (fun _ hk => hk.2)))); (case aS => exact bz); (case aL => have := LMc2.out; omega); intro v182 w6 ho hb hg hat; rw [← Ny181.out] at ho; have n_ := aC (Kd.R_after (ok := (fun _ => True)) (rU HO180.out) hg hat) (aC hb (aE ho)); clear HO180 HB HO177; obtain ⟨HO180, HB, HO183⟩ := n_; clear ho hb hg hat))
  go_ret
  exact ⟨_, re, rU (Kd.R_mono HO183.out (fun _ hk => trivial)), bl⟩
 ·rw [if_neg c2] at H
  exact absurd H (by simp)
mutual
def shape_components.l0 : Nat → List (S35) → List Bool → List Int → Int → Int → Int → Int → List Int → Option ((List (S35)))
 | 0, _, _, _, _, _, _, _, _ => none
 | k + 1, x3, x4, x12, x13, x14, x185000, x185001, x185002 => if x14 < x13 then (if 0 ≤ x14 then (if x14 < (x12.length : Int) then (if (rd x12 x14) = 1 then (if x14 < (x4.length : Int) then (shape_components.j1 k x3 x4 x14 x12 x13 x14 (!(rdOf false x4 x14)) x185000 x185001 x185002) else (none)) else (shape_components.j1 k x3 x4 x14 x12 x13 x14 false x185000 x185001 x185002)) else (none)) else (none)) else (some x3)
def shape_components.j1 : Nat → List (S35) → List Bool → Int → List Int → Int → Int → Bool → Int → Int → List Int → Option ((List (S35)))
 | 0, _, _, _, _, _, _, _, _, _, _ => none
 | k + 1, x3, x4, x5, x12, x13, x14, x27, x185000, x185001, x185002 => if x27 = true then (if x185000 = 0 then (none) else ((shape_eight.f).bind fun t190 => ((shape_flood.f k x185000 x185001 x185002 x4 (Int.tmod x5 x185000) (wrap64 (Int.tdiv x5 x185000)) t190).bind fun bt193 => ((shape_placed.f k bt193.1).bind fun bt197 => (if x3.length < 2513169434916 then (shape_components.l0 k (x3 ++ [(⟨(⟨bt197.1, bt197.2.1, bt197.2.2.1⟩ : S24), bt197.2.2.2.1, bt197.2.2.2.2⟩ : S35)]) bt193.2 x12 x13 (wrap64 (x14 + 1)) x185000 x185001 x185002) else (none)))))) else (shape_components.l0 k x3 x4 x12 x13 (wrap64 (x14 + 1)) x185000 x185001 x185002)
end
def shape_components.f (k : Nat) (a0_0 : Int) (a0_1 : Int) (l0_2 : List Int) : Option ((List (S35))) := if 0 ≤ (l0_2.length : Int) then (if ((l0_2.length : Int) : Int).toNat ≤ 281474976710656 then (shape_components.l0 k ([] : List (S35)) (List.replicate ((l0_2.length : Int) : Int).toNat false) l0_2 (l0_2.length : Int) 0 a0_0 a0_1 l0_2) else (none)) else (none)
theorem shape_components.mono_l : ∀ k, (∀ y0 y1 y2 y3 y4 y5 y6 y7, LeO (shape_components.l0 k y0 y1 y2 y3 y4 y5 y6 y7) (shape_components.l0 (k + 1) y0 y1 y2 y3 y4 y5 y6 y7)) ∧ (∀ y0 y1 y2 y3 y4 y5 y6 y7 y8 y9, LeO (shape_components.j1 k y0 y1 y2 y3 y4 y5 y6 y7 y8 y9) (shape_components.j1 (k + 1) y0 y1 y2 y3 y4 y5 y6 y7 y8 y9))
 | 0 => ⟨fun _ _ _ _ _ _ _ _ r h => by simp [shape_components.l0] at h, fun _ _ _ _ _ _ _ _ _ _ r h => by simp [shape_components.j1] at h⟩
 | k + 1 => by
  obtain ⟨ih0, ih1⟩ := shape_components.mono_l k
  refine ⟨?_, ?_⟩
  ·intro y0 y1 y2 y3 y4 y5 y6 y7
   unfold shape_components.l0
   repeat' first
   | (with_reducible exact ih0 _ _ _ _ _ _ _ _)
   | (with_reducible exact ih1 _ _ _ _ _ _ _ _ _ _)
   | (with_reducible exact shape_flood.mono _ _ _ _ _ _ _ _)
   | (with_reducible exact shape_placed.mono _ _)
   | (with_reducible first | exact LeO.refl _ | exact LeO.none _ | refine LeO.ite ?_ ?_ | refine LeO.bind ?_ (fun _ => ?_))
  ·intro y0 y1 y2 y3 y4 y5 y6 y7 y8 y9
   unfold shape_components.j1
   repeat' first
   | (with_reducible exact ih0 _ _ _ _ _ _ _ _)
   | (with_reducible exact ih1 _ _ _ _ _ _ _ _ _ _)
   | (with_reducible exact shape_flood.mono _ _ _ _ _ _ _ _)
   | (with_reducible exact shape_placed.mono _ _)
   | (with_reducible first | exact LeO.refl _ | exact LeO.none _ | refine LeO.ite ?_ ?_ | refine LeO.bind ?_ (fun _ => ?_))
theorem shape_components.mono : ∀ a0 a1 a2 k, LeO (shape_components.f k a0 a1 a2) (shape_components.f (k + 1) a0 a1 a2) := by
 intro a0 a1 a2 k
 obtain ⟨ih0, ih1⟩ := shape_components.mono_l k
 unfold shape_components.f
 repeat' first
   | (with_reducible exact ih0 _ _ _ _ _ _ _ _)
   | (with_reducible exact ih1 _ _ _ _ _ _ _ _ _ _)
   | (with_reducible exact shape_flood.mono _ _ _ _ _ _ _ _)
   | (with_reducible exact shape_placed.mono _ _)
   | (with_reducible first | exact LeO.refl _ | exact LeO.none _ | refine LeO.ite ?_ ?_ | refine LeO.bind ?_ (fun _ => ?_))
def shape_components.T7 : Bool × List (List Nat × List Nat) := (true, [([], []), ([], []), ([], []), ([], []), ([], []), ([4], [4]), ([3, 5], [3, 5]), ([], []), ([], []), ([8], [8]), ([7, 9], [7, 9]), ([6, 10], [6, 10]), ([], []), ([1, 2, 11, 12, 12], [1, 2, 11, 12]), ([13, 13], [13]), ([14], [14]), ([0, 15, 14], [0, 15]), ([16, 16, 0, 1, 2, 3, 4, 5, 6, 7, 8, 9, 10, 11, 12, 13, 14, 15, 16], [0, 16])])
def shape_components.B7 : List Nat := [0, 0, 0, 0, 0, 16, 56, 0, 0, 256, 896, 2040, 0, 8190, 16382, 32766, 65535, 131071]
theorem shape_components.tab7 : rtab .any (opsOf Try.f25 7) = shape_components.T7 := by kernel_rfl
theorem shape_components.bits7 : waitsOk shape_components.T7.2 shape_components.B7 = true := by kernel_rfl
set_option maxHeartbeats 8000000 in
set_option maxRecDepth 100000 in
theorem shape_components.calls (k : Nat) (a0_0 : Int) (a0_1 : Int) (A0_2 : Option Addr) (c0_2 : Nat) (l0_2 : List Int) (r : List (S35)) (w : World) (hr0_2 : Kd.C (Kd.int .u8) w A0_2 l0_2.length l0_2) (hc0_2 : l0_2.length ≤ c0_2) (h : shape_components.f k a0_0 a0_1 l0_2 = some r) :
  Calls Try.prog 25 #[.agg #[.int .i64 a0_0, .int .i64 a0_1, .slice A0_2 l0_2.length c0_2]] w fun e w' => ∃ v0_ : Value, e = .returned (v0_) ∧ Kd.S k35 35 w' w.heap.size (fun _ => True) v0_ r ∧ Below w.heap.size w w' := by
 have hu24 := Try.underlying24
 have hu74 := Try.underlying74
 have HR0_2 := Aside0.mk hr0_2
 have HC0_2 := Aside0.mk hc0_2
 clear hr0_2 hc0_2
 have HB := Aside0.mk (Below.refl w.heap.size w)
 have H := h
 unfold shape_components.f at H
 clear h
 by_cases c2 : 0 ≤ (l0_2.length : Int)
 ·rw [if_pos c2] at H
  have c2b0 := eq_true c2
  have c2b1 := decide_eq_true c2
  clear c2
  by_cases c3 : ((l0_2.length : Int) : Int).toNat ≤ 281474976710656
  ·rw [if_pos c3] at H
   have c3b0 := eq_true c3
   have c3b1 := decide_eq_true c3
   clear c3
   obtain ⟨y185, hy_⟩ : ∃ y_ : List Bool, y_ = (List.replicate ((l0_2.length : Int) : Int).toNat false) := ⟨_, rfl⟩
   replace H : (shape_components.l0 k ([] : List (S35)) y185 l0_2 (l0_2.length : Int) 0 a0_0 a0_1 l0_2) = some r := rh
   have Ny185 := aE hy_
   clear hy_
   have H' := Aside0.mk H
   clear H
   go_enter Try.func25, Try.ntmps25
   go_wp2_with (first | ((with_reducible refine gd 1 rfl ?_); refine bx 1 #[.int .i64 a0_0, .int .i64 a0_1, .slice A0_2 l0_2.length c0_2] 24 rfl rfl ?_; intro gb184 hg w4 hbox hb; have n_ := aC (bs hb) (aC hbox (aC (gz hg) (aE (gz hg)))); clear HB; obtain ⟨HB, BK184, GW184, GE184⟩ := n_; clear hb hbox hg; obtain ⟨hcz5_0, hcz5_1, hcz5_2, hfz5_0, hfz5_1, hfz5_2⟩ := cz3f BK184.out) | ((with_reducible refine gd 10 rfl ?_); refine Kd.R_make Kd.bool _ 4 rfl (N := 10) rfl 69 _ _ rfl (l0_2.length : Int) rfl rfl Try.underlying69 (.bool false) 1 info4 rfl (by decide) (by omega) false (ok := fun _ => True) (okp := fun _ => True) rfl (fun _ hk => hk) trivial (dt) (Nat.le_trans (Nat.mul_le_mul_right _ (dt : (l0_2.length : Int).toNat ≤ 281474976710656)) (by omega)) (Below.refl _ _) (Nat.le_refl _) ?_; intro v186 w6 ho7 hb hg_ hnew_; clear hg_ hnew_; (first | rw [← Ny185.out] at ho7 | (simp only [Int.reduceToNat] at ho7; rw [← Ny185.out] at ho7)); have n_ := aC (Kd.R_lower ho7 bz) (aC (blk_below (bU BK184.out) hb) (aE (bs hb))); clear BK184 HB; obtain ⟨HO187, BK184, HB⟩ := n_; clear hb ho7; obtain ⟨hcz8_0, hcz8_1, hcz8_2, hfz8_0, hfz8_1, hfz8_2⟩ := cz3f BK184.out))
   go_loopg [3, 14] k (fun kq v3 v14 w' => ∃ (x3_1 : List (S35)) (x4_1 : List Bool) (x14_1 : Int), v14 = .int .i64 x14_1 ∧ Aside0 (shape_components.l0 kq x3_1 x4_1 l0_2 (l0_2.length : Int) x14_1 a0_0 a0_1 l0_2 = some r) ∧ Aside0 (kq ≤ k) ∧ Aside0 (Kd.S k35 35 w' w.heap.size (fun _ => True) v3 x3_1) ∧ Aside0 (Kd.R Kd.bool 4 w' w.heap.size (fun _ => True) v186 x4_1) ∧ Aside0 (w'.heap[gb184]? = some (.cells #[.int .i64 a0_0, .int .i64 a0_1, (.slice A0_2 l0_2.length c0_2)] 24 (0, 0))) ∧ Aside0 (Below w.heap.size w w'))
   case atStart => exact ⟨(([] : List (S35))), (y185), (0), rq, H', ⟨Nat.le_refl _⟩, ⟨by first | exact Kd.S_nil _ _ _ _ _ | exact Kd.N_nil _ _ _ _ _ | exact Kd.V_nil _ _ _ _ _ | exact Kd.Q_nil _ _ _ _ _ | exact Kd.R_nil _ _ _ _ _⟩, ⟨rU HO187.out⟩, ⟨by exact bU BK184.out⟩, ⟨bl⟩⟩
   case round =>
    clear H'
    obtain ⟨x3_1, x4_1, x14_1, rfl, HA, HK1, HO_3, HO_4, BK184, HB⟩ := hrel
    cases gk with
    | zero => exact absurd HA.out (by simp [shape_components.l0])
    | succ k1 =>
     have H := HA.out
     clear HA
     simp only [shape_components.l0] at H
     rcases iL H with H1 | H1 <;> clear H <;> obtain ⟨H, c9b0⟩ := H1
     ·by_cases c10 : 0 ≤ x14_1
      ·rw [if_pos c10] at H
       have c10b0 := decide_eq_true c10
       clear c10
       by_cases c11 : x14_1 < (l0_2.length : Int)
       ·rw [if_pos c11] at H
        have c11b0 := decide_eq_true c11
        clear c11
        have HC12 := Aside0.mk H
        clear H
        have p188 : 0 ≤ (x14_1 : Int) := dt
        have q188 : x14_1 < (l0_2.length : Int) := dt
        obtain ⟨ad188, e188, hx188_0⟩ := Kd.at_int HR0_2.out x14_1 p188 q188
        cases e188
        replace hx188_0 := hcB HB.out hx188_0
        replace p188 := eq_true p188
        replace q188 := eq_true q188
        go_upto_region 6 with (fail)
        go_cut [27] (fun v27 wc => ∃ (kq : Nat) (x27_11 : Bool), v27 = .bool x27_11 ∧ Aside0 (shape_components.j1 kq x3_1 x4_1 x14_1 l0_2 (l0_2.length : Int) x14_1 x27_11 a0_0 a0_1 l0_2 = some r) ∧ Aside0 (kq ≤ k1) ∧ Aside0 (Kd.S k35 35 wc w.heap.size (fun _ => True) u3 x3_1) ∧ Aside0 (Kd.R Kd.bool 4 wc w.heap.size (fun _ => True) v186 x4_1) ∧ Aside0 (wc.heap[gb184]? = some (.cells #[.int .i64 a0_0, .int .i64 a0_1, (.slice (some ad188) l0_2.length c0_2)] 24 (0, 0))) ∧ Aside0 (Below w.heap.size w wc))
        case first =>
         have H := HC12.out
         clear HC12
         rcases iE H with H1 | H1 <;> clear H <;> obtain ⟨H, c13b0, c13b1, c13⟩ := H1
         ·(first | rw [c13b0] | (simp only [i64_w, i32_w]; rw [c13b0]) | skip)
          by_cases c14 : x14_1 < (x4_1.length : Int)
          ·rw [if_pos c14] at H
           have c14b0 := decide_eq_true c14
           clear c14
           have H' := Aside0.mk H
           clear H
           obtain ⟨Ao15, co15, eo15⟩ := Kd.R_slice HO_4.out
           subst eo15
           have p189 : 0 ≤ (x14_1 : Int) := dt
           have q189 : x14_1 < (x4_1.length : Int) := dt
           obtain ⟨ad189, e189, hx189_0⟩ := Kd.at_bool (Kd.R_reads' HO_4.out).2.2 x14_1 p189 q189
           cases e189
           replace p189 := eq_true p189
           replace q189 := eq_true q189
           go_wp2
           go_meet
           case rel => exact ⟨_, (!(rdOf false x4_1 x14_1)), rq, H', ⟨by have := HK1.out; first | omega | exact Nat.le_refl _⟩, ⟨by (with_reducible repeat (first | apply Kd.S_alloc | apply Kd.S_drewN | apply Kd.S_drew)); exact HO_3.out⟩, ⟨rU HO_4.out⟩, ⟨by exact bU BK184.out⟩, ⟨bl⟩⟩
          ·rw [if_neg c14] at H
           exact absurd H (by simp)
         ·(first | rw [c13b0] | (simp only [i64_w, i32_w]; rw [c13b0]) | skip)
          have H' := Aside0.mk H
          clear H
          go_wp2
          go_meet
          case rel => exact ⟨_, (false), rq, H', ⟨by have := HK1.out; first | omega | exact Nat.le_refl _⟩, ⟨by (with_reducible repeat (first | apply Kd.S_alloc | apply Kd.S_drewN | apply Kd.S_drew)); exact HO_3.out⟩, ⟨rU HO_4.out⟩, ⟨by exact bU BK184.out⟩, ⟨bl⟩⟩
        case rest =>
         clear HC12
         obtain ⟨kq, x27_11, rfl, HA, HJ11, HO_3, HO_4, BK184, HB⟩ := hcut
         cases kq with
         | zero => exact absurd HA.out (by simp [shape_components.j1])
         | succ kj11 =>
          have H := HA.out
          clear HA
          simp only [shape_components.j1] at H
          by_cases c16 : x27_11 = true
          ·subst c16
           rw [if_pos rfl] at H
           by_cases c17 : a0_0 = 0
           ·rw [if_pos c17] at H
            exact absurd H (by simp)
           ·rw [if_neg c17] at H
            have c17b0 := beq_eq_false_iff_ne.mpr c17
            have c17b1 := bne_iff_ne.mpr c17
            obtain ⟨t190, A18, H⟩ := oB H
            try dsimp only at H
            obtain ⟨⟨t193, t196⟩, A19, H⟩ := oB H
            try dsimp only at H
            obtain ⟨⟨t197, t198, t199, t202, t203⟩, A20, H⟩ := oB H
            try dsimp only at H
            by_cases c21 : x3_1.length < 2513169434916
            ·rw [if_pos c21] at H
             have LMc21 := Aside0.mk c21
             clear c21
             obtain ⟨y204, hy_⟩ : ∃ y_ : List (S35), y_ = (x3_1 ++ [(⟨(⟨t197, t198, t199⟩ : S24), t202, t203⟩ : S35)]) := ⟨_, rfl⟩
             replace H : (shape_components.l0 kj11 y204 t196 l0_2 (l0_2.length : Int) (wrap64 (x14_1 + 1)) a0_0 a0_1 l0_2) = some r := rh
             have Ny204 := aE hy_
             clear hy_
             have H' := Aside0.mk H
             clear H
             try go_wp2
             have n_ := aC (Kd.S_drew HO_3.out) (aC (Kd.R_drew HO_4.out) (aC (blk_drew BK184.out) (aE (below_drew1 HB.out))))
             clear HO_3 HO_4 BK184 HB
             obtain ⟨HO_3, HO_4, BK184, HB⟩ := n_
             refine st 18 (fun w' => w'.cell? ⟨gb184, 0, none⟩ = some (.int .i64 a0_0) ∧ w'.cell? ⟨gb184, 1, none⟩ = some (.int .i64 a0_1) ∧ w'.cell? ⟨gb184, 2, none⟩ = some (.slice (some ad188) l0_2.length c0_2)) [] (bv 18 0) shape_components.tab7 shape_components.bits7 ⟨kc0 BK184.out, kc1 BK184.out, kc2 BK184.out⟩ (fun hHeld HT_ HW_ => ?_)
             generalize wc.drew = w22 at HO_3 HO_4 BK184 HB hHeld ⊢
             refine pu 0 28 (bv 18 1) HT_ rfl rfl ?_
             refine pu 2 30 (bv 18 5) HT_ rfl rfl ?_
             refine pu 3 31 (bv 18 13) HT_ rfl rfl ?_
             refine pu 4 32 (bv 18 29) HT_ rfl rfl ?_
             refine pu 7 35 (bv 18 157) HT_ rfl rfl ?_
             refine pu 8 36 (bv 18 413) HT_ rfl rfl ?_
             refine tk 1 29 (bv 18 415) HT_ HW_ hHeld rfl rfl (by rintro w' ⟨s0, s1, s2⟩; exact yl) ?_
             refine tk 5 33 (bv 18 447) HT_ HW_ hHeld rfl rfl (by rintro w' ⟨s0, s1, s2⟩; exact yl) ?_
             refine pu 6 34 (bv 18 511) HT_ rfl rfl ?_
             refine tk 9 37 (bv 18 1023) HT_ HW_ hHeld rfl rfl (by rintro w' ⟨s0, s1, s2⟩; exact yl) ?_
             refine pu 10 38 (bv 18 2047) HT_ rfl rfl ?_
             refine pu 11 39 (bv 18 4095) HT_ rfl rfl ?_
             refine one_ (i := 12) (N := some 40) (bv 18 8191) rfl rfl (one_of HT_.out (by kernel_rfl)) (by decide) (fun K hK => ?_)
             refine gK Try.func39 rfl #[] rfl rfl ?_
             with_reducible refine (shape_eight.calls  t190 _ A18.out).mono ?_
             rintro e w23 ⟨v191, rfl, ho0, hb⟩
             refine ⟨_, rfl, ?_⟩
             have n_ := aC (Kd.S_below (by (with_reducible repeat (first | apply Kd.S_alloc | apply Kd.S_drewN | apply Kd.S_drew)); exact HO_3.out) hb) (aC (Kd.R_below (rU HO_4.out) hb) (aC (Kd.R_lower ho0 bz) (aC (blk_below (bU BK184.out) hb) (aE (bs hb)))))
             clear HO_3 HO_4 BK184 HB
             obtain ⟨HO_3, HO_4, HO192, BK184, HB⟩ := n_
             (try clear hb)
             (try clear hb2)
             (try clear hk)
             (try clear hi)
             (try clear ho0)
             obtain ⟨Ao24, co24, eo24⟩ := Kd.R_slice HO_4.out
             (first | subst eo24 | (injection eo24 with f1_ f2_ f3_; have f4_ := f1_.symm; have f5_ := f3_.symm; clear f1_ f2_ f3_; subst f4_; subst f5_))
             obtain ⟨Ao25, co25, eo25⟩ := Kd.R_slice HO192.out
             (first | subst eo25 | (injection eo25 with f1_ f2_ f3_; have f4_ := f1_.symm; have f5_ := f3_.symm; clear f1_ f2_ f3_; subst f4_; subst f5_))
             refine hK.out _ _ ⟨kc0 BK184.out, kc1 BK184.out, kc2 BK184.out⟩ (fun hHeld => ?_)
             clear hK K
             refine nm (some 40) ?_
             refine one_ (i := 13) (N := some 41) (bv 18 16383) rfl rfl (one_of HT_.out (by kernel_rfl)) (by decide) (fun K hK => ?_)
             refine gK Try.func38 rfl #[.agg #[.int .i64 a0_0, .int .i64 a0_1, .slice (some ad188) l0_2.length c0_2], .slice Ao24 x4_1.length co24, .agg #[.int .i64 (Int.tmod x14_1 a0_0), .int .i64 (wrap64 (Int.tdiv x14_1 a0_0))], .slice Ao25 t190.length co25] rfl rfl ?_
             with_reducible refine (shape_flood.calls kj11 a0_0 a0_1 _ _ l0_2 (fun k_ => some k_ = (.slice Ao24 x4_1.length co24 : Value).ownBlock) (.slice Ao24 x4_1.length co24) x4_1 (Int.tmod x14_1 a0_0) (wrap64 (Int.tdiv x14_1 a0_0)) _ _ t190 t193 t196 w _ ?side1 ?side2 ?side3 ?side4 ?side5 ?side6 A19.out).mono ?_
             (case side1 => repeat (first | (with_reducible first | exact HB.out | apply below_alloc | apply pw_below_drewN | apply below_drew1 | refine below_set ?_ GE184.out) | exact HB.out))
             (case side2 => exact Kd.C_kept_came (Kd.heap_int .u8) HR0_2.out bl (fun k_ hs_ => (fun e_ => Kd.R_base HO_4.out k_ e_.symm) hs_))
             (case side3 => exact HC0_2.out)
             (case side4 => exact Kd.R_tight rfl HO_4.out)
             (case side5 => exact Kd.C_kept_own ((Kd.R_apart' HO192.out (Kd.R_typed HO_4.out) (by decide))) (fun k_ hk_ hs_ => (hk_.2) hs_))
             (case side6 => exact (Kd.R_reads' HO192.out).2.1)
             rintro e w26 ⟨v194, rfl, ho0, hy0, hb, hkp⟩
             refine ⟨_, rfl, ?_⟩
             have n_ := aC (Kd.S_mono (ok' := fun k_ => True) (Kd.S_keptB ((Kd.S_apart' HO_3.out (Kd.R_typed HO_4.out) (by decide))) hkp (fun k_ hk_ hs_ => (hk_.2) hs_)) (fun k_ hk_ => trivial)) (aC (Kd.R_reok rfl hy0 (fun k_ e_ => HO_4.out.1 k_ e_)) (aC (blk_kept (bU BK184.out) hkp (fun hs_ => (fun e_ => (Kd.R_ne HO_4.out BK184.out (by decide)) e_) hs_)) (aC (Kd.R_mono (ok' := fun k_ => some k_ ≠ (v194 : Value).ownBlock) (Kd.R_keptB ((Kd.R_apart' HO192.out (Kd.R_typed HO_4.out) (by decide))) hkp (fun k_ hk_ hs_ => (hk_.2) hs_)) (fun k_ hk_ => fun e_ => Or.elim (ho0.1 k_ e_.symm) (fun hs_ => hk_.2.1 hs_) (fun hn_ => Nat.not_le.2 hk_.2.2 hn_))) (aC (Kd.R_mono (ok' := fun k_ => some k_ ≠ (.slice Ao25 t190.length co25 : Value).ownBlock) ho0 (fun k_ hk_ => Or.elim hk_ (fun hs_ => fun e_ => ((((Kd.R_apart' HO192.out (Kd.R_typed HO_4.out) (by decide))).1 k_ e_.symm).2) hs_) (fun hn_ => (Kd.fresh' (Kd.R_lt (rU HO192.out)) k_ hn_)))) (aE hb)))))
             clear HO_3 HO_4 BK184 HO192 HB
             obtain ⟨HO_3, HO_4, BK184, HO192, HO195, HB⟩ := n_
             (try clear hb)
             (try clear hkp)
             (try clear ho0)
             (try clear hy0)
             obtain ⟨Ao27, co27, eo27⟩ := Kd.R_slice HO195.out
             (first | subst eo27 | (injection eo27 with f1_ f2_ f3_; have f4_ := f1_.symm; have f5_ := f3_.symm; clear f1_ f2_ f3_; subst f4_; subst f5_))
             refine hK.out _ _ ⟨kc0 BK184.out, kc1 BK184.out, kc2 BK184.out⟩ (fun hHeld => ?_)
             clear hK K
             refine nm (some 41) ?_
             refine one_ (i := 14) (N := some 42) (bv 18 32767) rfl rfl (one_of HT_.out (by kernel_rfl)) (by decide) (fun K hK => ?_)
             refine gK Try.func37 rfl #[.slice Ao27 t193.length co27] rfl rfl ?_
             with_reducible refine (shape_placed.calls kj11 _ _ t193 t197 t198 t199 t202 t203 _ ?side1 ?side2 A20.out).mono ?_
             (case side1 => exact cU (Kd.R_reads' HO195.out).2.2)
             (case side2 => exact (Kd.R_reads' HO195.out).2.1)
             rintro e w28 ⟨v200, rfl, ho0, hb⟩
             refine ⟨_, rfl, ?_⟩
             have n_ := aC (Kd.S_elder' (by (with_reducible repeat (first | apply Kd.S_alloc | apply Kd.S_drewN | apply Kd.S_drew)); exact HO_3.out) (Kd.R_base ho0) hb) (aC (Kd.R_below (rU HO_4.out) hb) (aC (Kd.R_below (rU HO192.out) hb) (aC (Kd.R_below (rU HO195.out) hb) (aC (Kd.R_lower ho0 bz) (aC (blk_below (bU BK184.out) hb) (aE (bs hb)))))))
             clear HO_3 HO_4 HO192 HO195 BK184 HB
             obtain ⟨HO_3, HO_4, HO192, HO195, HO201, BK184, HB⟩ := n_
             (try clear hb)
             (try clear hb2)
             (try clear hk)
             (try clear hi)
             (try clear ho0)
             obtain ⟨Ao30, co30, eo30⟩ := Kd.R_slice HO201.out
             (first | subst eo30 | (injection eo30 with f1_ f2_ f3_; have f4_ := f1_.symm; have f5_ := f3_.symm; clear f1_ f2_ f3_; subst f4_; subst f5_))
             refine hK.out _ _ ⟨kc0 BK184.out, kc1 BK184.out, kc2 BK184.out⟩ (fun hHeld => ?_)
             clear hK K
             refine nm (some 42) ?_
             refine one_ (i := 15) (N := some 43) (bv 18 65535) rfl rfl (one_of HT_.out (by kernel_rfl)) (by decide) (fun K hK => ?_)
             refine value_ (w1 := ?_) (v := ?_) (by rfl) rfl ?_ ?_
             rotate_left 2
             ·go_simp
              constructor
              ·rfl
              ·rfl
             refine hK.out _ _ ⟨(blk_cell (blk_alloc BK184.out _) 0).trans rfl, (blk_cell (blk_alloc BK184.out _) 1).trans rfl, (blk_cell (blk_alloc BK184.out _) 2).trans rfl⟩ (fun hHeld => ?_)
             clear hK K
             refine nm (some 43) ?_
             refine one_ (i := 16) (N := some 44) (bv 18 131071) rfl rfl (one_of HT_.out (by kernel_rfl)) (by decide) (fun K hK => ?_)
             refine Kd.S_append_step k35 (w0 := w) w.heap.size (by rfl) (.tmp 28) (.tmp 43) 30 35 (.agg #[(.int .i64 0), (.int .i64 0), (.slice none 0 0), (.int .i64 0), (.int .i64 0)]) 56 rfl Try.underlying30 info35 rfl (by decide) (by omega) u3 x3_1 (⟨(⟨t197, t198, t199⟩ : S24), t202, t203⟩ : S35) [.int .i64 t197, .int .i64 t198, .slice Ao30 t199.length co30, .int .i64 t202, .int .i64 t203] (fun _ => True) (fun k_ => some k_ = (.slice Ao30 t199.length co30 : Value).ownBlock) rfl rfl ?aP (fun k_ hk_ => ((Kd.R_mono (ok' := fun k_ => ((fun _ => True)) k_ ∧ some k_ ≠ (u3 : Value).ownBlock) (Kd.R_apart' (HO201.out) (Kd.S_typed HO_3.out) (by decide)) (fun k_ hk => ⟨trivial, hk.2⟩))).1 k_ hk_.symm) ?aF ?aO ?aB ?aS ?aL ?_
             (case aP => exact k35_mkM _ _ _ (⟨(⟨t197, t198, t199⟩ : S24), t202, t203⟩ : S35) (Kd.R_mono (Kd.R_tight rfl (Kd.R_mono (ok' := fun k_ => ((fun _ => True)) k_ ∧ some k_ ≠ (u3 : Value).ownBlock) (Kd.R_apart' (HO201.out) (Kd.S_typed HO_3.out) (by decide)) (fun k_ hk => ⟨trivial, hk.2⟩))) (fun _ h_ => h_)))
             (case aB => exact bl)
             (case aF => exact (fun _ _ => trivial))
             (case aO => exact (by (with_reducible repeat (first | apply Kd.S_alloc | apply Kd.S_drewN | apply Kd.S_drew)); exact Kd.S_mono HO_3.out (fun k_ hk => ⟨trivial, fun e_ => hk.2 e_⟩)))
             (case aS => exact bz)
             (case aL => have := LMc21.out; omega)
             intro v205 w29 ho hb hg hat
             rw [← Ny204.out] at ho
             have n_ := aC (Kd.R_over' (rU HO_4.out) (Kd.S_typed (by (with_reducible repeat (first | apply Kd.S_alloc | apply Kd.S_drewN | apply Kd.S_drew)); exact HO_3.out)) (by decide) hg) (aC (blk_grown (bU BK184.out) hg (Kd.S_ne HO_3.out BK184.out (by decide))) (aC (Kd.R_over' (rU HO192.out) (Kd.S_typed (by (with_reducible repeat (first | apply Kd.S_alloc | apply Kd.S_drewN | apply Kd.S_drew)); exact HO_3.out)) (by decide) hg) (aC (Kd.R_over' (rU HO195.out) (Kd.S_typed (by (with_reducible repeat (first | apply Kd.S_alloc | apply Kd.S_drewN | apply Kd.S_drew)); exact HO_3.out)) (by decide) hg) (aC hb (aE ho)))))
             clear HO_4 BK184 HO192 HO195 HB HO_3 HO201
             obtain ⟨HO_4, BK184, HO192, HO195, HB, HO206⟩ := n_
             clear ho hb hg hat
             refine hK.out _ _ ⟨kc0 BK184.out, kc1 BK184.out, kc2 BK184.out⟩ (fun hHeld => ?_)
             clear hK K
             refine nm (some 44) ?_
             refine pu 17 3 (bv 18 262143) HT_ rfl rfl ?_
             refine done_ (done_of HT_.out (by kernel_rfl)) ?_
             try go_wp2
             go_roundg kj11
             case measure => have := HK1.out; have := HJ11.out; omega
             case rel => exact ⟨(y204), (t196), (wrap64 (x14_1 + 1)), rq, H', ⟨by have := HK1.out; have := HJ11.out; omega⟩, ⟨by (with_reducible repeat (first | apply Kd.S_alloc | apply Kd.S_drewN | apply Kd.S_drew)); exact HO206.out⟩, ⟨rU HO_4.out⟩, ⟨by exact bU BK184.out⟩, ⟨bl⟩⟩
            ·rw [if_neg c21] at H
             exact absurd H (by simp)
          ·replace c16 := Bool.eq_false_iff.mpr c16
           subst c16
           rw [if_neg Bool.false_ne_true] at H
           have H' := Aside0.mk H
           clear H
           go_wp2
           go_roundg kj11
           case measure => have := HK1.out; have := HJ11.out; omega
           case rel => exact ⟨(x3_1), (x4_1), (wrap64 (x14_1 + 1)), rq, H', ⟨by have := HK1.out; have := HJ11.out; omega⟩, ⟨by (with_reducible repeat (first | apply Kd.S_alloc | apply Kd.S_drewN | apply Kd.S_drew)); exact HO_3.out⟩, ⟨rU HO_4.out⟩, ⟨by exact bU BK184.out⟩, ⟨bl⟩⟩
       ·rw [if_neg c11] at H
        exact absurd H (by simp)
      ·rw [if_neg c10] at H
       exact absurd H (by simp)
     ·obtain rfl := Option.some.inj H
      go_wp2
      go_ret
      exact ⟨_, re, by (with_reducible repeat (first | apply Kd.S_alloc | apply Kd.S_drewN | apply Kd.S_drew)); exact HO_3.out, bl⟩
  ·rw [if_neg c3] at H
   exact absurd H (by simp)
 ·rw [if_neg c2] at H
  exact absurd H (by simp)
def shape_Components.f (k : Nat) (a0_0 : Int) (a0_1 : Int) (l0_2 : List Int) : Option ((List (S35)) × Int) := (bitmap_Valid.f k a0_0 a0_1 l0_2).bind fun t208 => (if t208 = true then ((shape_components.f k a0_0 a0_1 l0_2).bind fun t209 => (some (t209, 0))) else (some (([] : List (S35)), 30)))
theorem shape_Components.mono : ∀ a0 a1 a2 k, LeO (shape_Components.f k a0 a1 a2) (shape_Components.f (k + 1) a0 a1 a2) := by
 intro a0 a1 a2 k
 unfold shape_Components.f
 repeat' first
   | (with_reducible exact bitmap_Valid.mono _ _ _ _)
   | (with_reducible exact shape_components.mono _ _ _ _)
   | (with_reducible first | exact LeO.refl _ | exact LeO.none _ | refine LeO.ite ?_ ?_ | refine LeO.bind ?_ (fun _ => ?_))
set_option maxHeartbeats 8000000 in
set_option maxRecDepth 100000 in
theorem shape_Components.calls (k : Nat) (a0_0 : Int) (a0_1 : Int) (A0_2 : Option Addr) (c0_2 : Nat) (l0_2 : List Int) (r1 : List (S35)) (r2 : Int) (w : World) (hr0_2 : Kd.C (Kd.int .u8) w A0_2 l0_2.length l0_2) (hc0_2 : l0_2.length ≤ c0_2) (h : shape_Components.f k a0_0 a0_1 l0_2 = some (r1, r2)) :
  Calls Try.prog 13 #[.agg #[.int .i64 a0_0, .int .i64 a0_1, .slice A0_2 l0_2.length c0_2]] w fun e w' => ∃ v0_ : Value, e = .returned (.tuple #[v0_, .int .i64 r2]) ∧ Kd.S k35 35 w' w.heap.size (fun _ => True) v0_ r1 ∧ Below w.heap.size w w' := by
 have hu24 := Try.underlying24
 have HR0_2 := Aside0.mk hr0_2
 have HC0_2 := Aside0.mk hc0_2
 clear hr0_2 hc0_2
 have HB := Aside0.mk (Below.refl w.heap.size w)
 have H := h
 unfold shape_Components.f at H
 clear h
 obtain ⟨t208, A2, H⟩ := oB H
 try dsimp only at H
 by_cases c3 : t208 = true
 ·subst c3
  rw [if_pos rfl] at H
  obtain ⟨t209, A4, H⟩ := oB H
  try dsimp only at H
  simp only [Option.some.injEq, Prod.mk.injEq] at H
  obtain ⟨rfl, rfl⟩ := H
  go_enter Try.func13, Try.ntmps13
  go_wp2_with (first | ((with_reducible refine gd 1 rfl ?_); refine bx 1 #[.int .i64 a0_0, .int .i64 a0_1, .slice A0_2 l0_2.length c0_2] 24 rfl rfl ?_; intro gb207 hg w5 hbox hb; have n_ := aC (bs hb) (aC hbox (aC (gz hg) (aE (gz hg)))); clear HB; obtain ⟨HB, BK207, GW207, GE207⟩ := n_; clear hb hbox hg; obtain ⟨hcz6_0, hcz6_1, hcz6_2, hfz6_0, hfz6_1, hfz6_2⟩ := cz3f BK207.out) | ((with_reducible refine gf 24 rfl ?_); refine gL (some 5) rfl rfl Try.func24 rfl #[.agg #[.int .i64 a0_0, .int .i64 a0_1, .slice A0_2 l0_2.length c0_2]] rfl ?_; (with_reducible refine (bitmap_Valid.calls k a0_0 a0_1 _ _ l0_2 true _ ?side1 ?side2 A2.out).mono ?_); (case side1 => exact cU (Kd.C_below HR0_2.out HB.out)); (case side2 => exact HC0_2.out); rintro e w7 ⟨rfl, hb⟩; refine ⟨_, rfl, ?_⟩; have n_ := aC (blk_below (bU BK207.out) hb) (aE (bs hb)); clear BK207 HB; obtain ⟨BK207, HB⟩ := n_; obtain ⟨hcz8_0, hcz8_1, hcz8_2, hfz8_0, hfz8_1, hfz8_2⟩ := cz3f BK207.out) | ((with_reducible refine gf 25 rfl ?_); refine gL (some 8) rfl rfl Try.func25 rfl #[.agg #[.int .i64 a0_0, .int .i64 a0_1, .slice A0_2 l0_2.length c0_2]] rfl ?_; (with_reducible refine (shape_components.calls k a0_0 a0_1 _ _ l0_2 t209 _ ?side1 ?side2 A4.out).mono ?_); (case side1 => exact cU (Kd.C_below HR0_2.out HB.out)); (case side2 => exact HC0_2.out); rintro e w9 ⟨v210, rfl, ho0, hb⟩; refine ⟨_, rfl, ?_⟩; have n_ := aC (Kd.S_lower ho0 bz) (aC (blk_below (bU BK207.out) hb) (aE (bs hb))); clear BK207 HB; obtain ⟨HO211, BK207, HB⟩ := n_))
  go_ret2
  exact ⟨_, re, by (with_reducible repeat (first | apply Kd.S_alloc | apply Kd.S_drewN | apply Kd.S_drew)); exact HO211.out, bl⟩
 ·replace c3 := Bool.eq_false_iff.mpr c3
  subst c3
  rw [if_neg Bool.false_ne_true] at H
  simp only [Option.some.injEq, Prod.mk.injEq] at H
  obtain ⟨rfl, rfl⟩ := H
  go_enter Try.func13, Try.ntmps13
  go_wp2_with (first | ((with_reducible refine gd 1 rfl ?_); refine bx 1 #[.int .i64 a0_0, .int .i64 a0_1, .slice A0_2 l0_2.length c0_2] 24 rfl rfl ?_; intro gb207 hg w10 hbox hb; have n_ := aC (bs hb) (aC hbox (aC (gz hg) (aE (gz hg)))); clear HB; obtain ⟨HB, BK207, GW207, GE207⟩ := n_; clear hb hbox hg; obtain ⟨hcz11_0, hcz11_1, hcz11_2, hfz11_0, hfz11_1, hfz11_2⟩ := cz3f BK207.out) | ((with_reducible refine gf 24 rfl ?_); refine gL (some 5) rfl rfl Try.func24 rfl #[.agg #[.int .i64 a0_0, .int .i64 a0_1, .slice A0_2 l0_2.length c0_2]] rfl ?_; (with_reducible refine (bitmap_Valid.calls k a0_0 a0_1 _ _ l0_2 false _ ?side1 ?side2 A2.out).mono ?_); (case side1 => exact cU (Kd.C_below HR0_2.out HB.out)); (case side2 => exact HC0_2.out); rintro e w12 ⟨rfl, hb⟩; refine ⟨_, rfl, ?_⟩; have n_ := aC (blk_below (bU BK207.out) hb) (aE (bs hb)); clear BK207 HB; obtain ⟨BK207, HB⟩ := n_))
  go_ret2
  exact ⟨_, re, by first | exact Kd.S_nil _ _ _ _ _ | exact Kd.N_nil _ _ _ _ _ | exact Kd.V_nil _ _ _ _ _ | exact Kd.Q_nil _ _ _ _ _ | exact Kd.R_nil _ _ _ _ _, bl⟩
def bytes_Equal.f (l0 : List Int) (l1 : List Int) : Option (Bool) := some ((strOfNums l0).toList == (strOfNums l1).toList)
set_option maxHeartbeats 8000000 in
set_option maxRecDepth 100000 in
theorem bytes_Equal.calls (A0 : Option Addr) (c0 : Nat) (l0 : List Int) (A1 : Option Addr) (c1 : Nat) (l1 : List Int) (r : Bool) (w : World) (hr0 : Kd.C (Kd.int .u8) w A0 l0.length l0) (hc0 : l0.length ≤ c0) (hr1 : Kd.C (Kd.int .u8) w A1 l1.length l1) (hc1 : l1.length ≤ c1) (h : bytes_Equal.f l0 l1 = some r) :
  Calls Try.prog 56 #[.slice A0 l0.length c0, .slice A1 l1.length c1] w fun e w' => e = .returned (.bool r) ∧ Drawn0 w w' := by
 have HR0 := Aside0.mk hr0
 have HC0 := Aside0.mk hc0
 clear hr0 hc0
 have HR1 := Aside0.mk hr1
 have HC1 := Aside0.mk hc1
 clear hr1 hc1
 have H : (some ((strOfNums l0).toList == (strOfNums l1).toList)) = some r := h
 clear h
 obtain rfl := Option.some.inj H
 have hcv3 := Kd.C_string (P := Try.prog) (A := A0) (c := c0) Try.underlying22 Try.underlying5 Try.underlying9 HR0.out
 have hcv4 := Kd.C_string (P := Try.prog) (A := A1) (c := c1) Try.underlying22 Try.underlying5 Try.underlying9 HR1.out
 go_enter Try.func56, Try.ntmps56
 go_wp2
 go_ret
 exact ⟨by first | rfl | (simp; done) | (simp [*]; done), by repeat (first | exact Drawn0.refl _ | apply Drawn0.step)⟩
def bytes_Count.f (l0 : List Int) (l1 : List Int) : Option Int := if l1.length = 1 then some ((Lib.countByte (Lib.bytesOf l0) (rd l1 0).toNat.toUInt8 : Nat) : Int) else none
set_option maxHeartbeats 4000000 in
set_option maxRecDepth 1000000 in
theorem bytes_Count.calls (A0 : Option Addr) (c0 : Nat) (l0 : List Int) (A1 : Option Addr) (c1 : Nat) (l1 : List Int) (r : Int) (w : World) (hr0 : Kd.C (Kd.int .u8) w A0 l0.length l0) (hc0 : l0.length ≤ c0) (hr1 : Kd.C (Kd.int .u8) w A1 l1.length l1) (hc1 : l1.length ≤ c1) (h : bytes_Count.f l0 l1 = some r) :
  Calls Try.prog 27 #[.slice A0 l0.length c0, .slice A1 l1.length c1] w fun e w' => e = .returned (.int .i64 r) ∧ Drawn0 w w' := by
 unfold bytes_Count.f at h
 by_cases h1 : l1.length = 1
 ·rw [if_pos h1] at h
  obtain rfl := Option.some.inj h
  obtain ⟨v, rfl⟩ : ∃ v, l1 = [v] := by
   match l1, h1 with
   | [v], _ => exact ⟨v, rfl⟩
  obtain ⟨ad, rfl, hx⟩ := Kd.at_int hr1 0 (by omega) (by simp)
  have hz : ad.add 0 = ad := by
   unfold Addr.add
   split <;> simp_all
  have hx0 : w.cell? ad = some (.int .u8 v) := by
   have hx : w.cell? (ad.add 0) = some (.int .u8 v) := hx
   rwa [hz] at hx
  clear hz
  clear hx h h1
  have hR := (Kd.reads_of_C (d := (0 : Int)) (h1 := fun _ => rfl) (enc := Value.int .u8) hr0)
  cases A0 with
  | some a =>
   have hc : ∀ i, i < l0.length → w.cell? (a.add i) = some (.int .u8 (l0.getD i 0)) := by
    intro i hi
    obtain ⟨a', e', hq⟩ := hR.2.2 (by omega)
    injection e' with e'
    subst e'
    exact hq i hi
   have hv : rd [v] 0 = v := rfl
   rw [hv]
   clear hR hr0 hr1 hv
   generalize hn : l0.length = n at hc hc0 ⊢
   go_enter Try.func27, Try.ntmps27
   go_wp2
   rw [run_callFunc_extern Try.func41 (by kernel_rfl) (by kernel_rfl) (by kernel_rfl) (e := Extern.BytealgCount.count) (by kernel_rfl), Lib.run_countAt w a n c0 l0 hn hc v]
   simp only [Result.andThen]
   rw [Oper.upon_value]
   go_wp2
   go_ret
   exact ⟨rfl, 0, rfl⟩
  | none =>
   obtain rfl : l0 = [] := C_none_nil hr0
   have hv : rd [v] 0 = v := rfl
   rw [hv]
   clear hR hr0 hr1 hv
   go_enter Try.func27, Try.ntmps27
   go_wp2
   rw [run_callFunc_extern Try.func41 (by kernel_rfl) (by kernel_rfl) (by kernel_rfl) (e := Extern.BytealgCount.count) (by kernel_rfl), Lib.run_countNil w 0 c0 v]
   simp only [Result.andThen]
   rw [Oper.upon_value]
   go_wp2
   go_ret
   exact ⟨rfl, 0, rfl⟩
 ·rw [if_neg h1] at h
  cases h
def bitmap_Count.f (k : Nat) (a0_0 : Int) (a0_1 : Int) (l0_2 : List Int) : Option (Int × Int) := (bitmap_Valid.f k a0_0 a0_1 l0_2).bind fun t216 => (if t216 = true then ((bytes_Count.f l0_2 (([1] : List Int))).bind fun t220 => (some (t220, 0))) else (some (0, 30)))
theorem bitmap_Count.mono : ∀ a0 a1 a2 k, LeO (bitmap_Count.f k a0 a1 a2) (bitmap_Count.f (k + 1) a0 a1 a2) := by
 intro a0 a1 a2 k
 unfold bitmap_Count.f
 repeat' first
   | (with_reducible exact bitmap_Valid.mono _ _ _ _)
   | (with_reducible first | exact LeO.refl _ | exact LeO.none _ | refine LeO.ite ?_ ?_ | refine LeO.bind ?_ (fun _ => ?_))
set_option maxHeartbeats 8000000 in
set_option maxRecDepth 100000 in
theorem bitmap_Count.calls (k : Nat) (a0_0 : Int) (a0_1 : Int) (A0_2 : Option Addr) (c0_2 : Nat) (l0_2 : List Int) (r1 : Int) (r2 : Int) (w : World) (hr0_2 : Kd.C (Kd.int .u8) w A0_2 l0_2.length l0_2) (hc0_2 : l0_2.length ≤ c0_2) (h : bitmap_Count.f k a0_0 a0_1 l0_2 = some (r1, r2)) :
  Calls Try.prog 16 #[.agg #[.int .i64 a0_0, .int .i64 a0_1, .slice A0_2 l0_2.length c0_2]] w fun e w' => e = .returned (.tuple #[.int .i64 r1, .int .i64 r2]) ∧ Below w.heap.size w w' := by
 have hu24 := Try.underlying24
 have HR0_2 := Aside0.mk hr0_2
 have HC0_2 := Aside0.mk hc0_2
 clear hr0_2 hc0_2
 have HB := Aside0.mk (Below.refl w.heap.size w)
 have H := h
 unfold bitmap_Count.f at H
 clear h
 obtain ⟨t216, A2, H⟩ := oB H
 try dsimp only at H
 by_cases c3 : t216 = true
 ·subst c3
  rw [if_pos rfl] at H
  obtain ⟨y217, hy_⟩ : ∃ y_ : List Int, y_ = (([1] : List Int)) := ⟨_, rfl⟩
  replace H : ((bytes_Count.f l0_2 y217).bind fun t220 => (some (t220, 0))) = some (r1, r2) := rh
  have Ny217 := aE hy_
  clear hy_
  obtain ⟨t220, A4, H⟩ := oB H
  try dsimp only at H
  simp only [Option.some.injEq, Prod.mk.injEq] at H
  obtain ⟨rfl, rfl⟩ := H
  go_enter Try.func16, Try.ntmps16
  go_wp2_with (first | ((with_reducible refine gd 1 rfl ?_); refine bx 1 #[.int .i64 a0_0, .int .i64 a0_1, .slice A0_2 l0_2.length c0_2] 24 rfl rfl ?_; intro gb215 hg w5 hbox hb; have n_ := aC (bs hb) (aC hbox (aC (gz hg) (aE (gz hg)))); clear HB; obtain ⟨HB, BK215, GW215, GE215⟩ := n_; clear hb hbox hg; obtain ⟨hcz6_0, hcz6_1, hcz6_2, hfz6_0, hfz6_1, hfz6_2⟩ := cz3f BK215.out) | ((with_reducible refine gf 24 rfl ?_); refine gL (some 5) rfl rfl Try.func24 rfl #[.agg #[.int .i64 a0_0, .int .i64 a0_1, .slice A0_2 l0_2.length c0_2]] rfl ?_; (with_reducible refine (bitmap_Valid.calls k a0_0 a0_1 _ _ l0_2 true _ ?side1 ?side2 A2.out).mono ?_); (case side1 => exact cU (Kd.C_below HR0_2.out HB.out)); (case side2 => exact HC0_2.out); rintro e w7 ⟨rfl, hb⟩; refine ⟨_, rfl, ?_⟩; have n_ := aC (blk_below (bU BK215.out) hb) (aE (bs hb)); clear BK215 HB; obtain ⟨BK215, HB⟩ := n_; obtain ⟨hcz8_0, hcz8_1, hcz8_2, hfz8_0, hfz8_1, hfz8_2⟩ := cz3f BK215.out) | ((with_reducible refine gd 9 rfl ?_); refine Kd.R_lit (Kd.int .u8) _ 5 ?hg (N := 9) ?hd (xs := ([1] : List Int)) (inner := [.int .u8 1]) (ok := fun _ => True) (okp := fun _ => True) ?hr ?hp (fun _ hk => hk) trivial (Below.refl _ _) (Nat.le_refl _) (by simp) ?_; (case hd => rfl); (case hg => rfl); (case hr => first | (go_simp; done) | (go_simp; rfl)); (case hp => exact (Reps.one (show Kd.M (Kd.int .u8) _ _ _ 1 [.int .u8 1] from rfl) (Reps.none _ _))); intro v218 w9 ho10 hb hg_ hnew_; clear hg_ hnew_; (first | rw [← Ny217.out] at ho10 | (simp only [Int.reduceToNat] at ho10; rw [← Ny217.out] at ho10)); have n_ := aC (Kd.R_lower ho10 bz) (aC (blk_below (bU BK215.out) hb) (aE (bs hb))); clear BK215 HB; obtain ⟨HO219, BK215, HB⟩ := n_; clear hb ho10; obtain ⟨Ao11, co11, eo11⟩ := Kd.R_slice HO219.out; subst eo11) | ((with_reducible refine gf 27 rfl ?_); refine gL (some 10) rfl rfl Try.func27 rfl #[.slice A0_2 l0_2.length c0_2, .slice Ao11 y217.length co11] rfl ?_; (with_reducible refine (bytes_Count.calls _ _ l0_2 _ _ y217 t220 _ ?side1 ?side2 ?side3 ?side4 A4.out).mono ?_); (case side1 => exact cU (Kd.C_below HR0_2.out HB.out)); (case side2 => exact HC0_2.out); (case side3 => exact cU (Kd.R_reads' HO219.out).2.2); (case side4 => exact (Kd.R_reads' HO219.out).2.1); rintro e w' ⟨rfl, ⟨nd, rfl⟩⟩; refine ⟨_, rfl, ?_⟩))
  go_ret2
  exact ⟨re, bl⟩
 ·replace c3 := Bool.eq_false_iff.mpr c3
  subst c3
  rw [if_neg Bool.false_ne_true] at H
  simp only [Option.some.injEq, Prod.mk.injEq] at H
  obtain ⟨rfl, rfl⟩ := H
  go_enter Try.func16, Try.ntmps16
  go_wp2_with (first | ((with_reducible refine gd 1 rfl ?_); refine bx 1 #[.int .i64 a0_0, .int .i64 a0_1, .slice A0_2 l0_2.length c0_2] 24 rfl rfl ?_; intro gb215 hg w12 hbox hb; have n_ := aC (bs hb) (aC hbox (aC (gz hg) (aE (gz hg)))); clear HB; obtain ⟨HB, BK215, GW215, GE215⟩ := n_; clear hb hbox hg; obtain ⟨hcz13_0, hcz13_1, hcz13_2, hfz13_0, hfz13_1, hfz13_2⟩ := cz3f BK215.out) | ((with_reducible refine gf 24 rfl ?_); refine gL (some 5) rfl rfl Try.func24 rfl #[.agg #[.int .i64 a0_0, .int .i64 a0_1, .slice A0_2 l0_2.length c0_2]] rfl ?_; (with_reducible refine (bitmap_Valid.calls k a0_0 a0_1 _ _ l0_2 false _ ?side1 ?side2 A2.out).mono ?_); (case side1 => exact cU (Kd.C_below HR0_2.out HB.out)); (case side2 => exact HC0_2.out); rintro e w14 ⟨rfl, hb⟩; refine ⟨_, rfl, ?_⟩; have n_ := aC (blk_below (bU BK215.out) hb) (aE (bs hb)); clear BK215 HB; obtain ⟨BK215, HB⟩ := n_))
  go_ret2
  exact ⟨re, bl⟩
end Go.Proofs.Ytnnbfkmmjclhaaa.PScanSpecks
