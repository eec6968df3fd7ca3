-- Written by a program of this session (wip/tools/myprint.py) over the kit's print. Not trusted: Lean checks it.
import Derived.Test.YtgcjhpcegmblgaaDoorPBitmapParsesx0
import Derived.Test.YtgcjhpcegmblgaaDoorPBitmapParsesx1
namespace Go.Proofs.YtgcjhpcegmblgaaDoor.PBitmapParses
open Go.RowKit Go.Proofs.YtgcjhpcegmblgaaDoorW.PrintWords Go.Proofs.YtgcjhpcegmblgaaDoorW.PrintLast Go.Proofs.YtgcjhpcegmblgaaDoorW.PrintMore
attribute [local go_sem] max2_int min2_int max_two min_two max_three min_three max_four min_four   -- for this text's walks alone
set_option linter.unusedVariables false
set_option linter.unusedSimpArgs false

/-! ### bitmap_Turn: function 12 -/
mutual
def bitmap_Turn.l0 : Nat → Int → Int → Int → Int → List Int → Option (Int × Int × List Int × Int)
 | 0, _, _, _, _, _ => none
 | k + 1, x18, x19, x128000, x128001, x128002 => if x19 < x18 then (if 0 ≤ (x128002.length : Int) then (if ((x128002.length : Int) : Int).toNat ≤ 281474976710656 then ((some (List.replicate ((x128002.length : Int) : Int).toNat 0 : List Int)).bind fun y128 => (bitmap_Turn.l1 k x18 x19 (y128.length : Int) 0 x128000 x128001 x128002 x128001 x128000 y128)) else (none)) else (none)) else (some (x128000, x128001, x128002, 0))
def bitmap_Turn.l1 : Nat → Int → Int → Int → Int → Int → Int → List Int → Int → Int → List Int → Option (Int × Int × List Int × Int)
 | 0, _, _, _, _, _, _, _, _, _, _ => none
 | k + 1, x18, x19, x32, x33, x128000, x128001, x128002, x132000, x132001, x132002 => if x33 < x32 then (if x132000 = 0 then (none) else ((bitmap_at.f x128000 x128001 x128002 (wrap64 (Int.tdiv x33 x132000)) (wrap64 ((wrap64 (x128001 - 1)) - (Int.tmod x33 x132000)))).bind fun t132 => (if 0 ≤ x33 then (if x33 < (x132002.length : Int) then (bitmap_Turn.l1 k x18 x19 x32 (wrap64 (x33 + 1)) x128000 x128001 x128002 x132000 x132001 (x132002.set (x33 : Int).toNat t132)) else (none)) else (none)))) else (bitmap_Turn.l0 k x18 (wrap64 (x19 + 1)) x132000 x132001 x132002)
end
def bitmap_Turn.f (k : Nat) (a0_0 : Int) (a0_1 : Int) (l0_2 : List Int) (a1 : Int) : Option (Int × Int × List Int × Int) := (bitmap_Valid.f k a0_0 a0_1 l0_2).bind fun t121 => (if t121 = true then ((bitmap_clone.f a0_0 a0_1 l0_2).bind fun bt122 => (bitmap_Turn.l0 k (Int.tmod (wrap64 ((Int.tmod a1 4) + 4)) 4) 0 bt122.1 bt122.2.1 bt122.2.2)) else (some (0, 0, ([] : List Int), 30)))
theorem bitmap_Turn.mono_l : ∀ k, (∀ y0 y1 y2 y3 y4, LeO (bitmap_Turn.l0 k y0 y1 y2 y3 y4) (bitmap_Turn.l0 (k + 1) y0 y1 y2 y3 y4)) ∧ (∀ y0 y1 y2 y3 y4 y5 y6 y7 y8 y9, LeO (bitmap_Turn.l1 k y0 y1 y2 y3 y4 y5 y6 y7 y8 y9) (bitmap_Turn.l1 (k + 1) y0 y1 y2 y3 y4 y5 y6 y7 y8 y9))
 | 0 => ⟨fun _ _ _ _ _ r h => by simp [bitmap_Turn.l0] at h, fun _ _ _ _ _ _ _ _ _ _ r h => by simp [bitmap_Turn.l1] at h⟩
 | k + 1 => by
  obtain ⟨ih0, ih1⟩ := bitmap_Turn.mono_l k
  refine ⟨?_, ?_⟩
  ·intro y0 y1 y2 y3 y4
   unfold bitmap_Turn.l0
   repeat' first
   | (with_reducible exact ih0 _ _ _ _ _)
   | (with_reducible exact ih1 _ _ _ _ _ _ _ _ _ _)
   | (with_reducible exact bitmap_Valid.mono _ _ _ _)
   | (with_reducible first | exact LeO.refl _ | exact LeO.none _ | refine LeO.ite ?_ ?_ | refine LeO.bind ?_ (fun _ => ?_))
   | exact ih0 _ _ _ _ _
   | exact ih1 _ _ _ _ _ _ _ _ _ _
   | exact bitmap_Valid.mono _ _ _ _
   | exact LeO.none _ | refine LeO.ite ?_ ?_ | refine LeO.bind ?_ (fun _ => ?_)
  ·intro y0 y1 y2 y3 y4 y5 y6 y7 y8 y9
   unfold bitmap_Turn.l1
   repeat' first
   | (with_reducible exact ih0 _ _ _ _ _)
   | (with_reducible exact ih1 _ _ _ _ _ _ _ _ _ _)
   | (with_reducible exact bitmap_Valid.mono _ _ _ _)
   | (with_reducible first | exact LeO.refl _ | exact LeO.none _ | refine LeO.ite ?_ ?_ | refine LeO.bind ?_ (fun _ => ?_))
   | exact ih0 _ _ _ _ _
   | exact ih1 _ _ _ _ _ _ _ _ _ _
   | exact bitmap_Valid.mono _ _ _ _
   | exact LeO.none _ | refine LeO.ite ?_ ?_ | refine LeO.bind ?_ (fun _ => ?_)
theorem bitmap_Turn.mono : ∀ a0 a1 a2 a3 k, LeO (bitmap_Turn.f k a0 a1 a2 a3) (bitmap_Turn.f (k + 1) a0 a1 a2 a3) := by
 intro a0 a1 a2 a3 k
 obtain ⟨ih0, ih1⟩ := bitmap_Turn.mono_l k
 unfold bitmap_Turn.f
 repeat' first
   | (with_reducible exact ih0 _ _ _ _ _)
   | (with_reducible exact ih1 _ _ _ _ _ _ _ _ _ _)
   | (with_reducible exact bitmap_Valid.mono _ _ _ _)
   | (with_reducible first | exact LeO.refl _ | exact LeO.none _ | refine LeO.ite ?_ ?_ | refine LeO.bind ?_ (fun _ => ?_))
   | exact ih0 _ _ _ _ _
   | exact ih1 _ _ _ _ _ _ _ _ _ _
   | exact bitmap_Valid.mono _ _ _ _
   | exact LeO.none _ | refine LeO.ite ?_ ?_ | refine LeO.bind ?_ (fun _ => ?_)
def bitmap_Turn.T6 : Bool × List (List Nat × List Nat) := (true, [([], []), ([0], [0]), ([], []), ([2], [2]), ([], []), ([4], [4]), ([5], [5]), ([6, 6], [6]), ([1, 3, 7], [1, 3, 7]), ([], []), ([9, 8, 0, 1, 2, 3, 4, 5, 6, 7, 8, 9], [8, 9])])
def bitmap_Turn.B6 : List Nat := [0, 1, 0, 4, 0, 16, 48, 112, 255, 0, 1023]
theorem bitmap_Turn.tab6 : rtab .any (opsOf Tryd.f12 6) = bitmap_Turn.T6 := by kernel_rfl
theorem bitmap_Turn.bits6 : waitsOk bitmap_Turn.T6.2 bitmap_Turn.B6 = true := by kernel_rfl
def bitmap_Turn.T10 : Bool × List (List Nat × List Nat) := (true, [([], []), ([0], [0]), ([], []), ([], []), ([], []), ([], []), ([5], [5]), ([4, 6], [4, 6]), ([], []), ([8], [8]), ([9], [9]), ([], []), ([], []), ([12], [12]), ([11, 13], [11, 13]), ([10, 14], [10, 14]), ([3, 7, 15], [3, 7, 15]), ([1, 2, 0, 1, 2, 3, 4, 5, 6, 7, 8, 9, 10, 11, 12, 13, 14, 15, 16], [1, 2]), ([17, 16, 16, 0, 1, 2, 3, 4, 5, 6, 7, 8, 9, 10, 11, 12, 13, 14, 15, 16], [16, 17])])
def bitmap_Turn.B10 : List Nat := [0, 1, 0, 0, 0, 0, 32, 112, 0, 256, 768, 0, 0, 4096, 14336, 32512, 65528, 131071, 262143]
theorem bitmap_Turn.tab10 : rtab .any (opsOf Tryd.f12 10) = bitmap_Turn.T10 := by kernel_rfl
theorem bitmap_Turn.bits10 : waitsOk bitmap_Turn.T10.2 bitmap_Turn.B10 = true := by kernel_rfl
set_option maxHeartbeats 8000000 in
set_option maxRecDepth 100000 in
theorem bitmap_Turn.calls (k : Nat) (a0_0 : Int) (a0_1 : Int) (A0_2 : Option Addr) (c0_2 : Nat) (l0_2 : List Int) (a1 : Int) (r1 : Int) (r2 : Int) (r3 : List Int) (r4 : Int) (w : World) (hr0_2 : Kd.C (Kd.int .u8) w A0_2 l0_2.length l0_2) (hc0_2 : l0_2.length ≤ c0_2) (h : bitmap_Turn.f k a0_0 a0_1 l0_2 a1 = some (r1, r2, r3, r4)) :
  Calls Tryd.prog 12 #[.agg #[.int .i64 a0_0, .int .i64 a0_1, .slice A0_2 l0_2.length c0_2], .int .i64 a1] w fun e w' => ∃ v2_ : Value, e = .returned (.tuple #[.agg #[.int .i64 r1, .int .i64 r2, v2_], .int .i64 r4]) ∧ Kd.R (Kd.int .u8) 5 w' w.heap.size (fun _ => True) v2_ r3 ∧ Below w.heap.size w w' := by
 have hu24 := Tryd.underlying24
 have HR0_2 := Aside0.mk hr0_2
 have HC0_2 := Aside0.mk hc0_2
 clear hr0_2 hc0_2
 have HB := Aside0.mk (Below.refl w.heap.size w)
 have H : ((bitmap_Valid.f k a0_0 a0_1 l0_2).bind fun t121 => (if t121 = true then ((bitmap_clone.f a0_0 a0_1 l0_2).bind fun bt122 => (bitmap_Turn.l0 k (Int.tmod (wrap64 ((Int.tmod a1 4) + 4)) 4) 0 bt122.1 bt122.2.1 bt122.2.2)) else (some (0, 0, ([] : List Int), 30)))) = some (r1, r2, r3, r4) := h
 clear h
 replace H := Option.bind_eq_some_iff.mp H
 obtain ⟨t121, A30, H⟩ := H
 replace H : (if t121 = true then ((bitmap_clone.f a0_0 a0_1 l0_2).bind fun bt122 => (bitmap_Turn.l0 k (Int.tmod (wrap64 ((Int.tmod a1 4) + 4)) 4) 0 bt122.1 bt122.2.1 bt122.2.2)) else (some (0, 0, ([] : List Int), 30))) = some (r1, r2, r3, r4) := H
 have A3 := Aside0.mk A30
 clear A30
 by_cases c4 : t121 = true
 ·subst c4
  have H1 : ((bitmap_clone.f a0_0 a0_1 l0_2).bind fun bt122 => (bitmap_Turn.l0 k (Int.tmod (wrap64 ((Int.tmod a1 4) + 4)) 4) 0 bt122.1 bt122.2.1 bt122.2.2)) = some (r1, r2, r3, r4) := by rw [if_pos rfl] at H; exact H
  clear H
  have H := H1
  clear H1
  replace H := Option.bind_eq_some_iff.mp H
  obtain ⟨⟨t122, t123, t124⟩, A50, H⟩ := H
  replace H : (bitmap_Turn.l0 k (Int.tmod (wrap64 ((Int.tmod a1 4) + 4)) 4) 0 t122 t123 t124) = some (r1, r2, r3, r4) := H
  have A5 := Aside0.mk A50
  clear A50
  have H' := Aside0.mk H
  clear H
  go_enter Tryd.func12, Tryd.ntmps12
  go_wp2_with (first | ((with_reducible refine gd 2 rfl ?_); refine bx 2 #[.int .i64 a0_0, .int .i64 a0_1, .slice A0_2 l0_2.length c0_2] 24 rfl rfl ?_; intro gb119 hg w6 hbox hb; have n_ := aC (bs hb) (aC hbox (aC (gz hg) (aE (gz hg)))); clear HB; obtain ⟨HB, BK119, GW119, GE119⟩ := n_; clear hb hbox hg) | ((with_reducible refine gd 4 rfl ?_); refine bx 4 #[.int .i64 0, .int .i64 0, .slice none 0 0] 24 rfl rfl ?_; intro gb120 hg w7 hbox hb; have n_ := aC (blk_below (bU BK119.out) hb) (aC (bs hb) (aC hbox (aC (gz hg) (aC (gz hg) (aC (gn hg (bU BK119.out)) (aE (gm hg (bU BK119.out)))))))); clear BK119 HB; obtain ⟨BK119, HB, BK120, GW120, GE120, NB119_120, NB120_119⟩ := n_; clear hb hbox hg; have hnb8 := NB119_120.out; have hnc8 := NB120_119.out; obtain ⟨hcz9_0, hcz9_1, hcz9_2, hfz9_0, hfz9_1, hfz9_2⟩ := cz3f BK119.out) | ((with_reducible refine gf 13 rfl ?_); refine gL (some 10) rfl rfl Tryd.func13 rfl #[.agg #[.int .i64 a0_0, .int .i64 a0_1, .slice A0_2 l0_2.length c0_2]] rfl ?_; (with_reducible refine (bitmap_Valid.calls k a0_0 a0_1 _ _ l0_2 true _ ?side1 ?side2 A3.out).mono ?_); (case side1 => exact cU (Kd.C_below HR0_2.out HB.out)); (case side2 => exact HC0_2.out); rintro e w10 ⟨rfl, hb⟩; refine ⟨_, rfl, ?_⟩; have n_ := aC (blk_below (bU BK119.out) hb) (aC (blk_below (bU BK120.out) hb) (aE (bs hb))); clear BK119 BK120 HB; obtain ⟨BK119, BK120, HB⟩ := n_; (try clear hb); obtain ⟨hcz11_0, hcz11_1, hcz11_2, hfz11_0, hfz11_1, hfz11_2⟩ := cz3f BK119.out) | ((with_reducible refine gf 24 rfl ?_); refine gL (some 14) rfl rfl Tryd.func24 rfl #[.agg #[.int .i64 a0_0, .int .i64 a0_1, .slice A0_2 l0_2.length c0_2]] rfl ?_; (with_reducible refine (bitmap_clone.calls a0_0 a0_1 _ _ l0_2 t122 t123 t124 _ ?side1 ?side2 A5.out).mono ?_); (case side1 => exact cU (Kd.C_below HR0_2.out HB.out)); (case side2 => exact HC0_2.out); rintro e w12 ⟨v125, rfl, ho0, hb⟩; refine ⟨_, rfl, ?_⟩; have n_ := aC (Kd.R_lower ho0 bz) (aC (blk_below (bU BK119.out) hb) (aC (blk_below (bU BK120.out) hb) (aE (bs hb)))); clear BK119 BK120 HB; obtain ⟨HO126, BK119, BK120, HB⟩ := n_; (try clear hb); (try clear ho0)) | ((with_reducible refine gd 6 rfl ?_); refine bx 6 #[.int .i64 0, .int .i64 0, .slice none 0 0] 24 rfl rfl ?_; intro gb127 hg w13 hbox hb; have n_ := aC (Kd.R_below (rU HO126.out) hb) (aC (blk_below (bU BK119.out) hb) (aC (blk_below (bU BK120.out) hb) (aC (bs hb) (aC hbox (aC (gz hg) (aC (gz hg) (aC (gn hg (bU BK119.out)) (aC (gm hg (bU BK119.out)) (aC (gn hg (bU BK120.out)) (aE (gm hg (bU BK120.out)))))))))))); clear HO126 BK119 BK120 HB; obtain ⟨HO126, BK119, BK120, HB, BK127, GW127, GE127, NB119_127, NB127_119, NB120_127, NB127_120⟩ := n_; clear hb hbox hg; have hnb14 := NB127_119.out; have hnc14 := NB119_127.out; have hnb15 := NB127_120.out; have hnc15 := NB120_127.out; obtain ⟨hcz16_0, hcz16_1, hcz16_2, hfz16_0, hfz16_1, hfz16_2⟩ := cz3f BK127.out; obtain ⟨Ao17, co17, eo17⟩ := Kd.R_slice HO126.out; subst eo17))
  go_loopg [19] k (fun kq v19 w' => ∃ (x19_1 : Int) (x128000_1 : Int) (x128001_1 : Int) (x128002_1 : List Int) (u128002 : Value), v19 = .int .i64 x19_1 ∧ Aside0 (bitmap_Turn.l0 kq (Int.tmod (wrap64 ((Int.tmod a1 4) + 4)) 4) x19_1 x128000_1 x128001_1 x128002_1 = some (r1, r2, r3, r4)) ∧ Aside0 (kq ≤ k) ∧ Aside0 (Kd.R (Kd.int .u8) 5 w' w.heap.size (fun _ => True) u128002 x128002_1) ∧ Aside0 (w'.heap[gb119]? = some (.cells #[.int .i64 a0_0, .int .i64 a0_1, (.slice A0_2 l0_2.length c0_2)] 24 (0, 0))) ∧ Aside0 (w'.heap[gb120]? = some (.cells #[.int .i64 0, .int .i64 0, (.slice none 0 0)] 24 (0, 0))) ∧ Aside0 (w'.heap[gb127]? = some (.cells #[.int .i64 x128000_1, .int .i64 x128001_1, u128002] 24 (0, 0))) ∧ Aside0 (Below w.heap.size w w'))
  case atStart => exact ⟨(0), (t122), (t123), (t124), (.slice Ao17 t124.length co17), rq, H', ⟨Nat.le_refl _⟩, ⟨rU (Kd.R_mono (Kd.R_far (p := ⟨gb127, 2, none⟩) (Kd.R_far (p := ⟨gb127, 1, none⟩) (Kd.R_far (p := ⟨gb127, 0, none⟩) (Kd.R_types HO126.out BK127.out (by decide)) (fun _ hk => hk.2) (.int .i64 t122)) (fun _ hk => hk.2) (.int .i64 t123)) (fun _ hk => hk.2) (.slice Ao17 t124.length co17)) (fun _ hk => trivial))⟩, ⟨by (with_reducible repeat (first | refine blk_drewN ?_ _ | refine blk_drew ?_ | refine blk_alloc ?_ _)); refine blk_far ?_ NB119_127.out _; (with_reducible repeat (first | refine blk_drewN ?_ _ | refine blk_drew ?_ | refine blk_alloc ?_ _)); refine blk_far ?_ NB119_127.out _; (with_reducible repeat (first | refine blk_drewN ?_ _ | refine blk_drew ?_ | refine blk_alloc ?_ _)); refine blk_far ?_ NB119_127.out _; (with_reducible repeat (first | refine blk_drewN ?_ _ | refine blk_drew ?_ | refine blk_alloc ?_ _)); exact BK119.out⟩, ⟨by (with_reducible repeat (first | refine blk_drewN ?_ _ | refine blk_drew ?_ | refine blk_alloc ?_ _)); refine blk_far ?_ NB120_127.out _; (with_reducible repeat (first | refine blk_drewN ?_ _ | refine blk_drew ?_ | refine blk_alloc ?_ _)); refine blk_far ?_ NB120_127.out _; (with_reducible repeat (first | refine blk_drewN ?_ _ | refine blk_drew ?_ | refine blk_alloc ?_ _)); refine blk_far ?_ NB120_127.out _; (with_reducible repeat (first | refine blk_drewN ?_ _ | refine blk_drew ?_ | refine blk_alloc ?_ _)); exact BK120.out⟩, ⟨by (with_reducible repeat (first | refine blk_drewN ?_ _ | refine blk_drew ?_ | refine blk_alloc ?_ _)); refine blk_put (cs := #[.int .i64 t122, .int .i64 t123, .slice none 0 0]) ?_ 2 _ rfl; (with_reducible repeat (first | refine blk_drewN ?_ _ | refine blk_drew ?_ | refine blk_alloc ?_ _)); refine blk_put (cs := #[.int .i64 t122, .int .i64 0, .slice none 0 0]) ?_ 1 _ rfl; (with_reducible repeat (first | refine blk_drewN ?_ _ | refine blk_drew ?_ | refine blk_alloc ?_ _)); refine blk_put (cs := #[.int .i64 0, .int .i64 0, .slice none 0 0]) ?_ 0 _ rfl; (with_reducible repeat (first | refine blk_drewN ?_ _ | refine blk_drew ?_ | refine blk_alloc ?_ _)); exact BK127.out⟩, ⟨bl⟩⟩
  case round =>
   clear H'
   obtain ⟨x19_1, x128000_1, x128001_1, x128002_1, u128002, rfl, HA, HK1, HO_128002, BK119, BK120, BK127, HB⟩ := hrel
   cases gk with
   | zero => exact absurd HA.out (by simp [bitmap_Turn.l0])
   | succ k1 =>
    have H := HA.out
    clear HA
    simp only [bitmap_Turn.l0] at H
    by_cases c18 : x19_1 < (Int.tmod (wrap64 ((Int.tmod a1 4) + 4)) 4)
    ·rw [if_pos c18] at H
     have c18b0 := decide_eq_true c18
     clear c18
     by_cases c19 : 0 ≤ (x128002_1.length : Int)
     ·rw [if_pos c19] at H
      have c19b0 := eq_true c19
      have c19b1 := decide_eq_true c19
      clear c19
      by_cases c20 : ((x128002_1.length : Int) : Int).toNat ≤ 281474976710656
      ·rw [if_pos c20] at H
       have c20b0 := eq_true c20
       have c20b1 := decide_eq_true c20
       clear c20
       obtain ⟨y128, hy_⟩ : ∃ y_ : List Int, y_ = (List.replicate ((x128002_1.length : Int) : Int).toNat 0) := ⟨_, rfl⟩
       replace H : (bitmap_Turn.l1 k1 (Int.tmod (wrap64 ((Int.tmod a1 4) + 4)) 4) x19_1 (y128.length : Int) 0 x128000_1 x128001_1 x128002_1 x128001_1 x128000_1 y128) = some (r1, r2, r3, r4) := rh
       have Ny128 := aE hy_
       clear hy_
       have H' := Aside0.mk H
       clear H
       try go_wp2
       have n_ := aC (Kd.R_drew HO_128002.out) (aC (blk_drew BK119.out) (aC (blk_drew BK120.out) (aC (blk_drew BK127.out) (aE (below_drew1 HB.out)))))
       clear HO_128002 BK119 BK120 BK127 HB
       obtain ⟨HO_128002, BK119, BK120, BK127, HB⟩ := n_
       obtain ⟨Ao22, co22, eo22⟩ := Kd.R_slice HO_128002.out
       (first | subst eo22 | (injection eo22 with f1_ f2_ f3_; have f4_ := f1_.symm; have f5_ := f3_.symm; clear f1_ f2_ f3_; subst f4_; subst f5_))
       refine st 11 (fun w' => w'.cell? ⟨gb127, 0, none⟩ = some (.int .i64 x128000_1) ∧ w'.cell? ⟨gb127, 1, none⟩ = some (.int .i64 x128001_1) ∧ w'.cell? ⟨gb127, 2, none⟩ = some (.slice Ao22 x128002_1.length co22)) [] (bv 11 0) bitmap_Turn.tab6 bitmap_Turn.bits6 ⟨kc0 BK127.out, kc1 BK127.out, kc2 BK127.out⟩ (fun hHeld HT_ HW_ => ?_)
       generalize wr.drew = w21 at HO_128002 BK119 BK120 BK127 HB hHeld ⊢
       refine pu 0 21 (bv 11 1) HT_ rfl rfl ?_
       refine pu 2 23 (bv 11 5) HT_ rfl rfl ?_
       refine pu 4 25 (bv 11 21) HT_ rfl rfl ?_
       refine tk 1 22 (bv 11 23) HT_ HW_ hHeld rfl rfl (by rintro w' ⟨s0, s1, s2⟩; exact yl) ?_
       refine tk 3 24 (bv 11 31) HT_ HW_ hHeld rfl rfl (by rintro w' ⟨s0, s1, s2⟩; exact yl) ?_
       refine tk 5 26 (bv 11 63) HT_ HW_ hHeld rfl rfl (by rintro w' ⟨s0, s1, s2⟩; exact yl) ?_
       refine pu 6 27 (bv 11 127) HT_ rfl rfl ?_
       refine join_ (σ := Value × Nat) 1 #[true, true, true, true, true, true, true, true, true, true, false] (fun s_ => [(28, s_.1), (7, .pointer (some ⟨s_.2, 0, none⟩)), (29, .agg #[.int .i64 x128001_1, .int .i64 x128000_1, s_.1])]) (fun s_ w' => (w'.cell? ⟨gb127, 0, none⟩ = some (.int .i64 x128000_1) ∧ w'.cell? ⟨gb127, 1, none⟩ = some (.int .i64 x128001_1) ∧ w'.cell? ⟨gb127, 2, none⟩ = some (.slice Ao22 x128002_1.length co22)) ∧ (Kd.R (Kd.int .u8) 5 w' w.heap.size (fun k_ => some k_ ≠ (.slice Ao22 x128002_1.length co22 : Value).ownBlock) s_.1 y128) ∧ (Kd.R (Kd.int .u8) 5 w' w.heap.size (fun k_ => some k_ ≠ (s_.1 : Value).ownBlock) (.slice Ao22 x128002_1.length co22) x128002_1) ∧ (w'.heap[gb119]? = some (.cells #[.int .i64 a0_0, .int .i64 a0_1, .slice A0_2 l0_2.length c0_2] 24 (0, 0))) ∧ (w'.heap[gb120]? = some (.cells #[.int .i64 0, .int .i64 0, .slice none 0 0] 24 (0, 0))) ∧ (w'.heap[gb127]? = some (.cells #[.int .i64 x128000_1, .int .i64 x128001_1, .slice Ao22 x128002_1.length co22] 24 (0, 0))) ∧ (w'.heap[s_.2]? = some (.cells #[.int .i64 0, .int .i64 0, .slice none 0 0] 24 (0, 0))) ∧ (w.heap.size ≤ s_.2) ∧ (w.heap.size ≤ s_.2) ∧ (gb119 ≠ s_.2) ∧ (s_.2 ≠ gb119) ∧ (gb120 ≠ s_.2) ∧ (s_.2 ≠ gb120) ∧ (gb127 ≠ s_.2) ∧ (s_.2 ≠ gb127) ∧ (Below w.heap.size w w')) ?_ ?_
       rotate_left
       ·intro hCont
        refine two_ (i := 7) (j := 9) (Ni := some 28) (Nj := some 7) #[true, true, true, true, true, true, true, true, false, false, false] #[true, true, true, true, true, true, true, false, false, true, false] rfl rfl rfl rfl (two_of HT_.out (by kernel_rfl)) (by decide) (by decide) (fun K hK => ?_) (fun K hK => ?_)
        ·skip
         refine Kd.R_make_step (Kd.int .u8) _ 5 (by rfl) (N := 28) rfl 22 _ _ rfl (x128002_1.length : Int) rfl rfl Tryd.underlying22 (.int .u8 0) 1 info5 rfl (by decide) (by omega) 0 (ok := fun _ => True) (okp := fun _ => True) rfl (fun _ hk => hk) trivial (dt) (Nat.le_trans (Nat.mul_le_mul_right _ (dt : (x128002_1.length : Int).toNat ≤ 281474976710656)) (by omega)) (Below.refl _ _) (Nat.le_refl _) ?_
         intro v129 w23 ho24 hb hg_ hnew_
         clear hg_ hnew_
         (first | rw [← Ny128.out] at ho24 | (simp only [Int.reduceToNat] at ho24; rw [← Ny128.out] at ho24))
         have n_ := aC (Kd.R_elder' (rU HO_128002.out) (Kd.R_base ho24) hb) (aC (Kd.R_lower (Kd.R_new' ho24 (Kd.R_lt (rU HO_128002.out))) bz) (aC (blk_below (bU BK119.out) hb) (aC (blk_below (bU BK120.out) hb) (aC (blk_below (bU BK127.out) hb) (aE (bs hb))))))
         clear HO_128002 BK119 BK120 BK127 HB
         obtain ⟨HO_128002, HO130, BK119, BK120, BK127, HB⟩ := n_
         clear hb ho24
         obtain ⟨Ao25, co25, eo25⟩ := Kd.R_slice HO130.out
         (first | subst eo25 | (injection eo25 with f1_ f2_ f3_; have f4_ := f1_.symm; have f5_ := f3_.symm; clear f1_ f2_ f3_; subst f4_; subst f5_))
         refine hK.out _ _ ⟨kc0 BK127.out, kc1 BK127.out, kc2 BK127.out⟩ (fun hHeld => ?_)
         clear hK K
         refine nm (some 28) ?_
         refine pu 8 29 (bv 11 511) HT_ rfl rfl ?_
         refine one_ (i := 9) (N := some 7) (bv 11 1023) rfl rfl (one_of HT_.out (by kernel_rfl)) (by decide) (fun K hK => ?_)
         refine box_step ?hg (N := 7) ?hd (cs := #[.int .i64 0, .int .i64 0, .slice none 0 0]) (t := 24) ?hr ?_; (case hd => rfl); (case hg => rfl); (case hr => first | (go_simp; done) | (go_simp; rfl))
         intro gb131 hg w26 hbox hb
         have n_ := aC (Kd.R_below (rU HO_128002.out) hb) (aC (Kd.R_below (rU HO130.out) hb) (aC (blk_below (bU BK119.out) hb) (aC (blk_below (bU BK120.out) hb) (aC (blk_below (bU BK127.out) hb) (aC (bs hb) (aC hbox (aC (gz hg) (aC (gz hg) (aC (gn hg (bU BK119.out)) (aC (gm hg (bU BK119.out)) (aC (gn hg (bU BK120.out)) (aC (gm hg (bU BK120.out)) (aC (gn hg (bU BK127.out)) (aE (gm hg (bU BK127.out))))))))))))))))
         clear HO_128002 HO130 BK119 BK120 BK127 HB
         obtain ⟨HO_128002, HO130, BK119, BK120, BK127, HB, BK131, GW131, GE131, NB119_131, NB131_119, NB120_131, NB131_120, NB127_131, NB131_127⟩ := n_
         clear hb hbox hg
         refine hK.out _ _ ⟨kc0 BK127.out, kc1 BK127.out, kc2 BK127.out⟩ (fun hHeld => ?_)
         clear hK K
         refine nm (some 7) ?_
         exact norm_ (by simp only [putAll, Act.put, List.setIfInBounds_toArray, List.set_cons_zero, List.set_cons_succ]) (hCont (.slice Ao25 y128.length co25, gb131) _ ⟨hHeld, (rU (Kd.R_mono HO130.out (fun _ hk => hk.2))), (rU (Kd.R_mono HO_128002.out (fun _ hk => hk.2))), (bU BK119.out), (bU BK120.out), (bU BK127.out), (bU BK131.out), GW131.out, GE131.out, NB119_131.out, NB131_119.out, NB120_131.out, NB131_120.out, NB127_131.out, NB131_127.out, bl⟩)
        ·skip
         refine box_step ?hg (N := 7) ?hd (cs := #[.int .i64 0, .int .i64 0, .slice none 0 0]) (t := 24) ?hr ?_; (case hd => rfl); (case hg => rfl); (case hr => first | (go_simp; done) | (go_simp; rfl))
         intro gb131 hg w23 hbox hb
         have n_ := aC (Kd.R_below (rU HO_128002.out) hb) (aC (blk_below (bU BK119.out) hb) (aC (blk_below (bU BK120.out) hb) (aC (blk_below (bU BK127.out) hb) (aC (bs hb) (aC hbox (aC (gz hg) (aC (gz hg) (aC (gn hg (bU BK119.out)) (aC (gm hg (bU BK119.out)) (aC (gn hg (bU BK120.out)) (aC (gm hg (bU BK120.out)) (aC (gn hg (bU BK127.out)) (aE (gm hg (bU BK127.out)))))))))))))))
         clear HO_128002 BK119 BK120 BK127 HB
         obtain ⟨HO_128002, BK119, BK120, BK127, HB, BK131, GW131, GE131, NB119_131, NB131_119, NB120_131, NB131_120, NB127_131, NB131_127⟩ := n_
         clear hb hbox hg
         refine hK.out _ _ ⟨kc0 BK127.out, kc1 BK127.out, kc2 BK127.out⟩ (fun hHeld => ?_)
         clear hK K
         refine nm (some 7) ?_
         refine one_ (i := 7) (N := some 28) (bv 11 767) rfl rfl (one_of HT_.out (by kernel_rfl)) (by decide) (fun K hK => ?_)
         refine Kd.R_make_step (Kd.int .u8) _ 5 (by rfl) (N := 28) rfl 22 _ _ rfl (x128002_1.length : Int) rfl rfl Tryd.underlying22 (.int .u8 0) 1 info5 rfl (by decide) (by omega) 0 (ok := fun _ => True) (okp := fun _ => True) rfl (fun _ hk => hk) trivial (dt) (Nat.le_trans (Nat.mul_le_mul_right _ (dt : (x128002_1.length : Int).toNat ≤ 281474976710656)) (by omega)) (Below.refl _ _) (Nat.le_refl _) ?_
         intro v129 w24 ho25 hb hg_ hnew_
         clear hg_ hnew_
         (first | rw [← Ny128.out] at ho25 | (simp only [Int.reduceToNat] at ho25; rw [← Ny128.out] at ho25))
         have n_ := aC (Kd.R_elder' (rU HO_128002.out) (Kd.R_base ho25) hb) (aC (Kd.R_lower (Kd.R_new' ho25 (Kd.R_lt (rU HO_128002.out))) bz) (aC (blk_below (bU BK119.out) hb) (aC (blk_below (bU BK120.out) hb) (aC (blk_below (bU BK127.out) hb) (aC (blk_below (bU BK131.out) hb) (aE (bs hb)))))))
         clear HO_128002 BK119 BK120 BK127 BK131 HB
         obtain ⟨HO_128002, HO130, BK119, BK120, BK127, BK131, HB⟩ := n_
         clear hb ho25
         obtain ⟨Ao26, co26, eo26⟩ := Kd.R_slice HO130.out
         (first | subst eo26 | (injection eo26 with f1_ f2_ f3_; have f4_ := f1_.symm; have f5_ := f3_.symm; clear f1_ f2_ f3_; subst f4_; subst f5_))
         refine hK.out _ _ ⟨kc0 BK127.out, kc1 BK127.out, kc2 BK127.out⟩ (fun hHeld => ?_)
         clear hK K
         refine nm (some 28) ?_
         refine pu 8 29 (bv 11 1023) HT_ rfl rfl ?_
         exact norm_ (by simp only [putAll, Act.put, List.setIfInBounds_toArray, List.set_cons_zero, List.set_cons_succ]) (hCont (.slice Ao26 y128.length co26, gb131) _ ⟨hHeld, (rU (Kd.R_mono HO130.out (fun _ hk => hk.2))), (rU (Kd.R_mono HO_128002.out (fun _ hk => hk.2))), (bU BK119.out), (bU BK120.out), (bU BK127.out), (bU BK131.out), GW131.out, GE131.out, NB119_131.out, NB131_119.out, NB120_131.out, NB131_120.out, NB127_131.out, NB131_127.out, bl⟩)
       rintro ⟨v129, gb131⟩ w27 ⟨hS_, h0_, h1_, h2_, h3_, h4_, h5_, h6_, h7_, h8_, h9_, h10_, h11_, h12_, h13_, h14_⟩
       have n0_ : Aside0 (Kd.R (Kd.int .u8) 5 w27 w.heap.size (fun k_ => some k_ ≠ (.slice Ao22 x128002_1.length co22 : Value).ownBlock) v129 y128) := ⟨h0_⟩
       have n1_ : Aside0 (Kd.R (Kd.int .u8) 5 w27 w.heap.size (fun k_ => some k_ ≠ (v129 : Value).ownBlock) (.slice Ao22 x128002_1.length co22) x128002_1) := ⟨h1_⟩
       have n2_ : Aside0 (w27.heap[gb119]? = some (.cells #[.int .i64 a0_0, .int .i64 a0_1, .slice A0_2 l0_2.length c0_2] 24 (0, 0))) := ⟨h2_⟩
       have n3_ : Aside0 (w27.heap[gb120]? = some (.cells #[.int .i64 0, .int .i64 0, .slice none 0 0] 24 (0, 0))) := ⟨h3_⟩
       have n4_ : Aside0 (w27.heap[gb127]? = some (.cells #[.int .i64 x128000_1, .int .i64 x128001_1, .slice Ao22 x128002_1.length co22] 24 (0, 0))) := ⟨h4_⟩
       have n5_ : Aside0 (w27.heap[gb131]? = some (.cells #[.int .i64 0, .int .i64 0, .slice none 0 0] 24 (0, 0))) := ⟨h5_⟩
       have n6_ : Aside0 (w.heap.size ≤ gb131) := ⟨h6_⟩
       have n7_ : Aside0 (w.heap.size ≤ gb131) := ⟨h7_⟩
       have n8_ : Aside0 (gb119 ≠ gb131) := ⟨h8_⟩
       have n9_ : Aside0 (gb131 ≠ gb119) := ⟨h9_⟩
       have n10_ : Aside0 (gb120 ≠ gb131) := ⟨h10_⟩
       have n11_ : Aside0 (gb131 ≠ gb120) := ⟨h11_⟩
       have n12_ : Aside0 (gb127 ≠ gb131) := ⟨h12_⟩
       have n13_ : Aside0 (gb131 ≠ gb127) := ⟨h13_⟩
       have n14_ : Aside0 (Below w.heap.size w w27) := ⟨h14_⟩
       clear HO_128002
       clear BK119
       clear BK120
       clear BK127
       clear HB
       clear h0_ h1_ h2_ h3_ h4_ h5_ h6_ h7_ h8_ h9_ h10_ h11_ h12_ h13_ h14_
       have HO130 := n0_
       have HO_128002 := n1_
       have BK119 := n2_
       have BK120 := n3_
       have BK127 := n4_
       have BK131 := n5_
       have GW131 := n6_
       have GE131 := n7_
       have NB119_131 := n8_
       have NB131_119 := n9_
       have NB120_131 := n10_
       have NB131_120 := n11_
       have NB127_131 := n12_
       have NB131_127 := n13_
       have HB := n14_
       clear n0_ n1_ n2_ n3_ n4_ n5_ n6_ n7_ n8_ n9_ n10_ n11_ n12_ n13_ n14_
       have hHeld : w27.cell? ⟨gb127, 0, none⟩ = some (.int .i64 x128000_1) ∧ w27.cell? ⟨gb127, 1, none⟩ = some (.int .i64 x128001_1) ∧ w27.cell? ⟨gb127, 2, none⟩ = some (.slice Ao22 x128002_1.length co22) := hS_
       obtain ⟨Ao28, co28, eo28⟩ := Kd.R_slice HO130.out
       (first | subst eo28 | (injection eo28 with f1_ f2_ f3_; have f4_ := f1_.symm; have f5_ := f3_.symm; clear f1_ f2_ f3_; subst f4_; subst f5_))
       refine norm_ (a' := ?_) ?_ ?_
       rotate_left
       ·simp only [putAll, Act.put, List.setIfInBounds_toArray, List.set_cons_zero, List.set_cons_succ]
        rfl
       refine one_ (i := 10) (N := none) (bv 11 2047) rfl rfl (one_of HT_.out (by kernel_rfl)) (by decide) (fun K hK => ?_)
       have hs29 : w27.cell? ⟨gb131, 0, none⟩ = some (.int .i64 0) := (blk_cell BK131.out 0).trans rfl
       have hfs29 := blk_frozen BK131.out 0
       have hns29_0 := NB119_131.out
       have hns29_1 := NB120_131.out
       have hns29_2 := NB127_131.out
       have hms29_0 := NB131_119.out
       have hms29_1 := NB131_120.out
       have hms29_2 := NB131_127.out
       have hs30 : w27.cell? ⟨gb131, 1, none⟩ = some (.int .i64 0) := (blk_cell BK131.out 1).trans rfl
       have hfs30 := blk_frozen BK131.out 1
       have hns30_0 := NB119_131.out
       have hns30_1 := NB120_131.out
       have hns30_2 := NB127_131.out
       have hms30_0 := NB131_119.out
       have hms30_1 := NB131_120.out
       have hms30_2 := NB131_127.out
       have hs31 : w27.cell? ⟨gb131, 2, none⟩ = some (.slice none 0 0) := (blk_cell BK131.out 2).trans rfl
       have hfs31 := blk_frozen BK131.out 2
       have hns31_0 := NB119_131.out
       have hns31_1 := NB120_131.out
       have hns31_2 := NB127_131.out
       have hms31_0 := NB131_119.out
       have hms31_1 := NB131_120.out
       have hms31_2 := NB131_127.out
       refine skip_ (w1 := ?_) (by rfl) rfl ?_ ?_
       rotate_left
       ·go_simp
        rfl
       refine hK.out _ _ ⟨((cell_far (p := ⟨gb131, _, none⟩) NB127_131.out _).trans (((cell_far (p := ⟨gb131, _, none⟩) NB127_131.out _).trans (((cell_far (p := ⟨gb131, _, none⟩) NB127_131.out _).trans (hHeld.1)))))), ((cell_far (p := ⟨gb131, _, none⟩) NB127_131.out _).trans (((cell_far (p := ⟨gb131, _, none⟩) NB127_131.out _).trans (((cell_far (p := ⟨gb131, _, none⟩) NB127_131.out _).trans (hHeld.2.1)))))), ((cell_far (p := ⟨gb131, _, none⟩) NB127_131.out _).trans (((cell_far (p := ⟨gb131, _, none⟩) NB127_131.out _).trans (((cell_far (p := ⟨gb131, _, none⟩) NB127_131.out _).trans (hHeld.2.2))))))⟩ (fun hHeld => ?_)
       clear hK K
       refine done_ (done_of HT_.out (by kernel_rfl)) ?_
       have hnb32 := NB131_119.out
       have hnc32 := NB119_131.out
       have hnb33 := NB131_120.out
       have hnc33 := NB120_131.out
       have hnb34 := NB131_127.out
       have hnc34 := NB127_131.out
       obtain ⟨hcz35_0, hcz35_1, hcz35_2, hfz35_0, hfz35_1, hfz35_2⟩ := cz3f BK131.out
       try go_wp2
       go_loopg [33] k1 (fun kq v33 w' => ∃ (x33_2 : Int) (x128002_2 : List Int) (x132002_2 : List Int) (u128002 : Value) (u132002 : Value), v33 = .int .i64 x33_2 ∧ Aside0 (bitmap_Turn.l1 kq (Int.tmod (wrap64 ((Int.tmod a1 4) + 4)) 4) x19_1 (y128.length : Int) x33_2 x128000_1 x128001_1 x128002_2 x128001_1 x128000_1 x132002_2 = some (r1, r2, r3, r4)) ∧ Aside0 (kq ≤ k1) ∧ Aside0 (Kd.R (Kd.int .u8) 5 w' w.heap.size (fun k_ => some k_ ≠ (u132002 : Value).ownBlock) u128002 x128002_2) ∧ Aside0 (Kd.R (Kd.int .u8) 5 w' w.heap.size (fun k_ => some k_ ≠ (u128002 : Value).ownBlock) u132002 x132002_2) ∧ Aside0 (w'.heap[gb119]? = some (.cells #[.int .i64 a0_0, .int .i64 a0_1, (.slice A0_2 l0_2.length c0_2)] 24 (0, 0))) ∧ Aside0 (w'.heap[gb120]? = some (.cells #[.int .i64 0, .int .i64 0, (.slice none 0 0)] 24 (0, 0))) ∧ Aside0 (w'.heap[gb127]? = some (.cells #[.int .i64 x128000_1, .int .i64 x128001_1, u128002] 24 (0, 0))) ∧ Aside0 (w'.heap[gb131]? = some (.cells #[.int .i64 x128001_1, .int .i64 x128000_1, u132002] 24 (0, 0))) ∧ Aside0 (Below w.heap.size w w'))
       case atStart => exact ⟨(0), (x128002_1), (y128), (.slice Ao22 x128002_1.length co22), (.slice Ao28 y128.length co28), rq, H', ⟨Nat.le_refl _⟩, ⟨rU (Kd.R_mono (Kd.R_far (p := ⟨gb131, 2, none⟩) (Kd.R_far (p := ⟨gb131, 1, none⟩) (Kd.R_far (p := ⟨gb131, 0, none⟩) (Kd.R_types HO_128002.out BK131.out (by decide)) (fun _ hk => hk.2) (.int .i64 x128001_1)) (fun _ hk => hk.2) (.int .i64 x128000_1)) (fun _ hk => hk.2) (.slice Ao28 y128.length co28)) (fun _ hk => hk.1))⟩, ⟨rU (Kd.R_mono (Kd.R_far (p := ⟨gb131, 2, none⟩) (Kd.R_far (p := ⟨gb131, 1, none⟩) (Kd.R_far (p := ⟨gb131, 0, none⟩) (Kd.R_types HO130.out BK131.out (by decide)) (fun _ hk => hk.2) (.int .i64 x128001_1)) (fun _ hk => hk.2) (.int .i64 x128000_1)) (fun _ hk => hk.2) (.slice Ao28 y128.length co28)) (fun _ hk => hk.1))⟩, ⟨by (with_reducible repeat (first | refine blk_drewN ?_ _ | refine blk_drew ?_ | refine blk_alloc ?_ _)); refine blk_far ?_ NB119_131.out _; (with_reducible repeat (first | refine blk_drewN ?_ _ | refine blk_drew ?_ | refine blk_alloc ?_ _)); refine blk_far ?_ NB119_131.out _; (with_reducible repeat (first | refine blk_drewN ?_ _ | refine blk_drew ?_ | refine blk_alloc ?_ _)); refine blk_far ?_ NB119_131.out _; (with_reducible repeat (first | refine blk_drewN ?_ _ | refine blk_drew ?_ | refine blk_alloc ?_ _)); exact BK119.out⟩, ⟨by (with_reducible repeat (first | refine blk_drewN ?_ _ | refine blk_drew ?_ | refine blk_alloc ?_ _)); refine blk_far ?_ NB120_131.out _; (with_reducible repeat (first | refine blk_drewN ?_ _ | refine blk_drew ?_ | refine blk_alloc ?_ _)); refine blk_far ?_ NB120_131.out _; (with_reducible repeat (first | refine blk_drewN ?_ _ | refine blk_drew ?_ | refine blk_alloc ?_ _)); refine blk_far ?_ NB120_131.out _; (with_reducible repeat (first | refine blk_drewN ?_ _ | refine blk_drew ?_ | refine blk_alloc ?_ _)); exact BK120.out⟩, ⟨by (with_reducible repeat (first | refine blk_drewN ?_ _ | refine blk_drew ?_ | refine blk_alloc ?_ _)); refine blk_far ?_ NB127_131.out _; (with_reducible repeat (first | refine blk_drewN ?_ _ | refine blk_drew ?_ | refine blk_alloc ?_ _)); refine blk_far ?_ NB127_131.out _; (with_reducible repeat (first | refine blk_drewN ?_ _ | refine blk_drew ?_ | refine blk_alloc ?_ _)); refine blk_far ?_ NB127_131.out _; (with_reducible repeat (first | refine blk_drewN ?_ _ | refine blk_drew ?_ | refine blk_alloc ?_ _)); exact BK127.out⟩, ⟨by (with_reducible repeat (first | refine blk_drewN ?_ _ | refine blk_drew ?_ | refine blk_alloc ?_ _)); refine blk_put (cs := #[.int .i64 x128001_1, .int .i64 x128000_1, .slice none 0 0]) ?_ 2 _ rfl; (with_reducible repeat (first | refine blk_drewN ?_ _ | refine blk_drew ?_ | refine blk_alloc ?_ _)); refine blk_put (cs := #[.int .i64 x128001_1, .int .i64 0, .slice none 0 0]) ?_ 1 _ rfl; (with_reducible repeat (first | refine blk_drewN ?_ _ | refine blk_drew ?_ | refine blk_alloc ?_ _)); refine blk_put (cs := #[.int .i64 0, .int .i64 0, .slice none 0 0]) ?_ 0 _ rfl; (with_reducible repeat (first | refine blk_drewN ?_ _ | refine blk_drew ?_ | refine blk_alloc ?_ _)); exact BK131.out⟩, ⟨bl⟩⟩
       case round =>
        clear H'
        obtain ⟨x33_2, x128002_2, x132002_2, u128002, u132002, rfl, HA, HK2, HO_128002, HO_132002, BK119, BK120, BK127, BK131, HB⟩ := hrel
        cases gk with
        | zero => exact absurd HA.out (by simp [bitmap_Turn.l1])
        | succ k2 =>
         have H := HA.out
         clear HA
         simp only [bitmap_Turn.l1] at H
         by_cases c36 : x33_2 < (y128.length : Int)
         ·rw [if_pos c36] at H
          have c36b0 := decide_eq_true c36
          clear c36
          by_cases c37 : x128001_1 = 0
          ·rw [if_pos c37] at H
           exact absurd H (by simp)
          ·rw [if_neg c37] at H
           have c37b0 := beq_eq_false_iff_ne.mpr c37
           have c37b1 := bne_iff_ne.mpr c37
           replace H := Option.bind_eq_some_iff.mp H
           obtain ⟨t132, A380, H⟩ := H
           replace H : (if 0 ≤ x33_2 then (if x33_2 < (x132002_2.length : Int) then (bitmap_Turn.l1 k2 (Int.tmod (wrap64 ((Int.tmod a1 4) + 4)) 4) x19_1 (y128.length : Int) (wrap64 (x33_2 + 1)) x128000_1 x128001_1 x128002_2 x128001_1 x128000_1 (x132002_2.set (x33_2 : Int).toNat t132)) else (none)) else (none)) = some (r1, r2, r3, r4) := H
           have A38 := Aside0.mk A380
           clear A380
           by_cases c39 : 0 ≤ x33_2
           ·rw [if_pos c39] at H
            have c39b0 := decide_eq_true c39
            clear c39
            by_cases c40 : x33_2 < (x132002_2.length : Int)
            ·rw [if_pos c40] at H
             have c40b0 := decide_eq_true c40
             clear c40
             obtain ⟨y133, hy_⟩ : ∃ y_ : List Int, y_ = (x132002_2.set (x33_2 : Int).toNat t132) := ⟨_, rfl⟩
             replace H : (bitmap_Turn.l1 k2 (Int.tmod (wrap64 ((Int.tmod a1 4) + 4)) 4) x19_1 (y128.length : Int) (wrap64 (x33_2 + 1)) x128000_1 x128001_1 x128002_2 x128001_1 x128000_1 y133) = some (r1, r2, r3, r4) := rh
             have Ny133 := aE hy_
             clear hy_
             have H' := Aside0.mk H
             clear H
             try go_wp2
             have n_ := aC (Kd.R_drew HO_128002.out) (aC (Kd.R_drew HO_132002.out) (aC (blk_drew BK119.out) (aC (blk_drew BK120.out) (aC (blk_drew BK127.out) (aC (blk_drew BK131.out) (aE (below_drew1 HB.out)))))))
             clear HO_128002 HO_132002 BK119 BK120 BK127 BK131 HB
             obtain ⟨HO_128002, HO_132002, BK119, BK120, BK127, BK131, HB⟩ := n_
             obtain ⟨Ao43, co43, eo43⟩ := Kd.R_slice HO_128002.out
             (first | subst eo43 | (injection eo43 with f1_ f2_ f3_; have f4_ := f1_.symm; have f5_ := f3_.symm; clear f1_ f2_ f3_; subst f4_; subst f5_))
             refine st 19 (fun w' => w'.cell? ⟨gb131, 0, none⟩ = some (.int .i64 x128001_1) ∧ w'.cell? ⟨gb131, 1, none⟩ = some (.int .i64 x128000_1) ∧ w'.cell? ⟨gb131, 2, none⟩ = some (u132002) ∧ w'.cell? ⟨gb127, 0, none⟩ = some (.int .i64 x128000_1) ∧ w'.cell? ⟨gb127, 1, none⟩ = some (.int .i64 x128001_1) ∧ w'.cell? ⟨gb127, 2, none⟩ = some (.slice Ao43 x128002_2.length co43)) [18] (bv 19 0) bitmap_Turn.tab10 bitmap_Turn.bits10 ⟨kc0 BK131.out, kc1 BK131.out, kc2 BK131.out, kc0 BK127.out, kc1 BK127.out, kc2 BK127.out⟩ (fun hHeld HT_ HW_ => ?_)
             generalize wr.drew = w42 at HO_128002 HO_132002 BK119 BK120 BK127 BK131 HB hHeld ⊢
             refine pu 0 36 (bv 19 1) HT_ rfl rfl ?_
             refine pu 2 38 (bv 19 5) HT_ rfl rfl ?_
             refine pu 4 40 (bv 19 21) HT_ rfl rfl ?_
             refine pu 5 41 (bv 19 53) HT_ rfl rfl ?_
             refine pu 8 44 (bv 19 309) HT_ rfl rfl ?_
             refine pu 11 47 (bv 19 2357) HT_ rfl rfl ?_
             refine pu 12 48 (bv 19 6453) HT_ rfl rfl ?_
             refine tk 1 37 (bv 19 6455) HT_ HW_ hHeld rfl rfl (by rintro w' ⟨s0, s1, s2, s3, s4, s5⟩; exact yl) ?_
             refine tk 3 39 (bv 19 6463) HT_ HW_ hHeld rfl rfl (by rintro w' ⟨s0, s1, s2, s3, s4, s5⟩; exact yl) ?_
             refine tk 6 42 (bv 19 6527) HT_ HW_ hHeld rfl rfl (by rintro w' ⟨s0, s1, s2, s3, s4, s5⟩; exact yl) ?_
             refine pu 7 43 (bv 19 6655) HT_ rfl rfl ?_
             refine tk 9 45 (bv 19 7167) HT_ HW_ hHeld rfl rfl (by rintro w' ⟨s0, s1, s2, s3, s4, s5⟩; exact yl) ?_
             refine pu 10 46 (bv 19 8191) HT_ rfl rfl ?_
             refine tk 13 49 (bv 19 16383) HT_ HW_ hHeld rfl rfl (by rintro w' ⟨s0, s1, s2, s3, s4, s5⟩; exact yl) ?_
             refine pu 14 50 (bv 19 32767) HT_ rfl rfl ?_
             refine pu 15 51 (bv 19 65535) HT_ rfl rfl ?_
             refine one_ (i := 16) (N := some 52) (bv 19 131071) rfl rfl (one_of HT_.out (by kernel_rfl)) (by decide) (fun K hK => ?_)
             refine gK Tryd.func15 rfl #[.agg #[.int .i64 x128000_1, .int .i64 x128001_1, .slice Ao43 x128002_2.length co43], .int .i64 (wrap64 (Int.tdiv x33_2 x128001_1)), .int .i64 (wrap64 ((wrap64 (x128001_1 - 1)) - (Int.tmod x33_2 x128001_1)))] rfl rfl ?_
             with_reducible refine (bitmap_at.calls x128000_1 x128001_1 _ _ x128002_2 (wrap64 (Int.tdiv x33_2 x128001_1)) (wrap64 ((wrap64 (x128001_1 - 1)) - (Int.tmod x33_2 x128001_1))) t132 _ ?side1 ?side2 A38.out).mono ?_
             (case side1 => exact cU (Kd.R_reads' HO_128002.out).2.2)
             (case side2 => exact (Kd.R_reads' HO_128002.out).2.1)
             rintro e w44 ⟨rfl, hb⟩
             refine ⟨_, rfl, ?_⟩
             have n_ := aC (Kd.R_below (rU HO_128002.out) hb) (aC (Kd.R_below (rU HO_132002.out) hb) (aC (blk_below (bU BK119.out) hb) (aC (blk_below (bU BK120.out) hb) (aC (blk_below (bU BK127.out) hb) (aC (blk_below (bU BK131.out) hb) (aE (bs hb)))))))
             clear HO_128002 HO_132002 BK119 BK120 BK127 BK131 HB
             obtain ⟨HO_128002, HO_132002, BK119, BK120, BK127, BK131, HB⟩ := n_
             (try clear hb)
             (try clear hb2)
             (try clear hk)
             (try clear hi)
             have p41 : 0 ≤ (x33_2 : Int) := dt
             have q41 : (x33_2 : Int) < ((x132002_2.length : Int) : Int) := dt
             obtain ⟨go41, co41, eo41, gb41, gl41, cl41, HG41⟩ := Kd.R_form HO_132002.out (by omega)
             (first | cases eo41 | (injection eo41 with ea_ en_ ec_; (first | subst ea_ | (injection ea_ with ea_; subst ea_)); subst ec_; clear en_))
             have GB41 := Aside0.mk gb41
             have GG41 := Aside0.mk HG41
             clear gb41 gl41 HG41
             obtain ⟨hx41_0, hf41_0⟩ := Kd.R_celln 0 HO_132002.out (x33_2 : Int) p41 q41
             replace p41 := eq_true p41
             replace q41 := eq_true q41
             have HP45 := Kd.R_putn HO_132002.out (x33_2 : Int) t132
             rw [← Ny133.out] at HP45
             have HQ45 := Aside0.mk HP45
             clear HP45
             refine hK.out _ _ ⟨kc0 BK131.out, kc1 BK131.out, kc2 BK131.out, kc0 BK127.out, kc1 BK127.out, kc2 BK127.out⟩ (fun hHeld => ?_)
             clear hK K
             refine nm (some 52) ?_
             refine pu 17 53 (bv 19 262143) HT_ rfl rfl ?_
             refine last_ (i := 18) (N := none) (bv 19 524287) rfl rfl (one_of HT_.out (by kernel_rfl)) (by decide) (fun K hK => ?_)
             refine skip_ (w1 := ?_) (by rfl) rfl ?_ ?_
             rotate_left
             ·go_simp
              rfl
             refine hK.out _ _ ?_
             clear hK K
             refine done_ (done_of HT_.out (by kernel_rfl)) ?_
             try go_wp2
             go_roundg k2
             case measure => have := HK1.out; have := HK2.out; omega
             case rel => exact ⟨(wrap64 (x33_2 + 1)), (x128002_2), (y133), (.slice Ao43 x128002_2.length co43), (.slice (some ⟨go41, 0, none⟩) x132002_2.length co41), rq, H', ⟨by have := HK1.out; have := HK2.out; omega⟩, ⟨rU (Kd.R_mono (Kd.R_far (p := ⟨go41, (x33_2 : Int).toNat, none⟩) (Kd.R_mono HO_128002.out (fun k_ hk => (⟨hk, fun e_ => hk (by rw [e_]; rfl)⟩ : _ ∧ k_ ≠ go41))) (fun _ hk => hk.2) (.int .u8 t132)) (fun _ hk => hk.1))⟩, ⟨by (with_reducible repeat (first | apply Kd.R_alloc | apply Kd.R_drewN | apply Kd.R_drew)); exact HQ45.out⟩, ⟨by (with_reducible repeat (first | refine blk_drewN ?_ _ | refine blk_drew ?_ | refine blk_alloc ?_ _)); refine blk_far ?_ (by have h_ := Kd.R_ne HO_132002.out BK119.out (by decide); intro e_; exact h_ (by rw [e_]; rfl)) _; (with_reducible repeat (first | refine blk_drewN ?_ _ | refine blk_drew ?_ | refine blk_alloc ?_ _)); exact BK119.out⟩, ⟨by (with_reducible repeat (first | refine blk_drewN ?_ _ | refine blk_drew ?_ | refine blk_alloc ?_ _)); refine blk_far ?_ (by have h_ := Kd.R_ne HO_132002.out BK120.out (by decide); intro e_; exact h_ (by rw [e_]; rfl)) _; (with_reducible repeat (first | refine blk_drewN ?_ _ | refine blk_drew ?_ | refine blk_alloc ?_ _)); exact BK120.out⟩, ⟨by (with_reducible repeat (first | refine blk_drewN ?_ _ | refine blk_drew ?_ | refine blk_alloc ?_ _)); refine blk_far ?_ (by have h_ := Kd.R_ne HO_132002.out BK127.out (by decide); intro e_; exact h_ (by rw [e_]; rfl)) _; (with_reducible repeat (first | refine blk_drewN ?_ _ | refine blk_drew ?_ | refine blk_alloc ?_ _)); exact BK127.out⟩, ⟨by (with_reducible repeat (first | refine blk_drewN ?_ _ | refine blk_drew ?_ | refine blk_alloc ?_ _)); refine blk_far ?_ (by have h_ := Kd.R_ne HO_132002.out BK131.out (by decide); intro e_; exact h_ (by rw [e_]; rfl)) _; (with_reducible repeat (first | refine blk_drewN ?_ _ | refine blk_drew ?_ | refine blk_alloc ?_ _)); exact BK131.out⟩, ⟨by repeat (first | (with_reducible first | exact HB.out | apply below_alloc | apply pw_below_drewN | apply below_drew1 | refine below_set ?_ GB41.out | refine below_set ?_ GE119.out | refine below_set ?_ GE120.out | refine below_set ?_ GE127.out | refine below_set ?_ GE131.out) | exact HB.out)⟩⟩
            ·rw [if_neg c40] at H
             exact absurd H (by simp)
           ·rw [if_neg c39] at H
            exact absurd H (by simp)
         ·rw [if_neg c36] at H
          have c36b0 := decide_eq_false c36
          clear c36
          have H' := Aside0.mk H
          clear H
          have hnb46 := NB131_119.out
          have hnc46 := NB119_131.out
          have hnb47 := NB131_120.out
          have hnc47 := NB120_131.out
          have hnb48 := NB131_127.out
          have hnc48 := NB127_131.out
          obtain ⟨hcz49_0, hcz49_1, hcz49_2, hfz49_0, hfz49_1, hfz49_2⟩ := cz3f BK131.out
          have hnb50 := NB127_119.out
          have hnc50 := NB119_127.out
          have hnb51 := NB127_120.out
          have hnc51 := NB120_127.out
          obtain ⟨hcz52_0, hcz52_1, hcz52_2, hfz52_0, hfz52_1, hfz52_2⟩ := cz3f BK127.out
          obtain ⟨Ao53, co53, eo53⟩ := Kd.R_slice HO_132002.out
          subst eo53
          go_wp2
          go_roundg k2
          case measure => have := HK1.out; have := HK2.out; omega
          case rel => exact ⟨(wrap64 (x19_1 + 1)), (x128001_1), (x128000_1), (x132002_2), (.slice Ao53 x132002_2.length co53), rq, H', ⟨by have := HK1.out; have := HK2.out; omega⟩, ⟨rU (Kd.R_mono (Kd.R_far (p := ⟨gb127, 2, none⟩) (Kd.R_far (p := ⟨gb127, 1, none⟩) (Kd.R_far (p := ⟨gb127, 0, none⟩) (Kd.R_types HO_132002.out BK127.out (by decide)) (fun _ hk => hk.2) (.int .i64 x128001_1)) (fun _ hk => hk.2) (.int .i64 x128000_1)) (fun _ hk => hk.2) (.slice Ao53 x132002_2.length co53)) (fun _ hk => trivial))⟩, ⟨by (with_reducible repeat (first | refine blk_drewN ?_ _ | refine blk_drew ?_ | refine blk_alloc ?_ _)); refine blk_far ?_ NB119_127.out _; (with_reducible repeat (first | refine blk_drewN ?_ _ | refine blk_drew ?_ | refine blk_alloc ?_ _)); refine blk_far ?_ NB119_127.out _; (with_reducible repeat (first | refine blk_drewN ?_ _ | refine blk_drew ?_ | refine blk_alloc ?_ _)); refine blk_far ?_ NB119_127.out _; (with_reducible repeat (first | refine blk_drewN ?_ _ | refine blk_drew ?_ | refine blk_alloc ?_ _)); exact BK119.out⟩, ⟨by (with_reducible repeat (first | refine blk_drewN ?_ _ | refine blk_drew ?_ | refine blk_alloc ?_ _)); refine blk_far ?_ NB120_127.out _; (with_reducible repeat (first | refine blk_drewN ?_ _ | refine blk_drew ?_ | refine blk_alloc ?_ _)); refine blk_far ?_ NB120_127.out _; (with_reducible repeat (first | refine blk_drewN ?_ _ | refine blk_drew ?_ | refine blk_alloc ?_ _)); refine blk_far ?_ NB120_127.out _; (with_reducible repeat (first | refine blk_drewN ?_ _ | refine blk_drew ?_ | refine blk_alloc ?_ _)); exact BK120.out⟩, ⟨by (with_reducible repeat (first | refine blk_drewN ?_ _ | refine blk_drew ?_ | refine blk_alloc ?_ _)); refine blk_put (cs := #[.int .i64 x128001_1, .int .i64 x128000_1, u128002]) ?_ 2 _ rfl; (with_reducible repeat (first | refine blk_drewN ?_ _ | refine blk_drew ?_ | refine blk_alloc ?_ _)); refine blk_put (cs := #[.int .i64 x128001_1, .int .i64 x128001_1, u128002]) ?_ 1 _ rfl; (with_reducible repeat (first | refine blk_drewN ?_ _ | refine blk_drew ?_ | refine blk_alloc ?_ _)); refine blk_put (cs := #[.int .i64 x128000_1, .int .i64 x128001_1, u128002]) ?_ 0 _ rfl; (with_reducible repeat (first | refine blk_drewN ?_ _ | refine blk_drew ?_ | refine blk_alloc ?_ _)); exact BK127.out⟩, ⟨bl⟩⟩
      ·rw [if_neg c20] at H
       exact absurd H (by simp)
     ·rw [if_neg c19] at H
      exact absurd H (by simp)
    ·rw [if_neg c18] at H
     have c18b0 := decide_eq_false c18
     clear c18
     simp only [Option.some.injEq, Prod.mk.injEq] at H
     obtain ⟨rfl, rfl, rfl, rfl⟩ := H
     have hnb54 := NB127_119.out
     have hnc54 := NB119_127.out
     have hnb55 := NB127_120.out
     have hnc55 := NB120_127.out
     obtain ⟨hcz56_0, hcz56_1, hcz56_2, hfz56_0, hfz56_1, hfz56_2⟩ := cz3f BK127.out
     have hnb57 := NB120_119.out
     have hnc57 := NB119_120.out
     obtain ⟨hcz58_0, hcz58_1, hcz58_2, hfz58_0, hfz58_1, hfz58_2⟩ := cz3f BK120.out
     obtain ⟨Ao59, co59, eo59⟩ := Kd.R_slice HO_128002.out
     subst eo59
     go_wp2
     refine bodyPost_ret (results_ct rfl _ _ gb120 24 #[.int .i64 x128000_1, .int .i64 x128001_1, .slice Ao59 x128002_1.length co59] (0, 0) _ rfl (by (with_reducible repeat (first | refine blk_drewN ?_ _ | refine blk_drew ?_ | refine blk_alloc ?_ _)); refine blk_put (cs := #[.int .i64 x128000_1, .int .i64 x128001_1, .slice none 0 0]) ?_ 2 _ rfl; (with_reducible repeat (first | refine blk_drewN ?_ _ | refine blk_drew ?_ | refine blk_alloc ?_ _)); refine blk_put (cs := #[.int .i64 x128000_1, .int .i64 0, .slice none 0 0]) ?_ 1 _ rfl; (with_reducible repeat (first | refine blk_drewN ?_ _ | refine blk_drew ?_ | refine blk_alloc ?_ _)); refine blk_put (cs := #[.int .i64 0, .int .i64 0, .slice none 0 0]) ?_ 0 _ rfl; (with_reducible repeat (first | refine blk_drewN ?_ _ | refine blk_drew ?_ | refine blk_alloc ?_ _)); exact BK120.out) Tryd.underlying24 rfl (by kernel_rfl)) rfl ?_
     exact ⟨_, re, rU (Kd.R_mono (Kd.R_far (p := ⟨gb120, 2, none⟩) (Kd.R_far (p := ⟨gb120, 1, none⟩) (Kd.R_far (p := ⟨gb120, 0, none⟩) (Kd.R_types HO_128002.out BK120.out (by decide)) (fun _ hk => hk.2) (.int .i64 x128000_1)) (fun _ hk => hk.2) (.int .i64 x128001_1)) (fun _ hk => hk.2) (.slice Ao59 x128002_1.length co59)) (fun _ hk => trivial)), bl⟩
 ·replace c4 := Bool.eq_false_iff.mpr c4
  subst c4
  have H1 : (some (0, 0, ([] : List Int), 30)) = some (r1, r2, r3, r4) := by rw [if_neg (show ¬ (false = true) by decide)] at H; exact H
  clear H
  have H := H1
  clear H1
  simp only [Option.some.injEq, Prod.mk.injEq] at H
  obtain ⟨rfl, rfl, rfl, rfl⟩ := H
  go_enter Tryd.func12, Tryd.ntmps12
  go_wp2_with (first | ((with_reducible refine gd 2 rfl ?_); refine bx 2 #[.int .i64 a0_0, .int .i64 a0_1, .slice A0_2 l0_2.length c0_2] 24 rfl rfl ?_; intro gb119 hg w60 hbox hb; have n_ := aC (bs hb) (aC hbox (aC (gz hg) (aE (gz hg)))); clear HB; obtain ⟨HB, BK119, GW119, GE119⟩ := n_; clear hb hbox hg) | ((with_reducible refine gd 4 rfl ?_); refine bx 4 #[.int .i64 0, .int .i64 0, .slice none 0 0] 24 rfl rfl ?_; intro gb120 hg w61 hbox hb; have n_ := aC (blk_below (bU BK119.out) hb) (aC (bs hb) (aC hbox (aC (gz hg) (aC (gz hg) (aC (gn hg (bU BK119.out)) (aE (gm hg (bU BK119.out)))))))); clear BK119 HB; obtain ⟨BK119, HB, BK120, GW120, GE120, NB119_120, NB120_119⟩ := n_; clear hb hbox hg; have hnb62 := NB119_120.out; have hnc62 := NB120_119.out; obtain ⟨hcz63_0, hcz63_1, hcz63_2, hfz63_0, hfz63_1, hfz63_2⟩ := cz3f BK119.out) | ((with_reducible refine gf 13 rfl ?_); refine gL (some 10) rfl rfl Tryd.func13 rfl #[.agg #[.int .i64 a0_0, .int .i64 a0_1, .slice A0_2 l0_2.length c0_2]] rfl ?_; (with_reducible refine (bitmap_Valid.calls k a0_0 a0_1 _ _ l0_2 false _ ?side1 ?side2 A3.out).mono ?_); (case side1 => exact cU (Kd.C_below HR0_2.out HB.out)); (case side2 => exact HC0_2.out); rintro e w64 ⟨rfl, hb⟩; refine ⟨_, rfl, ?_⟩; have n_ := aC (blk_below (bU BK119.out) hb) (aC (blk_below (bU BK120.out) hb) (aE (bs hb))); clear BK119 BK120 HB; obtain ⟨BK119, BK120, HB⟩ := n_; (try clear hb); obtain ⟨hcz65_0, hcz65_1, hcz65_2, hfz65_0, hfz65_1, hfz65_2⟩ := cz3f BK120.out))
  refine bodyPost_ret (results_ct rfl _ _ gb120 24 #[.int .i64 0, .int .i64 0, .slice none 0 0] (0, 0) _ rfl (by (with_reducible repeat (first | refine blk_drewN ?_ _ | refine blk_drew ?_ | refine blk_alloc ?_ _)); refine blk_put (cs := #[.int .i64 0, .int .i64 0, .slice none 0 0]) ?_ 2 _ rfl; (with_reducible repeat (first | refine blk_drewN ?_ _ | refine blk_drew ?_ | refine blk_alloc ?_ _)); refine blk_put (cs := #[.int .i64 0, .int .i64 0, .slice none 0 0]) ?_ 1 _ rfl; (with_reducible repeat (first | refine blk_drewN ?_ _ | refine blk_drew ?_ | refine blk_alloc ?_ _)); refine blk_put (cs := #[.int .i64 0, .int .i64 0, .slice none 0 0]) ?_ 0 _ rfl; (with_reducible repeat (first | refine blk_drewN ?_ _ | refine blk_drew ?_ | refine blk_alloc ?_ _)); exact BK120.out) Tryd.underlying24 rfl (by kernel_rfl)) rfl ?_
  exact ⟨_, re, by first | exact Kd.R_nil _ _ _ _ _ | exact Kd.N_nil _ _ _ _ _ | exact Kd.V_nil _ _ _ _ _ | exact Kd.Q_nil _ _ _ _ _ | exact Kd.S_nil _ _ _ _ _, bl⟩

end Go.Proofs.YtgcjhpcegmblgaaDoor.PBitmapParses
