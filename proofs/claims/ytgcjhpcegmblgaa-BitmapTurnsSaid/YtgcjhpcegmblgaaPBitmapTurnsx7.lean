-- Written by a program of this session (wip/tools/myprint.py) over the kit's print. Not trusted: Lean checks it.
import Derived.Test.YtgcjhpcegmblgaaPBitmapTurnsx0
import Derived.Test.YtgcjhpcegmblgaaPBitmapTurnsx1
import Derived.Test.YtgcjhpcegmblgaaPBitmapTurnsx2
import Derived.Test.YtgcjhpcegmblgaaPBitmapTurnsx3
import Derived.Test.YtgcjhpcegmblgaaPBitmapTurnsx4
import Derived.Test.YtgcjhpcegmblgaaPBitmapTurnsx5
import Derived.Test.YtgcjhpcegmblgaaPBitmapTurnsx6
namespace Go.Proofs.Ytgcjhpcegmblgaa.PBitmapTurns
open Go.RowKit Go.Proofs.YtgcjhpcegmblgaaW.PrintWords Go.Proofs.YtgcjhpcegmblgaaW.PrintLast Go.Proofs.YtgcjhpcegmblgaaW.PrintMore
attribute [local go_sem] max2_int min2_int max_two min_two max_three min_three max_four min_four   -- for this text's walks alone
set_option linter.unusedVariables false
set_option linter.unusedSimpArgs false

/-! ### incunablelaw05_BitmapTurns: function 3 -/
mutual
def incunablelaw05_BitmapTurns.j0 : Nat → Int → Int → Int → Bool → Int → Int → List Int → Int → Int → List Int → Int → Int → List Int → Option (Bool)
  | 0, _, _, _, _, _, _, _, _, _, _, _, _, _ => none
  | k + 1, x1, x2, x8, x63, x210000, x210001, x210002, x219000, x219001, x219002, x233000, x233001, x233002 => if x63 = true then (some false) else (if x8 = 0 then ((bitmap_Turn.f k x219000 x219001 x219002 (Int.tmod x2 4)).bind fun bt243 => ((bitmap_Turn.f k x210000 x210001 x210002 (wrap64 ((Int.tmod x1 4) + (Int.tmod x2 4)))).bind fun bt250 => ((bitmap_Turn.f k x219000 x219001 x219002 (wrap64 (-(Int.tmod x1 4)))).bind fun bt257 => ((bitmap_Flip.f k x233000 x233001 x233002).bind fun bt264 => (if bt243.2.2.2 = 0 then (if bt250.2.2.2 = 0 then (if bt257.2.2.2 = 0 then (incunablelaw05_BitmapTurns.j1 k (bt264.2.2.2 != 0) x210000 x210001 x210002 x219000 x219001 x219002 x233000 x233001 x233002 bt243.1 bt243.2.1 bt243.2.2.1 bt250.1 bt250.2.1 bt250.2.2.1 bt257.1 bt257.2.1 bt257.2.2.1 bt264.1 bt264.2.1 bt264.2.2.1) else (incunablelaw05_BitmapTurns.j1 k true x210000 x210001 x210002 x219000 x219001 x219002 x233000 x233001 x233002 bt243.1 bt243.2.1 bt243.2.2.1 bt250.1 bt250.2.1 bt250.2.2.1 bt257.1 bt257.2.1 bt257.2.2.1 bt264.1 bt264.2.1 bt264.2.2.1)) else (incunablelaw05_BitmapTurns.j1 k true x210000 x210001 x210002 x219000 x219001 x219002 x233000 x233001 x233002 bt243.1 bt243.2.1 bt243.2.2.1 bt250.1 bt250.2.1 bt250.2.2.1 bt257.1 bt257.2.1 bt257.2.2.1 bt264.1 bt264.2.1 bt264.2.2.1)) else (incunablelaw05_BitmapTurns.j1 k true x210000 x210001 x210002 x219000 x219001 x219002 x233000 x233001 x233002 bt243.1 bt243.2.1 bt243.2.2.1 bt250.1 bt250.2.1 bt250.2.2.1 bt257.1 bt257.2.1 bt257.2.2.1 bt264.1 bt264.2.1 bt264.2.2.1)))))) else ((incunablelaw05_Sane.f k).bind fun t242 => (some t242)))
def incunablelaw05_BitmapTurns.j1 : Nat → Bool → Int → Int → List Int → Int → Int → List Int → Int → Int → List Int → Int → Int → List Int → Int → Int → List Int → Int → Int → List Int → Int → Int → List Int → Option (Bool)
  | 0, _, _, _, _, _, _, _, _, _, _, _, _, _, _, _, _, _, _, _, _, _, _ => none
  | k + 1, x110, x210000, x210001, x210002, x219000, x219001, x219002, x233000, x233001, x233002, x250000, x250001, x250002, x257000, x257001, x257002, x264000, x264001, x264002, x271000, x271001, x271002 => if x110 = true then (some false) else ((incunableref05_Same.f x250000 x250001 x250002 x257000 x257001 x257002).bind fun t271 => (if t271 = true then ((incunableref05_Same.f x264000 x264001 x264002 x210000 x210001 x210002).bind fun t272 => (if t272 = true then ((incunableref05_Same.f x271000 x271001 x271002 x210000 x210001 x210002).bind fun t273 => (if t273 = true then ((incunableref05_Blacks.f k x219000 x219001 x219002).bind fun t274 => ((incunableref05_Blacks.f k x210000 x210001 x210002).bind fun t275 => (if t274 = t275 then ((incunableref05_Blacks.f k x233000 x233001 x233002).bind fun t276 => ((incunableref05_Blacks.f k x210000 x210001 x210002).bind fun t277 => (if t276 = t277 then ((incunablelaw05_Sane.f k).bind fun t278 => (some t278)) else (some false)))) else (some false)))) else (some false))) else (some false))) else (some false)))
end
def incunablelaw05_BitmapTurns.f (k : Nat) (a0_0 : Int) (a0_1 : Int) (l0_2 : List Int) (a1 : Int) (a2 : Int) : Option (Bool) := (incunablelaw05_Huge.f a0_0 a0_1 l0_2).bind fun t210 => (if t210 = true then ((incunablelaw05_Sane.f k).bind fun t211 => (some t211)) else ((bitmap_Turn.f k a0_0 a0_1 l0_2 a1).bind fun bt212 => ((incunableref05_Turn.f k a0_0 a0_1 l0_2 a1).bind fun bt219 => ((bitmap_Flip.f k a0_0 a0_1 l0_2).bind fun bt226 => ((incunableref05_Flip.f k a0_0 a0_1 l0_2).bind fun bt233 => (if bt212.2.2.2 = bt219.2.2.2 then (if bt226.2.2.2 = bt233.2.2.2 then ((incunableref05_Same.f bt212.1 bt212.2.1 bt212.2.2.1 bt219.1 bt219.2.1 bt219.2.2.1).bind fun t240 => (if t240 = true then ((incunableref05_Same.f bt226.1 bt226.2.1 bt226.2.2.1 bt233.1 bt233.2.1 bt233.2.2.1).bind fun t241 => (incunablelaw05_BitmapTurns.j0 k a1 a2 bt212.2.2.2 (!t241) a0_0 a0_1 l0_2 bt212.1 bt212.2.1 bt212.2.2.1 bt226.1 bt226.2.1 bt226.2.2.1)) else (incunablelaw05_BitmapTurns.j0 k a1 a2 bt212.2.2.2 true a0_0 a0_1 l0_2 bt212.1 bt212.2.1 bt212.2.2.1 bt226.1 bt226.2.1 bt226.2.2.1))) else (incunablelaw05_BitmapTurns.j0 k a1 a2 bt212.2.2.2 true a0_0 a0_1 l0_2 bt212.1 bt212.2.1 bt212.2.2.1 bt226.1 bt226.2.1 bt226.2.2.1)) else (incunablelaw05_BitmapTurns.j0 k a1 a2 bt212.2.2.2 true a0_0 a0_1 l0_2 bt212.1 bt212.2.1 bt212.2.2.1 bt226.1 bt226.2.1 bt226.2.2.1)))))))
theorem incunablelaw05_BitmapTurns.mono_l : ∀ k, (∀ y0 y1 y2 y3 y4 y5 y6 y7 y8 y9 y10 y11 y12, LeO (incunablelaw05_BitmapTurns.j0 k y0 y1 y2 y3 y4 y5 y6 y7 y8 y9 y10 y11 y12) (incunablelaw05_BitmapTurns.j0 (k + 1) y0 y1 y2 y3 y4 y5 y6 y7 y8 y9 y10 y11 y12)) ∧ (∀ y0 y1 y2 y3 y4 y5 y6 y7 y8 y9 y10 y11 y12 y13 y14 y15 y16 y17 y18 y19 y20 y21, LeO (incunablelaw05_BitmapTurns.j1 k y0 y1 y2 y3 y4 y5 y6 y7 y8 y9 y10 y11 y12 y13 y14 y15 y16 y17 y18 y19 y20 y21) (incunablelaw05_BitmapTurns.j1 (k + 1) y0 y1 y2 y3 y4 y5 y6 y7 y8 y9 y10 y11 y12 y13 y14 y15 y16 y17 y18 y19 y20 y21))
  | 0 => ⟨fun _ _ _ _ _ _ _ _ _ _ _ _ _ r h => by simp [incunablelaw05_BitmapTurns.j0] at h, fun _ _ _ _ _ _ _ _ _ _ _ _ _ _ _ _ _ _ _ _ _ _ r h => by simp [incunablelaw05_BitmapTurns.j1] at h⟩
  | k + 1 => by
    obtain ⟨ih0, ih1⟩ := incunablelaw05_BitmapTurns.mono_l k
    refine ⟨?_, ?_⟩
    · intro y0 y1 y2 y3 y4 y5 y6 y7 y8 y9 y10 y11 y12
      unfold incunablelaw05_BitmapTurns.j0
      repeat' first
      | (with_reducible exact ih0 _ _ _ _ _ _ _ _ _ _ _ _ _)
      | (with_reducible exact ih1 _ _ _ _ _ _ _ _ _ _ _ _ _ _ _ _ _ _ _ _ _ _)
      | (with_reducible exact bitmap_Flip.mono _ _ _ _)
      | (with_reducible exact bitmap_Turn.mono _ _ _ _ _)
      | (with_reducible exact incunablelaw05_Sane.mono _)
      | (with_reducible exact incunableref05_Blacks.mono _ _ _ _)
      | (with_reducible exact incunableref05_Flip.mono _ _ _ _)
      | (with_reducible exact incunableref05_Turn.mono _ _ _ _ _)
      | (with_reducible exact LeO.refl _)
      | (with_reducible exact LeO.none _)
      | (with_reducible refine LeO.ite ?_ ?_)
      | (with_reducible refine LeO.bind ?_ (fun _ => ?_))
      | exact ih0 _ _ _ _ _ _ _ _ _ _ _ _ _
      | exact ih1 _ _ _ _ _ _ _ _ _ _ _ _ _ _ _ _ _ _ _ _ _ _
      | exact bitmap_Flip.mono _ _ _ _
      | exact bitmap_Turn.mono _ _ _ _ _
      | exact incunablelaw05_Sane.mono _
      | exact incunableref05_Blacks.mono _ _ _ _
      | exact incunableref05_Flip.mono _ _ _ _
      | exact incunableref05_Turn.mono _ _ _ _ _
      | exact LeO.none _
      | refine LeO.ite ?_ ?_
      | refine LeO.bind ?_ (fun _ => ?_)
    · intro y0 y1 y2 y3 y4 y5 y6 y7 y8 y9 y10 y11 y12 y13 y14 y15 y16 y17 y18 y19 y20 y21
      unfold incunablelaw05_BitmapTurns.j1
      repeat' first
      | (with_reducible exact ih0 _ _ _ _ _ _ _ _ _ _ _ _ _)
      | (with_reducible exact ih1 _ _ _ _ _ _ _ _ _ _ _ _ _ _ _ _ _ _ _ _ _ _)
      | (with_reducible exact bitmap_Flip.mono _ _ _ _)
      | (with_reducible exact bitmap_Turn.mono _ _ _ _ _)
      | (with_reducible exact incunablelaw05_Sane.mono _)
      | (with_reducible exact incunableref05_Blacks.mono _ _ _ _)
      | (with_reducible exact incunableref05_Flip.mono _ _ _ _)
      | (with_reducible exact incunableref05_Turn.mono _ _ _ _ _)
      | (with_reducible exact LeO.refl _)
      | (with_reducible exact LeO.none _)
      | (with_reducible refine LeO.ite ?_ ?_)
      | (with_reducible refine LeO.bind ?_ (fun _ => ?_))
      | exact ih0 _ _ _ _ _ _ _ _ _ _ _ _ _
      | exact ih1 _ _ _ _ _ _ _ _ _ _ _ _ _ _ _ _ _ _ _ _ _ _
      | exact bitmap_Flip.mono _ _ _ _
      | exact bitmap_Turn.mono _ _ _ _ _
      | exact incunablelaw05_Sane.mono _
      | exact incunableref05_Blacks.mono _ _ _ _
      | exact incunableref05_Flip.mono _ _ _ _
      | exact incunableref05_Turn.mono _ _ _ _ _
      | exact LeO.none _
      | refine LeO.ite ?_ ?_
      | refine LeO.bind ?_ (fun _ => ?_)
theorem incunablelaw05_BitmapTurns.mono : ∀ a0 a1 a2 a3 a4 k, LeO (incunablelaw05_BitmapTurns.f k a0 a1 a2 a3 a4) (incunablelaw05_BitmapTurns.f (k + 1) a0 a1 a2 a3 a4) := by
  intro a0 a1 a2 a3 a4 k
  obtain ⟨ih0, ih1⟩ := incunablelaw05_BitmapTurns.mono_l k
  unfold incunablelaw05_BitmapTurns.f
  repeat' first
      | (with_reducible exact ih0 _ _ _ _ _ _ _ _ _ _ _ _ _)
      | (with_reducible exact ih1 _ _ _ _ _ _ _ _ _ _ _ _ _ _ _ _ _ _ _ _ _ _)
      | (with_reducible exact bitmap_Flip.mono _ _ _ _)
      | (with_reducible exact bitmap_Turn.mono _ _ _ _ _)
      | (with_reducible exact incunablelaw05_Sane.mono _)
      | (with_reducible exact incunableref05_Blacks.mono _ _ _ _)
      | (with_reducible exact incunableref05_Flip.mono _ _ _ _)
      | (with_reducible exact incunableref05_Turn.mono _ _ _ _ _)
      | (with_reducible exact LeO.refl _)
      | (with_reducible exact LeO.none _)
      | (with_reducible refine LeO.ite ?_ ?_)
      | (with_reducible refine LeO.bind ?_ (fun _ => ?_))
      | exact ih0 _ _ _ _ _ _ _ _ _ _ _ _ _
      | exact ih1 _ _ _ _ _ _ _ _ _ _ _ _ _ _ _ _ _ _ _ _ _ _
      | exact bitmap_Flip.mono _ _ _ _
      | exact bitmap_Turn.mono _ _ _ _ _
      | exact incunablelaw05_Sane.mono _
      | exact incunableref05_Blacks.mono _ _ _ _
      | exact incunableref05_Flip.mono _ _ _ _
      | exact incunableref05_Turn.mono _ _ _ _ _
      | exact LeO.none _
      | refine LeO.ite ?_ ?_
      | refine LeO.bind ?_ (fun _ => ?_)
def incunablelaw05_BitmapTurns.T18 : Bool × List (List Nat × List Nat) := (true, [([], []), ([], []), ([0, 1], [0, 1]), ([2, 2], [2]), ([3], [3]), ([3], [3]), ([4, 5, 3, 3], [3, 4, 5]), ([3, 6], [3, 6]), ([7, 6], [7]), ([8], [8]), ([8], [8]), ([9, 10, 8, 8], [8, 9, 10]), ([8, 11], [8, 11]), ([12, 11], [12]), ([13], [13]), ([14, 13, 13], [13, 14]), ([13], [13]), ([16, 15, 13], [13, 16]), ([15, 17, 13], [13, 15, 17]), ([13, 18], [13, 18]), ([19, 17], [19]), ([20], [20]), ([21, 20, 20], [20, 21]), ([20], [20]), ([23, 22, 20], [20, 23]), ([22, 24, 20], [20, 22, 24]), ([20, 25], [20, 25]), ([26, 24], [26]), ([27, 27], [27]), ([27, 28], [27, 28]), ([29, 28, 0, 1, 2, 3, 4, 5, 6, 7, 8, 9, 10, 11, 12, 13, 14, 15, 16, 17, 18, 19, 20, 21, 22, 23, 24, 25, 26, 27, 28, 29], [29])])
def incunablelaw05_BitmapTurns.B18 : List Nat := [0, 0, 3, 7, 15, 15, 63, 127, 255, 511, 511, 2047, 4095, 8191, 16383, 32767, 16383, 131071, 262143, 524287, 1048575, 2097151, 4194303, 2097151, 16777215, 33554431, 67108863, 134217727, 268435455, 536870911, 1073741823]
theorem incunablelaw05_BitmapTurns.tab18 : rtab .any (opsOf Try.f3 18) = incunablelaw05_BitmapTurns.T18 := by kernel_rfl
theorem incunablelaw05_BitmapTurns.bits18 : waitsOk incunablelaw05_BitmapTurns.T18.2 incunablelaw05_BitmapTurns.B18 = true := by kernel_rfl
set_option maxHeartbeats 8000000 in
set_option maxRecDepth 100000 in
theorem incunablelaw05_BitmapTurns.calls (k : Nat) (a0_0 : Int) (a0_1 : Int) (A0_2 : Option Addr) (c0_2 : Nat) (l0_2 : List Int) (a1 : Int) (a2 : Int) (r : Bool) (w : World) (hr0_2 : Kd.C (Kd.int .u8) w A0_2 l0_2.length l0_2) (hc0_2 : l0_2.length ≤ c0_2) (h : incunablelaw05_BitmapTurns.f k a0_0 a0_1 l0_2 a1 a2 = some r) (hr_ : r = true) :
    Calls Try.prog 3 #[.agg #[.int .i64 a0_0, .int .i64 a0_1, .slice A0_2 l0_2.length c0_2], .int .i64 a1, .int .i64 a2] w fun e w' => e = .returned (.bool r) ∧ Below w.heap.size w w' := by
  have HR_ := Aside0.mk hr_
  clear hr_
  have hu24 := Try.underlying24
  have HR0_2 := Aside0.mk hr0_2
  have HC0_2 := Aside0.mk hc0_2
  clear hr0_2 hc0_2
  have HB := Aside0.mk (Below.refl w.heap.size w)
  have H : ((incunablelaw05_Huge.f a0_0 a0_1 l0_2).bind fun t210 => (if t210 = true then ((incunablelaw05_Sane.f k).bind fun t211 => (some t211)) else ((bitmap_Turn.f k a0_0 a0_1 l0_2 a1).bind fun bt212 => ((incunableref05_Turn.f k a0_0 a0_1 l0_2 a1).bind fun bt219 => ((bitmap_Flip.f k a0_0 a0_1 l0_2).bind fun bt226 => ((incunableref05_Flip.f k a0_0 a0_1 l0_2).bind fun bt233 => (if bt212.2.2.2 = bt219.2.2.2 then (if bt226.2.2.2 = bt233.2.2.2 then ((incunableref05_Same.f bt212.1 bt212.2.1 bt212.2.2.1 bt219.1 bt219.2.1 bt219.2.2.1).bind fun t240 => (if t240 = true then ((incunableref05_Same.f bt226.1 bt226.2.1 bt226.2.2.1 bt233.1 bt233.2.1 bt233.2.2.1).bind fun t241 => (incunablelaw05_BitmapTurns.j0 k a1 a2 bt212.2.2.2 (!t241) a0_0 a0_1 l0_2 bt212.1 bt212.2.1 bt212.2.2.1 bt226.1 bt226.2.1 bt226.2.2.1)) else (incunablelaw05_BitmapTurns.j0 k a1 a2 bt212.2.2.2 true a0_0 a0_1 l0_2 bt212.1 bt212.2.1 bt212.2.2.1 bt226.1 bt226.2.1 bt226.2.2.1))) else (incunablelaw05_BitmapTurns.j0 k a1 a2 bt212.2.2.2 true a0_0 a0_1 l0_2 bt212.1 bt212.2.1 bt212.2.2.1 bt226.1 bt226.2.1 bt226.2.2.1)) else (incunablelaw05_BitmapTurns.j0 k a1 a2 bt212.2.2.2 true a0_0 a0_1 l0_2 bt212.1 bt212.2.1 bt212.2.2.1 bt226.1 bt226.2.1 bt226.2.2.1)))))))) = some r := h
  clear h
  replace H := Option.bind_eq_some_iff.mp H
  obtain ⟨t210, A40, H⟩ := H
  replace H : (if t210 = true then ((incunablelaw05_Sane.f k).bind fun t211 => (some t211)) else ((bitmap_Turn.f k a0_0 a0_1 l0_2 a1).bind fun bt212 => ((incunableref05_Turn.f k a0_0 a0_1 l0_2 a1).bind fun bt219 => ((bitmap_Flip.f k a0_0 a0_1 l0_2).bind fun bt226 => ((incunableref05_Flip.f k a0_0 a0_1 l0_2).bind fun bt233 => (if bt212.2.2.2 = bt219.2.2.2 then (if bt226.2.2.2 = bt233.2.2.2 then ((incunableref05_Same.f bt212.1 bt212.2.1 bt212.2.2.1 bt219.1 bt219.2.1 bt219.2.2.1).bind fun t240 => (if t240 = true then ((incunableref05_Same.f bt226.1 bt226.2.1 bt226.2.2.1 bt233.1 bt233.2.1 bt233.2.2.1).bind fun t241 => (incunablelaw05_BitmapTurns.j0 k a1 a2 bt212.2.2.2 (!t241) a0_0 a0_1 l0_2 bt212.1 bt212.2.1 bt212.2.2.1 bt226.1 bt226.2.1 bt226.2.2.1)) else (incunablelaw05_BitmapTurns.j0 k a1 a2 bt212.2.2.2 true a0_0 a0_1 l0_2 bt212.1 bt212.2.1 bt212.2.2.1 bt226.1 bt226.2.1 bt226.2.2.1))) else (incunablelaw05_BitmapTurns.j0 k a1 a2 bt212.2.2.2 true a0_0 a0_1 l0_2 bt212.1 bt212.2.1 bt212.2.2.1 bt226.1 bt226.2.1 bt226.2.2.1)) else (incunablelaw05_BitmapTurns.j0 k a1 a2 bt212.2.2.2 true a0_0 a0_1 l0_2 bt212.1 bt212.2.1 bt212.2.2.1 bt226.1 bt226.2.1 bt226.2.2.1))))))) = some r := H
  have A4 := Aside0.mk A40
  clear A40
  by_cases c5 : t210 = true
  · subst c5
    have H1 : ((incunablelaw05_Sane.f k).bind fun t211 => (some t211)) = some r := by rw [if_pos rfl] at H; exact H
    clear H
    have H := H1
    clear H1
    replace H := Option.bind_eq_some_iff.mp H
    obtain ⟨t211, A60, H⟩ := H
    replace H : (some t211) = some r := H
    have A6 := Aside0.mk A60
    clear A60
    obtain rfl := Option.some.inj H
    go_enter Try.func3, Try.ntmps3
    go_wp2_with (first | ((with_reducible refine gate_dst (N := 3) rfl ?_); refine box_event ?hg (N := 3) ?hd (cs := #[.int .i64 a0_0, .int .i64 a0_1, .slice A0_2 l0_2.length c0_2]) (t := 24) ?hr ?_; (case hd => rfl); (case hg => rfl); (case hr => first | (go_simp; done) | (go_simp; rfl)); intro gb209 hg w7 hbox hb; have n0_ := Aside0.mk (below_step (by repeat (first | (with_reducible first | exact HB.out | apply below_alloc | apply pw_below_drewN | apply below_drew1) | exact HB.out)) hb); have n1_ := Aside0.mk (hbox); have n2_ := Aside0.mk ((by rw [hg]; exact (below_size (by repeat (first | (with_reducible first | exact HB.out | apply below_alloc | apply pw_below_drewN | apply below_drew1) | exact HB.out))) : w.heap.size ≤ gb209)); have n3_ := Aside0.mk ((by rw [hg]; exact (below_size (by repeat (first | (with_reducible first | exact HB.out | apply below_alloc | apply pw_below_drewN | apply below_drew1) | exact HB.out))) : w.heap.size ≤ gb209)); clear HB; have HB := n0_; have BK209 := n1_; have GW209 := n2_; have GE209 := n3_; clear n0_ n1_ n2_ n3_; clear hb hbox hg; have hcz8_0 : w7.cell? ⟨gb209, 0, none⟩ = some (.int .i64 a0_0) := (blk_cell BK209.out 0).trans rfl; have hcz8_1 : w7.cell? ⟨gb209, 1, none⟩ = some (.int .i64 a0_1) := (blk_cell BK209.out 1).trans rfl; have hcz8_2 : w7.cell? ⟨gb209, 2, none⟩ = some (.slice A0_2 l0_2.length c0_2) := (blk_cell BK209.out 2).trans rfl; have hfz8_0 := blk_frozen BK209.out 0; have hfz8_1 := blk_frozen BK209.out 1; have hfz8_2 := blk_frozen BK209.out 2) | ((with_reducible refine gate_callee (f := 11) rfl ?_); refine goesL_ (some 20) rfl rfl Try.func11 (by kernel_rfl) rfl #[.agg #[.int .i64 a0_0, .int .i64 a0_1, .slice A0_2 l0_2.length c0_2]] rfl (by (try simp only [List.map_toArray, List.map_cons, List.map_nil]); first | done | rfl | (simp only [List.length_drop, List.length_take]; rfl)) ?_; (with_reducible refine (incunablelaw05_Huge.calls a0_0 a0_1 _ _ l0_2 true _ ?side1 ?side2 A4.out).mono ?_); (case side1 => repeat (first | exact (Kd.C_below HR0_2.out HB.out) | (with_reducible refine Kd.C_alloc ?_ _) | (with_reducible refine Kd.C_drewN ?_ _) | (with_reducible refine Kd.C_drew ?_))); (case side2 => exact HC0_2.out); rintro e w9 ⟨rfl, hb⟩; refine ⟨_, rfl, ?_⟩; have n0_ := Aside0.mk (blk_below (bU BK209.out) hb); have n1_ := Aside0.mk (below_step (by repeat (first | (with_reducible first | exact HB.out | apply below_alloc | apply pw_below_drewN | apply below_drew1 | refine below_set ?_ GE209.out) | exact HB.out)) hb); clear BK209; clear HB; have BK209 := n0_; have HB := n1_; clear n0_ n1_; (try clear hb); (try clear hb2); (try clear hk); (try clear hi)) | ((with_reducible refine gate_callee (f := 12) rfl ?_); refine goesL_ (some 21) rfl rfl Try.func12 (by kernel_rfl) rfl #[] rfl (by (try simp only [List.map_toArray, List.map_cons, List.map_nil]); first | done | rfl | (simp only [List.length_drop, List.length_take]; rfl)) ?_; (with_reducible refine (incunablelaw05_Sane.calls k  t211 _ A6.out).mono ?_); rintro e w10 ⟨rfl, hb⟩; refine ⟨_, rfl, ?_⟩; have n0_ := Aside0.mk (blk_below (bU BK209.out) hb); have n1_ := Aside0.mk (below_step (by repeat (first | (with_reducible first | exact HB.out | apply below_alloc | apply pw_below_drewN | apply below_drew1 | refine below_set ?_ GE209.out) | exact HB.out)) hb); clear BK209; clear HB; have BK209 := n0_; have HB := n1_; clear n0_ n1_; (try clear hb); (try clear hb2); (try clear hk); (try clear hi)))
    go_ret
    exact ⟨by first | rfl | (simp [errW_none, errW_some] <;> rfl) | (simp [*, errW_none, errW_some] <;> rfl), by repeat (first | (with_reducible first | exact HB.out | apply below_alloc | apply pw_below_drewN | apply below_drew1 | refine below_set ?_ GE209.out) | exact HB.out)⟩
  · replace c5 := Bool.eq_false_iff.mpr c5
    subst c5
    have H1 : ((bitmap_Turn.f k a0_0 a0_1 l0_2 a1).bind fun bt212 => ((incunableref05_Turn.f k a0_0 a0_1 l0_2 a1).bind fun bt219 => ((bitmap_Flip.f k a0_0 a0_1 l0_2).bind fun bt226 => ((incunableref05_Flip.f k a0_0 a0_1 l0_2).bind fun bt233 => (if bt212.2.2.2 = bt219.2.2.2 then (if bt226.2.2.2 = bt233.2.2.2 then ((incunableref05_Same.f bt212.1 bt212.2.1 bt212.2.2.1 bt219.1 bt219.2.1 bt219.2.2.1).bind fun t240 => (if t240 = true then ((incunableref05_Same.f bt226.1 bt226.2.1 bt226.2.2.1 bt233.1 bt233.2.1 bt233.2.2.1).bind fun t241 => (incunablelaw05_BitmapTurns.j0 k a1 a2 bt212.2.2.2 (!t241) a0_0 a0_1 l0_2 bt212.1 bt212.2.1 bt212.2.2.1 bt226.1 bt226.2.1 bt226.2.2.1)) else (incunablelaw05_BitmapTurns.j0 k a1 a2 bt212.2.2.2 true a0_0 a0_1 l0_2 bt212.1 bt212.2.1 bt212.2.2.1 bt226.1 bt226.2.1 bt226.2.2.1))) else (incunablelaw05_BitmapTurns.j0 k a1 a2 bt212.2.2.2 true a0_0 a0_1 l0_2 bt212.1 bt212.2.1 bt212.2.2.1 bt226.1 bt226.2.1 bt226.2.2.1)) else (incunablelaw05_BitmapTurns.j0 k a1 a2 bt212.2.2.2 true a0_0 a0_1 l0_2 bt212.1 bt212.2.1 bt212.2.2.1 bt226.1 bt226.2.1 bt226.2.2.1)))))) = some r := by rw [if_neg (show ¬ (false = true) by decide)] at H; exact H
    clear H
    have H := H1
    clear H1
    replace H := Option.bind_eq_some_iff.mp H
    obtain ⟨⟨t212, t213, t214, t217⟩, A110, H⟩ := H
    replace H : ((incunableref05_Turn.f k a0_0 a0_1 l0_2 a1).bind fun bt219 => ((bitmap_Flip.f k a0_0 a0_1 l0_2).bind fun bt226 => ((incunableref05_Flip.f k a0_0 a0_1 l0_2).bind fun bt233 => (if t217 = bt219.2.2.2 then (if bt226.2.2.2 = bt233.2.2.2 then ((incunableref05_Same.f t212 t213 t214 bt219.1 bt219.2.1 bt219.2.2.1).bind fun t240 => (if t240 = true then ((incunableref05_Same.f bt226.1 bt226.2.1 bt226.2.2.1 bt233.1 bt233.2.1 bt233.2.2.1).bind fun t241 => (incunablelaw05_BitmapTurns.j0 k a1 a2 t217 (!t241) a0_0 a0_1 l0_2 t212 t213 t214 bt226.1 bt226.2.1 bt226.2.2.1)) else (incunablelaw05_BitmapTurns.j0 k a1 a2 t217 true a0_0 a0_1 l0_2 t212 t213 t214 bt226.1 bt226.2.1 bt226.2.2.1))) else (incunablelaw05_BitmapTurns.j0 k a1 a2 t217 true a0_0 a0_1 l0_2 t212 t213 t214 bt226.1 bt226.2.1 bt226.2.2.1)) else (incunablelaw05_BitmapTurns.j0 k a1 a2 t217 true a0_0 a0_1 l0_2 t212 t213 t214 bt226.1 bt226.2.1 bt226.2.2.1))))) = some r := H
    have A11 := Aside0.mk A110
    clear A110
    replace H := Option.bind_eq_some_iff.mp H
    obtain ⟨⟨t219, t220, t221, t224⟩, A120, H⟩ := H
    replace H : ((bitmap_Flip.f k a0_0 a0_1 l0_2).bind fun bt226 => ((incunableref05_Flip.f k a0_0 a0_1 l0_2).bind fun bt233 => (if t217 = t224 then (if bt226.2.2.2 = bt233.2.2.2 then ((incunableref05_Same.f t212 t213 t214 t219 t220 t221).bind fun t240 => (if t240 = true then ((incunableref05_Same.f bt226.1 bt226.2.1 bt226.2.2.1 bt233.1 bt233.2.1 bt233.2.2.1).bind fun t241 => (incunablelaw05_BitmapTurns.j0 k a1 a2 t217 (!t241) a0_0 a0_1 l0_2 t212 t213 t214 bt226.1 bt226.2.1 bt226.2.2.1)) else (incunablelaw05_BitmapTurns.j0 k a1 a2 t217 true a0_0 a0_1 l0_2 t212 t213 t214 bt226.1 bt226.2.1 bt226.2.2.1))) else (incunablelaw05_BitmapTurns.j0 k a1 a2 t217 true a0_0 a0_1 l0_2 t212 t213 t214 bt226.1 bt226.2.1 bt226.2.2.1)) else (incunablelaw05_BitmapTurns.j0 k a1 a2 t217 true a0_0 a0_1 l0_2 t212 t213 t214 bt226.1 bt226.2.1 bt226.2.2.1)))) = some r := H
    have A12 := Aside0.mk A120
    clear A120
    replace H := Option.bind_eq_some_iff.mp H
    obtain ⟨⟨t226, t227, t228, t231⟩, A130, H⟩ := H
    replace H : ((incunableref05_Flip.f k a0_0 a0_1 l0_2).bind fun bt233 => (if t217 = t224 then (if t231 = bt233.2.2.2 then ((incunableref05_Same.f t212 t213 t214 t219 t220 t221).bind fun t240 => (if t240 = true then ((incunableref05_Same.f t226 t227 t228 bt233.1 bt233.2.1 bt233.2.2.1).bind fun t241 => (incunablelaw05_BitmapTurns.j0 k a1 a2 t217 (!t241) a0_0 a0_1 l0_2 t212 t213 t214 t226 t227 t228)) else (incunablelaw05_BitmapTurns.j0 k a1 a2 t217 true a0_0 a0_1 l0_2 t212 t213 t214 t226 t227 t228))) else (incunablelaw05_BitmapTurns.j0 k a1 a2 t217 true a0_0 a0_1 l0_2 t212 t213 t214 t226 t227 t228)) else (incunablelaw05_BitmapTurns.j0 k a1 a2 t217 true a0_0 a0_1 l0_2 t212 t213 t214 t226 t227 t228))) = some r := H
    have A13 := Aside0.mk A130
    clear A130
    replace H := Option.bind_eq_some_iff.mp H
    obtain ⟨⟨t233, t234, t235, t238⟩, A140, H⟩ := H
    replace H : (if t217 = t224 then (if t231 = t238 then ((incunableref05_Same.f t212 t213 t214 t219 t220 t221).bind fun t240 => (if t240 = true then ((incunableref05_Same.f t226 t227 t228 t233 t234 t235).bind fun t241 => (incunablelaw05_BitmapTurns.j0 k a1 a2 t217 (!t241) a0_0 a0_1 l0_2 t212 t213 t214 t226 t227 t228)) else (incunablelaw05_BitmapTurns.j0 k a1 a2 t217 true a0_0 a0_1 l0_2 t212 t213 t214 t226 t227 t228))) else (incunablelaw05_BitmapTurns.j0 k a1 a2 t217 true a0_0 a0_1 l0_2 t212 t213 t214 t226 t227 t228)) else (incunablelaw05_BitmapTurns.j0 k a1 a2 t217 true a0_0 a0_1 l0_2 t212 t213 t214 t226 t227 t228)) = some r := H
    have A14 := Aside0.mk A140
    clear A140
    have HC15 := Aside0.mk H
    clear H
    go_enter Try.func3, Try.ntmps3
    go_upto_region 7 with (first | ((with_reducible refine gate_dst (N := 3) rfl ?_); refine box_event ?hg (N := 3) ?hd (cs := #[.int .i64 a0_0, .int .i64 a0_1, .slice A0_2 l0_2.length c0_2]) (t := 24) ?hr ?_; (case hd => rfl); (case hg => rfl); (case hr => first | (go_simp; done) | (go_simp; rfl)); intro gb209 hg w16 hbox hb; have n0_ := Aside0.mk (below_step (by repeat (first | (with_reducible first | exact HB.out | apply below_alloc | apply pw_below_drewN | apply below_drew1) | exact HB.out)) hb); have n1_ := Aside0.mk (hbox); have n2_ := Aside0.mk ((by rw [hg]; exact (below_size (by repeat (first | (with_reducible first | exact HB.out | apply below_alloc | apply pw_below_drewN | apply below_drew1) | exact HB.out))) : w.heap.size ≤ gb209)); have n3_ := Aside0.mk ((by rw [hg]; exact (below_size (by repeat (first | (with_reducible first | exact HB.out | apply below_alloc | apply pw_below_drewN | apply below_drew1) | exact HB.out))) : w.heap.size ≤ gb209)); clear HB; have HB := n0_; have BK209 := n1_; have GW209 := n2_; have GE209 := n3_; clear n0_ n1_ n2_ n3_; clear hb hbox hg; have hcz17_0 : w16.cell? ⟨gb209, 0, none⟩ = some (.int .i64 a0_0) := (blk_cell BK209.out 0).trans rfl; have hcz17_1 : w16.cell? ⟨gb209, 1, none⟩ = some (.int .i64 a0_1) := (blk_cell BK209.out 1).trans rfl; have hcz17_2 : w16.cell? ⟨gb209, 2, none⟩ = some (.slice A0_2 l0_2.length c0_2) := (blk_cell BK209.out 2).trans rfl; have hfz17_0 := blk_frozen BK209.out 0; have hfz17_1 := blk_frozen BK209.out 1; have hfz17_2 := blk_frozen BK209.out 2) | ((with_reducible refine gate_callee (f := 11) rfl ?_); refine goesL_ (some 20) rfl rfl Try.func11 (by kernel_rfl) rfl #[.agg #[.int .i64 a0_0, .int .i64 a0_1, .slice A0_2 l0_2.length c0_2]] rfl (by (try simp only [List.map_toArray, List.map_cons, List.map_nil]); first | done | rfl | (simp only [List.length_drop, List.length_take]; rfl)) ?_; (with_reducible refine (incunablelaw05_Huge.calls a0_0 a0_1 _ _ l0_2 false _ ?side1 ?side2 A4.out).mono ?_); (case side1 => repeat (first | exact (Kd.C_below HR0_2.out HB.out) | (with_reducible refine Kd.C_alloc ?_ _) | (with_reducible refine Kd.C_drewN ?_ _) | (with_reducible refine Kd.C_drew ?_))); (case side2 => exact HC0_2.out); rintro e w18 ⟨rfl, hb⟩; refine ⟨_, rfl, ?_⟩; have n0_ := Aside0.mk (blk_below (bU BK209.out) hb); have n1_ := Aside0.mk (below_step (by repeat (first | (with_reducible first | exact HB.out | apply below_alloc | apply pw_below_drewN | apply below_drew1 | refine below_set ?_ GE209.out) | exact HB.out)) hb); clear BK209; clear HB; have BK209 := n0_; have HB := n1_; clear n0_ n1_; (try clear hb); (try clear hb2); (try clear hk); (try clear hi); have hcz19_0 : w18.cell? ⟨gb209, 0, none⟩ = some (.int .i64 a0_0) := (blk_cell BK209.out 0).trans rfl; have hcz19_1 : w18.cell? ⟨gb209, 1, none⟩ = some (.int .i64 a0_1) := (blk_cell BK209.out 1).trans rfl; have hcz19_2 : w18.cell? ⟨gb209, 2, none⟩ = some (.slice A0_2 l0_2.length c0_2) := (blk_cell BK209.out 2).trans rfl; have hfz19_0 := blk_frozen BK209.out 0; have hfz19_1 := blk_frozen BK209.out 1; have hfz19_2 := blk_frozen BK209.out 2) | ((with_reducible refine gate_callee (f := 13) rfl ?_); refine goesL_ (some 25) rfl rfl Try.func13 (by kernel_rfl) rfl #[.agg #[.int .i64 a0_0, .int .i64 a0_1, .slice A0_2 l0_2.length c0_2], .int .i64 a1] rfl (by (try simp only [List.map_toArray, List.map_cons, List.map_nil]); first | done | rfl | (simp only [List.length_drop, List.length_take]; rfl)) ?_; (with_reducible refine (bitmap_Turn.calls k a0_0 a0_1 _ _ l0_2 a1 t212 t213 t214 t217 _ ?side1 ?side2 A11.out).mono ?_); (case side1 => repeat (first | exact (Kd.C_below HR0_2.out HB.out) | (with_reducible refine Kd.C_alloc ?_ _) | (with_reducible refine Kd.C_drewN ?_ _) | (with_reducible refine Kd.C_drew ?_))); (case side2 => exact HC0_2.out); rintro e w20 ⟨v215, rfl, ho0, hb⟩; refine ⟨_, rfl, ?_⟩; have n0_ := Aside0.mk (Kd.R_lower ho0 (below_size (by repeat (first | (with_reducible first | exact HB.out | apply below_alloc | apply pw_below_drewN | apply below_drew1 | refine below_set ?_ GE209.out) | exact HB.out)))); have n1_ := Aside0.mk (blk_below (bU BK209.out) hb); have n2_ := Aside0.mk (below_step (by repeat (first | (with_reducible first | exact HB.out | apply below_alloc | apply pw_below_drewN | apply below_drew1 | refine below_set ?_ GE209.out) | exact HB.out)) hb); clear BK209; clear HB; have HO216 := n0_; have BK209 := n1_; have HB := n2_; clear n0_ n1_ n2_; (try clear hb); (try clear hb2); (try clear hk); (try clear hi); (try clear ho0)) | ((with_reducible refine gate_dst (N := 7) rfl ?_); refine box_event ?hg (N := 7) ?hd (cs := #[.int .i64 0, .int .i64 0, .slice none 0 0]) (t := 24) ?hr ?_; (case hd => rfl); (case hg => rfl); (case hr => first | (go_simp; done) | (go_simp; rfl)); intro gb218 hg w21 hbox hb; have n0_ := Aside0.mk (Kd.R_below (rU HO216.out) hb); have n1_ := Aside0.mk (blk_below (bU BK209.out) hb); have n2_ := Aside0.mk (below_step (by repeat (first | (with_reducible first | exact HB.out | apply below_alloc | apply pw_below_drewN | apply below_drew1 | refine below_set ?_ GE209.out) | exact HB.out)) hb); have n3_ := Aside0.mk (hbox); have n4_ := Aside0.mk ((by rw [hg]; exact (below_size (by repeat (first | (with_reducible first | exact HB.out | apply below_alloc | apply pw_below_drewN | apply below_drew1 | refine below_set ?_ GE209.out) | exact HB.out))) : w.heap.size ≤ gb218)); have n5_ := Aside0.mk ((by rw [hg]; exact (below_size (by repeat (first | (with_reducible first | exact HB.out | apply below_alloc | apply pw_below_drewN | apply below_drew1 | refine below_set ?_ GE209.out) | exact HB.out))) : w.heap.size ≤ gb218)); have n6_ := Aside0.mk ((by rw [hg]; exact Nat.ne_of_lt (blk_lt (bU BK209.out)) : gb209 ≠ gb218)); have n7_ := Aside0.mk ((by rw [hg]; exact Nat.ne_of_gt (blk_lt (bU BK209.out)) : gb218 ≠ gb209)); clear HO216; clear BK209; clear HB; have HO216 := n0_; have BK209 := n1_; have HB := n2_; have BK218 := n3_; have GW218 := n4_; have GE218 := n5_; have NB209_218 := n6_; have NB218_209 := n7_; clear n0_ n1_ n2_ n3_ n4_ n5_ n6_ n7_; clear hb hbox hg; have hnb22 := NB218_209.out; have hnc22 := NB209_218.out; have hcz23_0 : w21.cell? ⟨gb218, 0, none⟩ = some (.int .i64 0) := (blk_cell BK218.out 0).trans rfl; have hcz23_1 : w21.cell? ⟨gb218, 1, none⟩ = some (.int .i64 0) := (blk_cell BK218.out 1).trans rfl; have hcz23_2 : w21.cell? ⟨gb218, 2, none⟩ = some (.slice none 0 0) := (blk_cell BK218.out 2).trans rfl; have hfz23_0 := blk_frozen BK218.out 0; have hfz23_1 := blk_frozen BK218.out 1; have hfz23_2 := blk_frozen BK218.out 2; obtain ⟨Ao24, co24, eo24⟩ := Kd.R_slice HO216.out; subst eo24; have hcz25_0 : w21.cell? ⟨gb209, 0, none⟩ = some (.int .i64 a0_0) := (blk_cell BK209.out 0).trans rfl; have hcz25_1 : w21.cell? ⟨gb209, 1, none⟩ = some (.int .i64 a0_1) := (blk_cell BK209.out 1).trans rfl; have hcz25_2 : w21.cell? ⟨gb209, 2, none⟩ = some (.slice A0_2 l0_2.length c0_2) := (blk_cell BK209.out 2).trans rfl; have hfz25_0 := blk_frozen BK209.out 0; have hfz25_1 := blk_frozen BK209.out 1; have hfz25_2 := blk_frozen BK209.out 2) | ((with_reducible refine gate_callee (f := 14) rfl ?_); refine goesL_ (some 31) rfl rfl Try.func14 (by kernel_rfl) rfl #[.agg #[.int .i64 a0_0, .int .i64 a0_1, .slice A0_2 l0_2.length c0_2], .int .i64 a1] rfl (by (try simp only [List.map_toArray, List.map_cons, List.map_nil]); first | done | rfl | (simp only [List.length_drop, List.length_take]; rfl)) ?_; (with_reducible refine (incunableref05_Turn.calls k a0_0 a0_1 _ _ l0_2 a1 t219 t220 t221 t224 _ ?side1 ?side2 A12.out).mono ?_); (case side1 => exact Kd.C_below HR0_2.out (by repeat (first | (with_reducible first | exact HB.out | apply below_alloc | apply pw_below_drewN | apply below_drew1 | refine below_set ?_ GE209.out | refine below_set ?_ GE218.out) | exact HB.out))); (case side2 => exact HC0_2.out); rintro e w26 ⟨v222, rfl, ho0, hb⟩; refine ⟨_, rfl, ?_⟩; have n0_ := Aside0.mk (Kd.R_elder' (by (with_reducible repeat (first | apply Kd.R_alloc | apply Kd.R_drewN | apply Kd.R_drew)); exact (Kd.R_mono (Kd.R_far (p := ⟨gb218, 2, none⟩) (Kd.R_far (p := ⟨gb218, 1, none⟩) (Kd.R_far (p := ⟨gb218, 0, none⟩) (Kd.R_types HO216.out BK218.out (by decide)) (fun _ hk => hk.2) (.int .i64 t212)) (fun _ hk => hk.2) (.int .i64 t213)) (fun _ hk => hk.2) (.slice Ao24 t214.length co24)) (fun _ h_ => h_.1))) (Kd.R_base ho0) hb); have n1_ := Aside0.mk (Kd.R_lower (Kd.R_new' ho0 (Kd.R_lt (by (with_reducible repeat (first | apply Kd.R_alloc | apply Kd.R_drewN | apply Kd.R_drew)); exact (Kd.R_mono (Kd.R_far (p := ⟨gb218, 2, none⟩) (Kd.R_far (p := ⟨gb218, 1, none⟩) (Kd.R_far (p := ⟨gb218, 0, none⟩) (Kd.R_types HO216.out BK218.out (by decide)) (fun _ hk => hk.2) (.int .i64 t212)) (fun _ hk => hk.2) (.int .i64 t213)) (fun _ hk => hk.2) (.slice Ao24 t214.length co24)) (fun _ h_ => h_.1))))) (below_size (by repeat (first | (with_reducible first | exact HB.out | apply below_alloc | apply pw_below_drewN | apply below_drew1 | refine below_set ?_ GE209.out | refine below_set ?_ GE218.out) | exact HB.out)))); have n2_ := Aside0.mk (blk_below (g := gb209) (o := .cells #[.int .i64 a0_0, .int .i64 a0_1, .slice A0_2 l0_2.length c0_2] 24 (0, 0)) (by refine bF ?_ ?_; exact NB209_218.out; refine bF ?_ ?_; exact NB209_218.out; refine bF ?_ ?_; exact NB209_218.out; exact bU BK209.out) hb); have n3_ := Aside0.mk (blk_below (g := gb218) (o := .cells #[.int .i64 t212, .int .i64 t213, .slice Ao24 t214.length co24] 24 (0, 0)) (by (with_reducible repeat (first | refine blk_drewN ?_ _ | refine blk_drew ?_ | refine blk_alloc ?_ _)); refine blk_put (cs := #[.int .i64 t212, .int .i64 t213, .slice none 0 0]) ?_ 2 _ rfl; (with_reducible repeat (first | refine blk_drewN ?_ _ | refine blk_drew ?_ | refine blk_alloc ?_ _)); refine blk_put (cs := #[.int .i64 t212, .int .i64 0, .slice none 0 0]) ?_ 1 _ rfl; (with_reducible repeat (first | refine blk_drewN ?_ _ | refine blk_drew ?_ | refine blk_alloc ?_ _)); refine blk_put (cs := #[.int .i64 0, .int .i64 0, .slice none 0 0]) ?_ 0 _ rfl; exact bU BK218.out) hb); have n4_ := Aside0.mk (below_step (by repeat (first | (with_reducible first | exact HB.out | apply below_alloc | apply pw_below_drewN | apply below_drew1 | refine below_set ?_ GE209.out | refine below_set ?_ GE218.out) | exact HB.out)) hb); clear HO216; clear BK209; clear BK218; clear HB; have HO216 := n0_; have HO223 := n1_; have BK209 := n2_; have BK218 := n3_; have HB := n4_; clear n0_ n1_ n2_ n3_ n4_; (try clear hb); (try clear hb2); (try clear hk); (try clear hi); (try clear ho0)) | ((with_reducible refine gate_dst (N := 9) rfl ?_); refine box_event ?hg (N := 9) ?hd (cs := #[.int .i64 0, .int .i64 0, .slice none 0 0]) (t := 24) ?hr ?_; (case hd => rfl); (case hg => rfl); (case hr => first | (go_simp; done) | (go_simp; rfl)); intro gb225 hg w27 hbox hb; have n0_ := Aside0.mk (Kd.R_below (rU HO216.out) hb); have n1_ := Aside0.mk (Kd.R_below (rU HO223.out) hb); have n2_ := Aside0.mk (blk_below (bU BK209.out) hb); have n3_ := Aside0.mk (blk_below (bU BK218.out) hb); have n4_ := Aside0.mk (below_step (by repeat (first | (with_reducible first | exact HB.out | apply below_alloc | apply pw_below_drewN | apply below_drew1 | refine below_set ?_ GE209.out | refine below_set ?_ GE218.out) | exact HB.out)) hb); have n5_ := Aside0.mk (hbox); have n6_ := Aside0.mk ((by rw [hg]; exact (below_size (by repeat (first | (with_reducible first | exact HB.out | apply below_alloc | apply pw_below_drewN | apply below_drew1 | refine below_set ?_ GE209.out | refine below_set ?_ GE218.out) | exact HB.out))) : w.heap.size ≤ gb225)); have n7_ := Aside0.mk ((by rw [hg]; exact (below_size (by repeat (first | (with_reducible first | exact HB.out | apply below_alloc | apply pw_below_drewN | apply below_drew1 | refine below_set ?_ GE209.out | refine below_set ?_ GE218.out) | exact HB.out))) : w.heap.size ≤ gb225)); have n8_ := Aside0.mk ((by rw [hg]; exact Nat.ne_of_lt (blk_lt (bU BK209.out)) : gb209 ≠ gb225)); have n9_ := Aside0.mk ((by rw [hg]; exact Nat.ne_of_gt (blk_lt (bU BK209.out)) : gb225 ≠ gb209)); have n10_ := Aside0.mk ((by rw [hg]; exact Nat.ne_of_lt (blk_lt (bU BK218.out)) : gb218 ≠ gb225)); have n11_ := Aside0.mk ((by rw [hg]; exact Nat.ne_of_gt (blk_lt (bU BK218.out)) : gb225 ≠ gb218)); clear HO216; clear HO223; clear BK209; clear BK218; clear HB; have HO216 := n0_; have HO223 := n1_; have BK209 := n2_; have BK218 := n3_; have HB := n4_; have BK225 := n5_; have GW225 := n6_; have GE225 := n7_; have NB209_225 := n8_; have NB225_209 := n9_; have NB218_225 := n10_; have NB225_218 := n11_; clear n0_ n1_ n2_ n3_ n4_ n5_ n6_ n7_ n8_ n9_ n10_ n11_; clear hb hbox hg; have hnb28 := NB225_209.out; have hnc28 := NB209_225.out; have hnb29 := NB225_218.out; have hnc29 := NB218_225.out; have hcz30_0 : w27.cell? ⟨gb225, 0, none⟩ = some (.int .i64 0) := (blk_cell BK225.out 0).trans rfl; have hcz30_1 : w27.cell? ⟨gb225, 1, none⟩ = some (.int .i64 0) := (blk_cell BK225.out 1).trans rfl; have hcz30_2 : w27.cell? ⟨gb225, 2, none⟩ = some (.slice none 0 0) := (blk_cell BK225.out 2).trans rfl; have hfz30_0 := blk_frozen BK225.out 0; have hfz30_1 := blk_frozen BK225.out 1; have hfz30_2 := blk_frozen BK225.out 2; obtain ⟨Ao31, co31, eo31⟩ := Kd.R_slice HO223.out; subst eo31; have hcz32_0 : w27.cell? ⟨gb209, 0, none⟩ = some (.int .i64 a0_0) := (blk_cell BK209.out 0).trans rfl; have hcz32_1 : w27.cell? ⟨gb209, 1, none⟩ = some (.int .i64 a0_1) := (blk_cell BK209.out 1).trans rfl; have hcz32_2 : w27.cell? ⟨gb209, 2, none⟩ = some (.slice A0_2 l0_2.length c0_2) := (blk_cell BK209.out 2).trans rfl; have hfz32_0 := blk_frozen BK209.out 0; have hfz32_1 := blk_frozen BK209.out 1; have hfz32_2 := blk_frozen BK209.out 2) | ((with_reducible refine gate_callee (f := 15) rfl ?_); refine goesL_ (some 36) rfl rfl Try.func15 (by kernel_rfl) rfl #[.agg #[.int .i64 a0_0, .int .i64 a0_1, .slice A0_2 l0_2.length c0_2]] rfl (by (try simp only [List.map_toArray, List.map_cons, List.map_nil]); first | done | rfl | (simp only [List.length_drop, List.length_take]; rfl)) ?_; (with_reducible refine (bitmap_Flip.calls k a0_0 a0_1 _ _ l0_2 t226 t227 t228 t231 _ ?side1 ?side2 A13.out).mono ?_); (case side1 => exact Kd.C_below HR0_2.out (by repeat (first | (with_reducible first | exact HB.out | apply below_alloc | apply pw_below_drewN | apply below_drew1 | refine below_set ?_ GE209.out | refine below_set ?_ GE218.out | refine below_set ?_ GE225.out) | exact HB.out))); (case side2 => exact HC0_2.out); rintro e w33 ⟨v229, rfl, ho0, hb⟩; refine ⟨_, rfl, ?_⟩; have n0_ := Aside0.mk (Kd.R_elder' (by (with_reducible repeat (first | apply Kd.R_alloc | apply Kd.R_drewN | apply Kd.R_drew)); exact (Kd.R_mono (Kd.R_far (p := ⟨gb225, 2, none⟩) (Kd.R_far (p := ⟨gb225, 1, none⟩) (Kd.R_far (p := ⟨gb225, 0, none⟩) (Kd.R_types HO216.out BK225.out (by decide)) (fun _ hk => hk.2) (.int .i64 t219)) (fun _ hk => hk.2) (.int .i64 t220)) (fun _ hk => hk.2) (.slice Ao31 t221.length co31)) (fun _ h_ => h_.1))) (Kd.R_base ho0) hb); have n1_ := Aside0.mk (Kd.R_elder' (by (with_reducible repeat (first | apply Kd.R_alloc | apply Kd.R_drewN | apply Kd.R_drew)); exact (Kd.R_mono (Kd.R_far (p := ⟨gb225, 2, none⟩) (Kd.R_far (p := ⟨gb225, 1, none⟩) (Kd.R_far (p := ⟨gb225, 0, none⟩) (Kd.R_types HO223.out BK225.out (by decide)) (fun _ hk => hk.2) (.int .i64 t219)) (fun _ hk => hk.2) (.int .i64 t220)) (fun _ hk => hk.2) (.slice Ao31 t221.length co31)) (fun _ h_ => h_.1))) (Kd.R_base ho0) hb); have n2_ := Aside0.mk (Kd.R_lower (Kd.R_new' (Kd.R_new' ho0 (Kd.R_lt (by (with_reducible repeat (first | apply Kd.R_alloc | apply Kd.R_drewN | apply Kd.R_drew)); exact (Kd.R_mono (Kd.R_far (p := ⟨gb225, 2, none⟩) (Kd.R_far (p := ⟨gb225, 1, none⟩) (Kd.R_far (p := ⟨gb225, 0, none⟩) (Kd.R_types HO216.out BK225.out (by decide)) (fun _ hk => hk.2) (.int .i64 t219)) (fun _ hk => hk.2) (.int .i64 t220)) (fun _ hk => hk.2) (.slice Ao31 t221.length co31)) (fun _ h_ => h_.1))))) (Kd.R_lt (by (with_reducible repeat (first | apply Kd.R_alloc | apply Kd.R_drewN | apply Kd.R_drew)); exact (Kd.R_mono (Kd.R_far (p := ⟨gb225, 2, none⟩) (Kd.R_far (p := ⟨gb225, 1, none⟩) (Kd.R_far (p := ⟨gb225, 0, none⟩) (Kd.R_types HO223.out BK225.out (by decide)) (fun _ hk => hk.2) (.int .i64 t219)) (fun _ hk => hk.2) (.int .i64 t220)) (fun _ hk => hk.2) (.slice Ao31 t221.length co31)) (fun _ h_ => h_.1))))) (below_size (by repeat (first | (with_reducible first | exact HB.out | apply below_alloc | apply pw_below_drewN | apply below_drew1 | refine below_set ?_ GE209.out | refine below_set ?_ GE218.out | refine below_set ?_ GE225.out) | exact HB.out)))); have n3_ := Aside0.mk (blk_below (g := gb209) (o := .cells #[.int .i64 a0_0, .int .i64 a0_1, .slice A0_2 l0_2.length c0_2] 24 (0, 0)) (by refine bF ?_ ?_; exact NB209_225.out; refine bF ?_ ?_; exact NB209_225.out; refine bF ?_ ?_; exact NB209_225.out; exact bU BK209.out) hb); have n4_ := Aside0.mk (blk_below (g := gb218) (o := .cells #[.int .i64 t212, .int .i64 t213, .slice Ao24 t214.length co24] 24 (0, 0)) (by refine bF ?_ ?_; exact NB218_225.out; refine bF ?_ ?_; exact NB218_225.out; refine bF ?_ ?_; exact NB218_225.out; exact bU BK218.out) hb); have n5_ := Aside0.mk (blk_below (g := gb225) (o := .cells #[.int .i64 t219, .int .i64 t220, .slice Ao31 t221.length co31] 24 (0, 0)) (by (with_reducible repeat (first | refine blk_drewN ?_ _ | refine blk_drew ?_ | refine blk_alloc ?_ _)); refine blk_put (cs := #[.int .i64 t219, .int .i64 t220, .slice none 0 0]) ?_ 2 _ rfl; (with_reducible repeat (first | refine blk_drewN ?_ _ | refine blk_drew ?_ | refine blk_alloc ?_ _)); refine blk_put (cs := #[.int .i64 t219, .int .i64 0, .slice none 0 0]) ?_ 1 _ rfl; (with_reducible repeat (first | refine blk_drewN ?_ _ | refine blk_drew ?_ | refine blk_alloc ?_ _)); refine blk_put (cs := #[.int .i64 0, .int .i64 0, .slice none 0 0]) ?_ 0 _ rfl; exact bU BK225.out) hb); have n6_ := Aside0.mk (below_step (by repeat (first | (with_reducible first | exact HB.out | apply below_alloc | apply pw_below_drewN | apply below_drew1 | refine below_set ?_ GE209.out | refine below_set ?_ GE218.out | refine below_set ?_ GE225.out) | exact HB.out)) hb); clear HO216; clear HO223; clear BK209; clear BK218; clear BK225; clear HB; have HO216 := n0_; have HO223 := n1_; have HO230 := n2_; have BK209 := n3_; have BK218 := n4_; have BK225 := n5_; have HB := n6_; clear n0_ n1_ n2_ n3_ n4_ n5_ n6_; (try clear hb); (try clear hb2); (try clear hk); (try clear hi); (try clear ho0)) | ((with_reducible refine gate_dst (N := 11) rfl ?_); refine box_event ?hg (N := 11) ?hd (cs := #[.int .i64 0, .int .i64 0, .slice none 0 0]) (t := 24) ?hr ?_; (case hd => rfl); (case hg => rfl); (case hr => first | (go_simp; done) | (go_simp; rfl)); intro gb232 hg w34 hbox hb; have n0_ := Aside0.mk (Kd.R_below (rU HO216.out) hb); have n1_ := Aside0.mk (Kd.R_below (rU HO223.out) hb); have n2_ := Aside0.mk (Kd.R_below (rU HO230.out) hb); have n3_ := Aside0.mk (blk_below (bU BK209.out) hb); have n4_ := Aside0.mk (blk_below (bU BK218.out) hb); have n5_ := Aside0.mk (blk_below (bU BK225.out) hb); have n6_ := Aside0.mk (below_step (by repeat (first | (with_reducible first | exact HB.out | apply below_alloc | apply pw_below_drewN | apply below_drew1 | refine below_set ?_ GE209.out | refine below_set ?_ GE218.out | refine below_set ?_ GE225.out) | exact HB.out)) hb); have n7_ := Aside0.mk (hbox); have n8_ := Aside0.mk ((by rw [hg]; exact (below_size (by repeat (first | (with_reducible first | exact HB.out | apply below_alloc | apply pw_below_drewN | apply below_drew1 | refine below_set ?_ GE209.out | refine below_set ?_ GE218.out | refine below_set ?_ GE225.out) | exact HB.out))) : w.heap.size ≤ gb232)); have n9_ := Aside0.mk ((by rw [hg]; exact (below_size (by repeat (first | (with_reducible first | exact HB.out | apply below_alloc | apply pw_below_drewN | apply below_drew1 | refine below_set ?_ GE209.out | refine below_set ?_ GE218.out | refine below_set ?_ GE225.out) | exact HB.out))) : w.heap.size ≤ gb232)); have n10_ := Aside0.mk ((by rw [hg]; exact Nat.ne_of_lt (blk_lt (bU BK209.out)) : gb209 ≠ gb232)); have n11_ := Aside0.mk ((by rw [hg]; exact Nat.ne_of_gt (blk_lt (bU BK209.out)) : gb232 ≠ gb209)); have n12_ := Aside0.mk ((by rw [hg]; exact Nat.ne_of_lt (blk_lt (bU BK218.out)) : gb218 ≠ gb232)); have n13_ := Aside0.mk ((by rw [hg]; exact Nat.ne_of_gt (blk_lt (bU BK218.out)) : gb232 ≠ gb218)); have n14_ := Aside0.mk ((by rw [hg]; exact Nat.ne_of_lt (blk_lt (bU BK225.out)) : gb225 ≠ gb232)); have n15_ := Aside0.mk ((by rw [hg]; exact Nat.ne_of_gt (blk_lt (bU BK225.out)) : gb232 ≠ gb225)); clear HO216; clear HO223; clear HO230; clear BK209; clear BK218; clear BK225; clear HB; have HO216 := n0_; have HO223 := n1_; have HO230 := n2_; have BK209 := n3_; have BK218 := n4_; have BK225 := n5_; have HB := n6_; have BK232 := n7_; have GW232 := n8_; have GE232 := n9_; have NB209_232 := n10_; have NB232_209 := n11_; have NB218_232 := n12_; have NB232_218 := n13_; have NB225_232 := n14_; have NB232_225 := n15_; clear n0_ n1_ n2_ n3_ n4_ n5_ n6_ n7_ n8_ n9_ n10_ n11_ n12_ n13_ n14_ n15_; clear hb hbox hg; have hnb35 := NB232_209.out; have hnc35 := NB209_232.out; have hnb36 := NB232_218.out; have hnc36 := NB218_232.out; have hnb37 := NB232_225.out; have hnc37 := NB225_232.out; have hcz38_0 : w34.cell? ⟨gb232, 0, none⟩ = some (.int .i64 0) := (blk_cell BK232.out 0).trans rfl; have hcz38_1 : w34.cell? ⟨gb232, 1, none⟩ = some (.int .i64 0) := (blk_cell BK232.out 1).trans rfl; have hcz38_2 : w34.cell? ⟨gb232, 2, none⟩ = some (.slice none 0 0) := (blk_cell BK232.out 2).trans rfl; have hfz38_0 := blk_frozen BK232.out 0; have hfz38_1 := blk_frozen BK232.out 1; have hfz38_2 := blk_frozen BK232.out 2; obtain ⟨Ao39, co39, eo39⟩ := Kd.R_slice HO230.out; subst eo39; have hcz40_0 : w34.cell? ⟨gb209, 0, none⟩ = some (.int .i64 a0_0) := (blk_cell BK209.out 0).trans rfl; have hcz40_1 : w34.cell? ⟨gb209, 1, none⟩ = some (.int .i64 a0_1) := (blk_cell BK209.out 1).trans rfl; have hcz40_2 : w34.cell? ⟨gb209, 2, none⟩ = some (.slice A0_2 l0_2.length c0_2) := (blk_cell BK209.out 2).trans rfl; have hfz40_0 := blk_frozen BK209.out 0; have hfz40_1 := blk_frozen BK209.out 1; have hfz40_2 := blk_frozen BK209.out 2) | ((with_reducible refine gate_callee (f := 16) rfl ?_); refine goesL_ (some 41) rfl rfl Try.func16 (by kernel_rfl) rfl #[.agg #[.int .i64 a0_0, .int .i64 a0_1, .slice A0_2 l0_2.length c0_2]] rfl (by (try simp only [List.map_toArray, List.map_cons, List.map_nil]); first | done | rfl | (simp only [List.length_drop, List.length_take]; rfl)) ?_; (with_reducible refine (incunableref05_Flip.calls k a0_0 a0_1 _ _ l0_2 t233 t234 t235 t238 _ ?side1 ?side2 A14.out).mono ?_); (case side1 => exact Kd.C_below HR0_2.out (by repeat (first | (with_reducible first | exact HB.out | apply below_alloc | apply pw_below_drewN | apply below_drew1 | refine below_set ?_ GE209.out | refine below_set ?_ GE218.out | refine below_set ?_ GE225.out | refine below_set ?_ GE232.out) | exact HB.out))); (case side2 => exact HC0_2.out); rintro e w41 ⟨v236, rfl, ho0, hb⟩; refine ⟨_, rfl, ?_⟩; have n0_ := Aside0.mk (Kd.R_elder' (by (with_reducible repeat (first | apply Kd.R_alloc | apply Kd.R_drewN | apply Kd.R_drew)); exact (Kd.R_mono (Kd.R_far (p := ⟨gb232, 2, none⟩) (Kd.R_far (p := ⟨gb232, 1, none⟩) (Kd.R_far (p := ⟨gb232, 0, none⟩) (Kd.R_types HO216.out BK232.out (by decide)) (fun _ hk => hk.2) (.int .i64 t226)) (fun _ hk => hk.2) (.int .i64 t227)) (fun _ hk => hk.2) (.slice Ao39 t228.length co39)) (fun _ h_ => h_.1))) (Kd.R_base ho0) hb); have n1_ := Aside0.mk (Kd.R_elder' (by (with_reducible repeat (first | apply Kd.R_alloc | apply Kd.R_drewN | apply Kd.R_drew)); exact (Kd.R_mono (Kd.R_far (p := ⟨gb232, 2, none⟩) (Kd.R_far (p := ⟨gb232, 1, none⟩) (Kd.R_far (p := ⟨gb232, 0, none⟩) (Kd.R_types HO223.out BK232.out (by decide)) (fun _ hk => hk.2) (.int .i64 t226)) (fun _ hk => hk.2) (.int .i64 t227)) (fun _ hk => hk.2) (.slice Ao39 t228.length co39)) (fun _ h_ => h_.1))) (Kd.R_base ho0) hb); have n2_ := Aside0.mk (Kd.R_elder' (by (with_reducible repeat (first | apply Kd.R_alloc | apply Kd.R_drewN | apply Kd.R_drew)); exact (Kd.R_mono (Kd.R_far (p := ⟨gb232, 2, none⟩) (Kd.R_far (p := ⟨gb232, 1, none⟩) (Kd.R_far (p := ⟨gb232, 0, none⟩) (Kd.R_types HO230.out BK232.out (by decide)) (fun _ hk => hk.2) (.int .i64 t226)) (fun _ hk => hk.2) (.int .i64 t227)) (fun _ hk => hk.2) (.slice Ao39 t228.length co39)) (fun _ h_ => h_.1))) (Kd.R_base ho0) hb); have n3_ := Aside0.mk (Kd.R_lower (Kd.R_new' (Kd.R_new' (Kd.R_new' ho0 (Kd.R_lt (by (with_reducible repeat (first | apply Kd.R_alloc | apply Kd.R_drewN | apply Kd.R_drew)); exact (Kd.R_mono (Kd.R_far (p := ⟨gb232, 2, none⟩) (Kd.R_far (p := ⟨gb232, 1, none⟩) (Kd.R_far (p := ⟨gb232, 0, none⟩) (Kd.R_types HO216.out BK232.out (by decide)) (fun _ hk => hk.2) (.int .i64 t226)) (fun _ hk => hk.2) (.int .i64 t227)) (fun _ hk => hk.2) (.slice Ao39 t228.length co39)) (fun _ h_ => h_.1))))) (Kd.R_lt (by (with_reducible repeat (first | apply Kd.R_alloc | apply Kd.R_drewN | apply Kd.R_drew)); exact (Kd.R_mono (Kd.R_far (p := ⟨gb232, 2, none⟩) (Kd.R_far (p := ⟨gb232, 1, none⟩) (Kd.R_far (p := ⟨gb232, 0, none⟩) (Kd.R_types HO223.out BK232.out (by decide)) (fun _ hk => hk.2) (.int .i64 t226)) (fun _ hk => hk.2) (.int .i64 t227)) (fun _ hk => hk.2) (.slice Ao39 t228.length co39)) (fun _ h_ => h_.1))))) (Kd.R_lt (by (with_reducible repeat (first | apply Kd.R_alloc | apply Kd.R_drewN | apply Kd.R_drew)); exact (Kd.R_mono (Kd.R_far (p := ⟨gb232, 2, none⟩) (Kd.R_far (p := ⟨gb232, 1, none⟩) (Kd.R_far (p := ⟨gb232, 0, none⟩) (Kd.R_types HO230.out BK232.out (by decide)) (fun _ hk => hk.2) (.int .i64 t226)) (fun _ hk => hk.2) (.int .i64 t227)) (fun _ hk => hk.2) (.slice Ao39 t228.length co39)) (fun _ h_ => h_.1))))) (below_size (by repeat (first | (with_reducible first | exact HB.out | apply below_alloc | apply pw_below_drewN | apply below_drew1 | refine below_set ?_ GE209.out | refine below_set ?_ GE218.out | refine below_set ?_ GE225.out | refine below_set ?_ GE232.out) | exact HB.out)))); have n4_ := Aside0.mk (blk_below (g := gb209) (o := .cells #[.int .i64 a0_0, .int .i64 a0_1, .slice A0_2 l0_2.length c0_2] 24 (0, 0)) (by refine bF ?_ ?_; exact NB209_232.out; refine bF ?_ ?_; exact NB209_232.out; refine bF ?_ ?_; exact NB209_232.out; exact bU BK209.out) hb); have n5_ := Aside0.mk (blk_below (g := gb218) (o := .cells #[.int .i64 t212, .int .i64 t213, .slice Ao24 t214.length co24] 24 (0, 0)) (by refine bF ?_ ?_; exact NB218_232.out; refine bF ?_ ?_; exact NB218_232.out; refine bF ?_ ?_; exact NB218_232.out; exact bU BK218.out) hb); have n6_ := Aside0.mk (blk_below (g := gb225) (o := .cells #[.int .i64 t219, .int .i64 t220, .slice Ao31 t221.length co31] 24 (0, 0)) (by refine bF ?_ ?_; exact NB225_232.out; refine bF ?_ ?_; exact NB225_232.out; refine bF ?_ ?_; exact NB225_232.out; exact bU BK225.out) hb); have n7_ := Aside0.mk (blk_below (g := gb232) (o := .cells #[.int .i64 t226, .int .i64 t227, .slice Ao39 t228.length co39] 24 (0, 0)) (by (with_reducible repeat (first | refine blk_drewN ?_ _ | refine blk_drew ?_ | refine blk_alloc ?_ _)); refine blk_put (cs := #[.int .i64 t226, .int .i64 t227, .slice none 0 0]) ?_ 2 _ rfl; (with_reducible repeat (first | refine blk_drewN ?_ _ | refine blk_drew ?_ | refine blk_alloc ?_ _)); refine blk_put (cs := #[.int .i64 t226, .int .i64 0, .slice none 0 0]) ?_ 1 _ rfl; (with_reducible repeat (first | refine blk_drewN ?_ _ | refine blk_drew ?_ | refine blk_alloc ?_ _)); refine blk_put (cs := #[.int .i64 0, .int .i64 0, .slice none 0 0]) ?_ 0 _ rfl; exact bU BK232.out) hb); have n8_ := Aside0.mk (below_step (by repeat (first | (with_reducible first | exact HB.out | apply below_alloc | apply pw_below_drewN | apply below_drew1 | refine below_set ?_ GE209.out | refine below_set ?_ GE218.out | refine below_set ?_ GE225.out | refine below_set ?_ GE232.out) | exact HB.out)) hb); clear HO216; clear HO223; clear HO230; clear BK209; clear BK218; clear BK225; clear BK232; clear HB; have HO216 := n0_; have HO223 := n1_; have HO230 := n2_; have HO237 := n3_; have BK209 := n4_; have BK218 := n5_; have BK225 := n6_; have BK232 := n7_; have HB := n8_; clear n0_ n1_ n2_ n3_ n4_ n5_ n6_ n7_ n8_; (try clear hb); (try clear hb2); (try clear hk); (try clear hi); (try clear ho0)) | ((with_reducible refine gate_dst (N := 13) rfl ?_); refine box_event ?hg (N := 13) ?hd (cs := #[.int .i64 0, .int .i64 0, .slice none 0 0]) (t := 24) ?hr ?_; (case hd => rfl); (case hg => rfl); (case hr => first | (go_simp; done) | (go_simp; rfl)); intro gb239 hg w42 hbox hb; have n0_ := Aside0.mk (Kd.R_below (rU HO216.out) hb); have n1_ := Aside0.mk (Kd.R_below (rU HO223.out) hb); have n2_ := Aside0.mk (Kd.R_below (rU HO230.out) hb); have n3_ := Aside0.mk (Kd.R_below (rU HO237.out) hb); have n4_ := Aside0.mk (blk_below (bU BK209.out) hb); have n5_ := Aside0.mk (blk_below (bU BK218.out) hb); have n6_ := Aside0.mk (blk_below (bU BK225.out) hb); have n7_ := Aside0.mk (blk_below (bU BK232.out) hb); have n8_ := Aside0.mk (below_step (by repeat (first | (with_reducible first | exact HB.out | apply below_alloc | apply pw_below_drewN | apply below_drew1 | refine below_set ?_ GE209.out | refine below_set ?_ GE218.out | refine below_set ?_ GE225.out | refine below_set ?_ GE232.out) | exact HB.out)) hb); have n9_ := Aside0.mk (hbox); have n10_ := Aside0.mk ((by rw [hg]; exact (below_size (by repeat (first | (with_reducible first | exact HB.out | apply below_alloc | apply pw_below_drewN | apply below_drew1 | refine below_set ?_ GE209.out | refine below_set ?_ GE218.out | refine below_set ?_ GE225.out | refine below_set ?_ GE232.out) | exact HB.out))) : w.heap.size ≤ gb239)); have n11_ := Aside0.mk ((by rw [hg]; exact (below_size (by repeat (first | (with_reducible first | exact HB.out | apply below_alloc | apply pw_below_drewN | apply below_drew1 | refine below_set ?_ GE209.out | refine below_set ?_ GE218.out | refine below_set ?_ GE225.out | refine below_set ?_ GE232.out) | exact HB.out))) : w.heap.size ≤ gb239)); have n12_ := Aside0.mk ((by rw [hg]; exact Nat.ne_of_lt (blk_lt (bU BK209.out)) : gb209 ≠ gb239)); have n13_ := Aside0.mk ((by rw [hg]; exact Nat.ne_of_gt (blk_lt (bU BK209.out)) : gb239 ≠ gb209)); have n14_ := Aside0.mk ((by rw [hg]; exact Nat.ne_of_lt (blk_lt (bU BK218.out)) : gb218 ≠ gb239)); have n15_ := Aside0.mk ((by rw [hg]; exact Nat.ne_of_gt (blk_lt (bU BK218.out)) : gb239 ≠ gb218)); have n16_ := Aside0.mk ((by rw [hg]; exact Nat.ne_of_lt (blk_lt (bU BK225.out)) : gb225 ≠ gb239)); have n17_ := Aside0.mk ((by rw [hg]; exact Nat.ne_of_gt (blk_lt (bU BK225.out)) : gb239 ≠ gb225)); have n18_ := Aside0.mk ((by rw [hg]; exact Nat.ne_of_lt (blk_lt (bU BK232.out)) : gb232 ≠ gb239)); have n19_ := Aside0.mk ((by rw [hg]; exact Nat.ne_of_gt (blk_lt (bU BK232.out)) : gb239 ≠ gb232)); clear HO216; clear HO223; clear HO230; clear HO237; clear BK209; clear BK218; clear BK225; clear BK232; clear HB; have HO216 := n0_; have HO223 := n1_; have HO230 := n2_; have HO237 := n3_; have BK209 := n4_; have BK218 := n5_; have BK225 := n6_; have BK232 := n7_; have HB := n8_; have BK239 := n9_; have GW239 := n10_; have GE239 := n11_; have NB209_239 := n12_; have NB239_209 := n13_; have NB218_239 := n14_; have NB239_218 := n15_; have NB225_239 := n16_; have NB239_225 := n17_; have NB232_239 := n18_; have NB239_232 := n19_; clear n0_ n1_ n2_ n3_ n4_ n5_ n6_ n7_ n8_ n9_ n10_ n11_ n12_ n13_ n14_ n15_ n16_ n17_ n18_ n19_; clear hb hbox hg; have hnb43 := NB239_209.out; have hnc43 := NB209_239.out; have hnb44 := NB239_218.out; have hnc44 := NB218_239.out; have hnb45 := NB239_225.out; have hnc45 := NB225_239.out; have hnb46 := NB239_232.out; have hnc46 := NB232_239.out; have hcz47_0 : w42.cell? ⟨gb239, 0, none⟩ = some (.int .i64 0) := (blk_cell BK239.out 0).trans rfl; have hcz47_1 : w42.cell? ⟨gb239, 1, none⟩ = some (.int .i64 0) := (blk_cell BK239.out 1).trans rfl; have hcz47_2 : w42.cell? ⟨gb239, 2, none⟩ = some (.slice none 0 0) := (blk_cell BK239.out 2).trans rfl; have hfz47_0 := blk_frozen BK239.out 0; have hfz47_1 := blk_frozen BK239.out 1; have hfz47_2 := blk_frozen BK239.out 2; obtain ⟨Ao48, co48, eo48⟩ := Kd.R_slice HO237.out; subst eo48))
    (try simp only [Act.put, List.setIfInBounds_toArray, List.set_cons_zero, List.set_cons_succ])
    go_cut [63] (fun v63 wc => ∃ (kq : Nat) (x63_14 : Bool), v63 = .bool x63_14 ∧ Aside0 (incunablelaw05_BitmapTurns.j0 kq a1 a2 t217 x63_14 a0_0 a0_1 l0_2 t212 t213 t214 t226 t227 t228 = some r) ∧ Aside0 (kq ≤ k) ∧ Aside0 (Kd.R (Kd.int .u8) 5 wc w.heap.size (fun k_ => some k_ ≠ ((.slice Ao31 t221.length co31) : Value).ownBlock ∧ some k_ ≠ ((.slice Ao39 t228.length co39) : Value).ownBlock ∧ some k_ ≠ ((.slice Ao48 t235.length co48) : Value).ownBlock) (.slice Ao24 t214.length co24) t214) ∧ Aside0 (Kd.R (Kd.int .u8) 5 wc w.heap.size (fun k_ => some k_ ≠ ((.slice Ao24 t214.length co24) : Value).ownBlock ∧ some k_ ≠ ((.slice Ao39 t228.length co39) : Value).ownBlock ∧ some k_ ≠ ((.slice Ao48 t235.length co48) : Value).ownBlock) (.slice Ao31 t221.length co31) t221) ∧ Aside0 (Kd.R (Kd.int .u8) 5 wc w.heap.size (fun k_ => some k_ ≠ ((.slice Ao24 t214.length co24) : Value).ownBlock ∧ some k_ ≠ ((.slice Ao31 t221.length co31) : Value).ownBlock ∧ some k_ ≠ ((.slice Ao48 t235.length co48) : Value).ownBlock) (.slice Ao39 t228.length co39) t228) ∧ Aside0 (Kd.R (Kd.int .u8) 5 wc w.heap.size (fun k_ => some k_ ≠ ((.slice Ao24 t214.length co24) : Value).ownBlock ∧ some k_ ≠ ((.slice Ao31 t221.length co31) : Value).ownBlock ∧ some k_ ≠ ((.slice Ao39 t228.length co39) : Value).ownBlock) (.slice Ao48 t235.length co48) t235) ∧ Aside0 (wc.heap[gb209]? = some (.cells #[.int .i64 a0_0, .int .i64 a0_1, (.slice A0_2 l0_2.length c0_2)] 24 (0, 0))) ∧ Aside0 (wc.heap[gb218]? = some (.cells #[.int .i64 t212, .int .i64 t213, (.slice Ao24 t214.length co24)] 24 (0, 0))) ∧ Aside0 (wc.heap[gb225]? = some (.cells #[.int .i64 t219, .int .i64 t220, (.slice Ao31 t221.length co31)] 24 (0, 0))) ∧ Aside0 (wc.heap[gb232]? = some (.cells #[.int .i64 t226, .int .i64 t227, (.slice Ao39 t228.length co39)] 24 (0, 0))) ∧ Aside0 (wc.heap[gb239]? = some (.cells #[.int .i64 t233, .int .i64 t234, (.slice Ao48 t235.length co48)] 24 (0, 0))) ∧ Aside0 (Below w.heap.size w wc))
    case first =>
      have H := HC15.out
      clear HC15
      by_cases c49 : t217 = t224
      · rw [if_pos c49] at H
        have c49b0 : (t217 == t224) = true := beq_iff_eq.mpr c49
        have c49b1 : (t217 != t224) = false := bne_eq_false_iff_eq.mpr c49
        clear c49
        (first | rw [c49b0] | (simp only [i64_w, i32_w]; rw [c49b0]) | skip)
        by_cases c50 : t231 = t238
        · rw [if_pos c50] at H
          have c50b0 : (t231 == t238) = true := beq_iff_eq.mpr c50
          have c50b1 : (t231 != t238) = false := bne_eq_false_iff_eq.mpr c50
          clear c50
          replace H := Option.bind_eq_some_iff.mp H
          obtain ⟨t240, A510, H⟩ := H
          replace H : (if t240 = true then ((incunableref05_Same.f t226 t227 t228 t233 t234 t235).bind fun t241 => (incunablelaw05_BitmapTurns.j0 k a1 a2 t217 (!t241) a0_0 a0_1 l0_2 t212 t213 t214 t226 t227 t228)) else (incunablelaw05_BitmapTurns.j0 k a1 a2 t217 true a0_0 a0_1 l0_2 t212 t213 t214 t226 t227 t228)) = some r := H
          have A51 := Aside0.mk A510
          clear A510
          by_cases c52 : t240 = true
          · subst c52
            have H1 : ((incunableref05_Same.f t226 t227 t228 t233 t234 t235).bind fun t241 => (incunablelaw05_BitmapTurns.j0 k a1 a2 t217 (!t241) a0_0 a0_1 l0_2 t212 t213 t214 t226 t227 t228)) = some r := by rw [if_pos rfl] at H; exact H
            clear H
            have H := H1
            clear H1
            replace H := Option.bind_eq_some_iff.mp H
            obtain ⟨t241, A530, H⟩ := H
            replace H : (incunablelaw05_BitmapTurns.j0 k a1 a2 t217 (!t241) a0_0 a0_1 l0_2 t212 t213 t214 t226 t227 t228) = some r := H
            have A53 := Aside0.mk A530
            clear A530
            have H' := Aside0.mk H
            clear H
            have hnb54 := NB218_209.out
            have hnc54 := NB209_218.out
            have hnb55 := NB218_225.out
            have hnc55 := NB225_218.out
            have hnb56 := NB218_232.out
            have hnc56 := NB232_218.out
            have hnb57 := NB218_239.out
            have hnc57 := NB239_218.out
            have hcz58_0 : w42.cell? ⟨gb218, 0, none⟩ = some (.int .i64 t212) := (blk_cell BK218.out 0).trans rfl
            have hcz58_1 : w42.cell? ⟨gb218, 1, none⟩ = some (.int .i64 t213) := (blk_cell BK218.out 1).trans rfl
            have hcz58_2 : w42.cell? ⟨gb218, 2, none⟩ = some (.slice Ao24 t214.length co24) := (blk_cell BK218.out 2).trans rfl
            have hfz58_0 := blk_frozen BK218.out 0
            have hfz58_1 := blk_frozen BK218.out 1
            have hfz58_2 := blk_frozen BK218.out 2
            have hnb59 := NB225_209.out
            have hnc59 := NB209_225.out
            have hnb60 := NB225_232.out
            have hnc60 := NB232_225.out
            have hnb61 := NB225_239.out
            have hnc61 := NB239_225.out
            have hcz62_0 : w42.cell? ⟨gb225, 0, none⟩ = some (.int .i64 t219) := (blk_cell BK225.out 0).trans rfl
            have hcz62_1 : w42.cell? ⟨gb225, 1, none⟩ = some (.int .i64 t220) := (blk_cell BK225.out 1).trans rfl
            have hcz62_2 : w42.cell? ⟨gb225, 2, none⟩ = some (.slice Ao31 t221.length co31) := (blk_cell BK225.out 2).trans rfl
            have hfz62_0 := blk_frozen BK225.out 0
            have hfz62_1 := blk_frozen BK225.out 1
            have hfz62_2 := blk_frozen BK225.out 2
            go_wp2_with (first | (go_at_call 17; (with_reducible refine (incunableref05_Same.calls t212 t213 _ _ t214 t219 t220 _ _ t221 true _ ?side1 ?side2 ?side3 ?side4 A51.out).mono ?_); (case side1 => refine (Kd.R_reads' (e := 5) (base := w.heap.size) (ok := fun k_ => (((True ∧ some k_ ≠ (.slice Ao31 t221.length co31 : Value).ownBlock) ∧ some k_ ≠ (.slice Ao39 t228.length co39 : Value).ownBlock) ∧ some k_ ≠ (.slice Ao48 t235.length co48 : Value).ownBlock)) (n := t214.length) (c := co24) ?_).2.2; exact (by (with_reducible repeat (first | apply Kd.R_alloc | apply Kd.R_drewN | apply Kd.R_drew)); exact (Kd.R_mono (Kd.R_far (p := ⟨gb239, 2, none⟩) (Kd.R_far (p := ⟨gb239, 1, none⟩) (Kd.R_far (p := ⟨gb239, 0, none⟩) (Kd.R_types HO216.out BK239.out (by decide)) (fun _ hk => hk.2) (.int .i64 t233)) (fun _ hk => hk.2) (.int .i64 t234)) (fun _ hk => hk.2) (.slice Ao48 t235.length co48)) (fun _ h_ => h_.1)))); (case side2 => exact (Kd.R_reads' HO216.out).2.1); (case side3 => refine (Kd.R_reads' (e := 5) (base := w.heap.size) (ok := fun k_ => (((True ∧ some k_ ≠ (.slice Ao24 t214.length co24 : Value).ownBlock) ∧ some k_ ≠ (.slice Ao39 t228.length co39 : Value).ownBlock) ∧ some k_ ≠ (.slice Ao48 t235.length co48 : Value).ownBlock)) (n := t221.length) (c := co31) ?_).2.2; exact (by (with_reducible repeat (first | apply Kd.R_alloc | apply Kd.R_drewN | apply Kd.R_drew)); exact (Kd.R_mono (Kd.R_far (p := ⟨gb239, 2, none⟩) (Kd.R_far (p := ⟨gb239, 1, none⟩) (Kd.R_far (p := ⟨gb239, 0, none⟩) (Kd.R_types HO223.out BK239.out (by decide)) (fun _ hk => hk.2) (.int .i64 t233)) (fun _ hk => hk.2) (.int .i64 t234)) (fun _ hk => hk.2) (.slice Ao48 t235.length co48)) (fun _ h_ => h_.1)))); (case side4 => exact (Kd.R_reads' HO223.out).2.1); rintro e w63 ⟨rfl, hb⟩; have n0_ := Aside0.mk (Kd.R_below (by (with_reducible repeat (first | apply Kd.R_alloc | apply Kd.R_drewN | apply Kd.R_drew)); exact (Kd.R_mono (Kd.R_far (p := ⟨gb239, 2, none⟩) (Kd.R_far (p := ⟨gb239, 1, none⟩) (Kd.R_far (p := ⟨gb239, 0, none⟩) (Kd.R_types HO216.out BK239.out (by decide)) (fun _ hk => hk.2) (.int .i64 t233)) (fun _ hk => hk.2) (.int .i64 t234)) (fun _ hk => hk.2) (.slice Ao48 t235.length co48)) (fun _ h_ => h_.1))) hb); have n1_ := Aside0.mk (Kd.R_below (by (with_reducible repeat (first | apply Kd.R_alloc | apply Kd.R_drewN | apply Kd.R_drew)); exact (Kd.R_mono (Kd.R_far (p := ⟨gb239, 2, none⟩) (Kd.R_far (p := ⟨gb239, 1, none⟩) (Kd.R_far (p := ⟨gb239, 0, none⟩) (Kd.R_types HO223.out BK239.out (by decide)) (fun _ hk => hk.2) (.int .i64 t233)) (fun _ hk => hk.2) (.int .i64 t234)) (fun _ hk => hk.2) (.slice Ao48 t235.length co48)) (fun _ h_ => h_.1))) hb); have n2_ := Aside0.mk (Kd.R_below (by (with_reducible repeat (first | apply Kd.R_alloc | apply Kd.R_drewN | apply Kd.R_drew)); exact (Kd.R_mono (Kd.R_far (p := ⟨gb239, 2, none⟩) (Kd.R_far (p := ⟨gb239, 1, none⟩) (Kd.R_far (p := ⟨gb239, 0, none⟩) (Kd.R_types HO230.out BK239.out (by decide)) (fun _ hk => hk.2) (.int .i64 t233)) (fun _ hk => hk.2) (.int .i64 t234)) (fun _ hk => hk.2) (.slice Ao48 t235.length co48)) (fun _ h_ => h_.1))) hb); have n3_ := Aside0.mk (Kd.R_below (by (with_reducible repeat (first | apply Kd.R_alloc | apply Kd.R_drewN | apply Kd.R_drew)); exact (Kd.R_mono (Kd.R_far (p := ⟨gb239, 2, none⟩) (Kd.R_far (p := ⟨gb239, 1, none⟩) (Kd.R_far (p := ⟨gb239, 0, none⟩) (Kd.R_types HO237.out BK239.out (by decide)) (fun _ hk => hk.2) (.int .i64 t233)) (fun _ hk => hk.2) (.int .i64 t234)) (fun _ hk => hk.2) (.slice Ao48 t235.length co48)) (fun _ h_ => h_.1))) hb); have n4_ := Aside0.mk (blk_below (g := gb209) (o := .cells #[.int .i64 a0_0, .int .i64 a0_1, .slice A0_2 l0_2.length c0_2] 24 (0, 0)) (by refine bF ?_ ?_; exact NB209_239.out; refine bF ?_ ?_; exact NB209_239.out; refine bF ?_ ?_; exact NB209_239.out; exact bU BK209.out) hb); have n5_ := Aside0.mk (blk_below (g := gb218) (o := .cells #[.int .i64 t212, .int .i64 t213, .slice Ao24 t214.length co24] 24 (0, 0)) (by refine bF ?_ ?_; exact NB218_239.out; refine bF ?_ ?_; exact NB218_239.out; refine bF ?_ ?_; exact NB218_239.out; exact bU BK218.out) hb); have n6_ := Aside0.mk (blk_below (g := gb225) (o := .cells #[.int .i64 t219, .int .i64 t220, .slice Ao31 t221.length co31] 24 (0, 0)) (by refine bF ?_ ?_; exact NB225_239.out; refine bF ?_ ?_; exact NB225_239.out; refine bF ?_ ?_; exact NB225_239.out; exact bU BK225.out) hb); have n7_ := Aside0.mk (blk_below (g := gb232) (o := .cells #[.int .i64 t226, .int .i64 t227, .slice Ao39 t228.length co39] 24 (0, 0)) (by refine bF ?_ ?_; exact NB232_239.out; refine bF ?_ ?_; exact NB232_239.out; refine bF ?_ ?_; exact NB232_239.out; exact bU BK232.out) hb); have n8_ := Aside0.mk (blk_below (g := gb239) (o := .cells #[.int .i64 t233, .int .i64 t234, .slice Ao48 t235.length co48] 24 (0, 0)) (by (with_reducible repeat (first | refine blk_drewN ?_ _ | refine blk_drew ?_ | refine blk_alloc ?_ _)); refine blk_put (cs := #[.int .i64 t233, .int .i64 t234, .slice none 0 0]) ?_ 2 _ rfl; (with_reducible repeat (first | refine blk_drewN ?_ _ | refine blk_drew ?_ | refine blk_alloc ?_ _)); refine blk_put (cs := #[.int .i64 t233, .int .i64 0, .slice none 0 0]) ?_ 1 _ rfl; (with_reducible repeat (first | refine blk_drewN ?_ _ | refine blk_drew ?_ | refine blk_alloc ?_ _)); refine blk_put (cs := #[.int .i64 0, .int .i64 0, .slice none 0 0]) ?_ 0 _ rfl; exact bU BK239.out) hb); have n9_ := Aside0.mk (below_step (by repeat (first | (with_reducible first | exact HB.out | apply below_alloc | apply pw_below_drewN | apply below_drew1 | refine below_set ?_ GE209.out | refine below_set ?_ GE218.out | refine below_set ?_ GE225.out | refine below_set ?_ GE232.out | refine below_set ?_ GE239.out) | exact HB.out)) hb); clear HO216; clear HO223; clear HO230; clear HO237; clear BK209; clear BK218; clear BK225; clear BK232; clear BK239; clear HB; have HO216 := n0_; have HO223 := n1_; have HO230 := n2_; have HO237 := n3_; have BK209 := n4_; have BK218 := n5_; have BK225 := n6_; have BK232 := n7_; have BK239 := n8_; have HB := n9_; clear n0_ n1_ n2_ n3_ n4_ n5_ n6_ n7_ n8_ n9_; (try clear hb); (try clear hb2); (try clear hk); (try clear hi); have hnb64 := NB232_209.out; have hnc64 := NB209_232.out; have hnb65 := NB232_239.out; have hnc65 := NB239_232.out; have hcz66_0 : w63.cell? ⟨gb232, 0, none⟩ = some (.int .i64 t226) := (blk_cell BK232.out 0).trans rfl; have hcz66_1 : w63.cell? ⟨gb232, 1, none⟩ = some (.int .i64 t227) := (blk_cell BK232.out 1).trans rfl; have hcz66_2 : w63.cell? ⟨gb232, 2, none⟩ = some (.slice Ao39 t228.length co39) := (blk_cell BK232.out 2).trans rfl; have hfz66_0 := blk_frozen BK232.out 0; have hfz66_1 := blk_frozen BK232.out 1; have hfz66_2 := blk_frozen BK232.out 2; have hnb67 := NB239_209.out; have hnc67 := NB209_239.out; have hcz68_0 : w63.cell? ⟨gb239, 0, none⟩ = some (.int .i64 t233) := (blk_cell BK239.out 0).trans rfl; have hcz68_1 : w63.cell? ⟨gb239, 1, none⟩ = some (.int .i64 t234) := (blk_cell BK239.out 1).trans rfl; have hcz68_2 : w63.cell? ⟨gb239, 2, none⟩ = some (.slice Ao48 t235.length co48) := (blk_cell BK239.out 2).trans rfl; have hfz68_0 := blk_frozen BK239.out 0; have hfz68_1 := blk_frozen BK239.out 1; have hfz68_2 := blk_frozen BK239.out 2) | (go_at_call 17; (with_reducible refine (incunableref05_Same.calls t226 t227 _ _ t228 t233 t234 _ _ t235 t241 _ ?side1 ?side2 ?side3 ?side4 A53.out).mono ?_); (case side1 => repeat (first | exact (Kd.R_reads' HO230.out).2.2 | (with_reducible refine Kd.C_alloc ?_ _) | (with_reducible refine Kd.C_drewN ?_ _) | (with_reducible refine Kd.C_drew ?_))); (case side2 => exact (Kd.R_reads' HO230.out).2.1); (case side3 => repeat (first | exact (Kd.R_reads' HO237.out).2.2 | (with_reducible refine Kd.C_alloc ?_ _) | (with_reducible refine Kd.C_drewN ?_ _) | (with_reducible refine Kd.C_drew ?_))); (case side4 => exact (Kd.R_reads' HO237.out).2.1); rintro e w69 ⟨rfl, hb⟩; have n0_ := Aside0.mk (Kd.R_below (rU HO216.out) hb); have n1_ := Aside0.mk (Kd.R_below (rU HO223.out) hb); have n2_ := Aside0.mk (Kd.R_below (rU HO230.out) hb); have n3_ := Aside0.mk (Kd.R_below (rU HO237.out) hb); have n4_ := Aside0.mk (blk_below (bU BK209.out) hb); have n5_ := Aside0.mk (blk_below (bU BK218.out) hb); have n6_ := Aside0.mk (blk_below (bU BK225.out) hb); have n7_ := Aside0.mk (blk_below (bU BK232.out) hb); have n8_ := Aside0.mk (blk_below (bU BK239.out) hb); have n9_ := Aside0.mk (below_step (by repeat (first | (with_reducible first | exact HB.out | apply below_alloc | apply pw_below_drewN | apply below_drew1 | refine below_set ?_ GE209.out | refine below_set ?_ GE218.out | refine below_set ?_ GE225.out | refine below_set ?_ GE232.out | refine below_set ?_ GE239.out) | exact HB.out)) hb); clear HO216; clear HO223; clear HO230; clear HO237; clear BK209; clear BK218; clear BK225; clear BK232; clear BK239; clear HB; have HO216 := n0_; have HO223 := n1_; have HO230 := n2_; have HO237 := n3_; have BK209 := n4_; have BK218 := n5_; have BK225 := n6_; have BK232 := n7_; have BK239 := n8_; have HB := n9_; clear n0_ n1_ n2_ n3_ n4_ n5_ n6_ n7_ n8_ n9_; (try clear hb); (try clear hb2); (try clear hk); (try clear hi)))
            go_meet
            case rel => exact ⟨_, (!t241), (by first | rfl | (simp; done) | (simp [*]; done)), H', ⟨by first | omega | exact Nat.le_refl _⟩, ⟨by (with_reducible repeat (first | apply Kd.R_alloc | apply Kd.R_drewN | apply Kd.R_drew)); exact Kd.R_mono HO216.out (fun _ hk => ⟨hk.1.1.2, ⟨hk.1.2, hk.2⟩⟩)⟩, ⟨by (with_reducible repeat (first | apply Kd.R_alloc | apply Kd.R_drewN | apply Kd.R_drew)); exact Kd.R_mono HO223.out (fun _ hk => ⟨hk.1.1.2, ⟨hk.1.2, hk.2⟩⟩)⟩, ⟨by (with_reducible repeat (first | apply Kd.R_alloc | apply Kd.R_drewN | apply Kd.R_drew)); exact Kd.R_mono HO230.out (fun _ hk => ⟨hk.1.1.2, ⟨hk.1.2, hk.2⟩⟩)⟩, ⟨by (with_reducible repeat (first | apply Kd.R_alloc | apply Kd.R_drewN | apply Kd.R_drew)); exact Kd.R_mono HO237.out (fun _ hk => ⟨hk.1.1.2, ⟨hk.1.2, hk.2⟩⟩)⟩, ⟨by exact bU BK209.out⟩, ⟨by exact bU BK218.out⟩, ⟨by exact bU BK225.out⟩, ⟨by exact bU BK232.out⟩, ⟨by exact bU BK239.out⟩, ⟨by repeat (first | (with_reducible first | exact HB.out | apply below_alloc | apply pw_below_drewN | apply below_drew1 | refine below_set ?_ GE209.out | refine below_set ?_ GE218.out | refine below_set ?_ GE225.out | refine below_set ?_ GE232.out | refine below_set ?_ GE239.out) | exact HB.out)⟩⟩
          · replace c52 := Bool.eq_false_iff.mpr c52
            subst c52
            have H1 : (incunablelaw05_BitmapTurns.j0 k a1 a2 t217 true a0_0 a0_1 l0_2 t212 t213 t214 t226 t227 t228) = some r := by rw [if_neg (show ¬ (false = true) by decide)] at H; exact H
            clear H
            have H := H1
            clear H1
            have H' := Aside0.mk H
            clear H
            have hnb70 := NB218_209.out
            have hnc70 := NB209_218.out
            have hnb71 := NB218_225.out
            have hnc71 := NB225_218.out
            have hnb72 := NB218_232.out
            have hnc72 := NB232_218.out
            have hnb73 := NB218_239.out
            have hnc73 := NB239_218.out
            have hcz74_0 : w42.cell? ⟨gb218, 0, none⟩ = some (.int .i64 t212) := (blk_cell BK218.out 0).trans rfl
            have hcz74_1 : w42.cell? ⟨gb218, 1, none⟩ = some (.int .i64 t213) := (blk_cell BK218.out 1).trans rfl
            have hcz74_2 : w42.cell? ⟨gb218, 2, none⟩ = some (.slice Ao24 t214.length co24) := (blk_cell BK218.out 2).trans rfl
            have hfz74_0 := blk_frozen BK218.out 0
            have hfz74_1 := blk_frozen BK218.out 1
            have hfz74_2 := blk_frozen BK218.out 2
            have hnb75 := NB225_209.out
            have hnc75 := NB209_225.out
            have hnb76 := NB225_232.out
            have hnc76 := NB232_225.out
            have hnb77 := NB225_239.out
            have hnc77 := NB239_225.out
            have hcz78_0 : w42.cell? ⟨gb225, 0, none⟩ = some (.int .i64 t219) := (blk_cell BK225.out 0).trans rfl
            have hcz78_1 : w42.cell? ⟨gb225, 1, none⟩ = some (.int .i64 t220) := (blk_cell BK225.out 1).trans rfl
            have hcz78_2 : w42.cell? ⟨gb225, 2, none⟩ = some (.slice Ao31 t221.length co31) := (blk_cell BK225.out 2).trans rfl
            have hfz78_0 := blk_frozen BK225.out 0
            have hfz78_1 := blk_frozen BK225.out 1
            have hfz78_2 := blk_frozen BK225.out 2
            go_wp2_with (first | (go_at_call 17; (with_reducible refine (incunableref05_Same.calls t212 t213 _ _ t214 t219 t220 _ _ t221 false _ ?side1 ?side2 ?side3 ?side4 A51.out).mono ?_); (case side1 => refine (Kd.R_reads' (e := 5) (base := w.heap.size) (ok := fun k_ => (((True ∧ some k_ ≠ (.slice Ao31 t221.length co31 : Value).ownBlock) ∧ some k_ ≠ (.slice Ao39 t228.length co39 : Value).ownBlock) ∧ some k_ ≠ (.slice Ao48 t235.length co48 : Value).ownBlock)) (n := t214.length) (c := co24) ?_).2.2; exact (by (with_reducible repeat (first | apply Kd.R_alloc | apply Kd.R_drewN | apply Kd.R_drew)); exact (Kd.R_mono (Kd.R_far (p := ⟨gb239, 2, none⟩) (Kd.R_far (p := ⟨gb239, 1, none⟩) (Kd.R_far (p := ⟨gb239, 0, none⟩) (Kd.R_types HO216.out BK239.out (by decide)) (fun _ hk => hk.2) (.int .i64 t233)) (fun _ hk => hk.2) (.int .i64 t234)) (fun _ hk => hk.2) (.slice Ao48 t235.length co48)) (fun _ h_ => h_.1)))); (case side2 => exact (Kd.R_reads' HO216.out).2.1); (case side3 => refine (Kd.R_reads' (e := 5) (base := w.heap.size) (ok := fun k_ => (((True ∧ some k_ ≠ (.slice Ao24 t214.length co24 : Value).ownBlock) ∧ some k_ ≠ (.slice Ao39 t228.length co39 : Value).ownBlock) ∧ some k_ ≠ (.slice Ao48 t235.length co48 : Value).ownBlock)) (n := t221.length) (c := co31) ?_).2.2; exact (by (with_reducible repeat (first | apply Kd.R_alloc | apply Kd.R_drewN | apply Kd.R_drew)); exact (Kd.R_mono (Kd.R_far (p := ⟨gb239, 2, none⟩) (Kd.R_far (p := ⟨gb239, 1, none⟩) (Kd.R_far (p := ⟨gb239, 0, none⟩) (Kd.R_types HO223.out BK239.out (by decide)) (fun _ hk => hk.2) (.int .i64 t233)) (fun _ hk => hk.2) (.int .i64 t234)) (fun _ hk => hk.2) (.slice Ao48 t235.length co48)) (fun _ h_ => h_.1)))); (case side4 => exact (Kd.R_reads' HO223.out).2.1); rintro e w79 ⟨rfl, hb⟩; have n0_ := Aside0.mk (Kd.R_below (by (with_reducible repeat (first | apply Kd.R_alloc | apply Kd.R_drewN | apply Kd.R_drew)); exact (Kd.R_mono (Kd.R_far (p := ⟨gb239, 2, none⟩) (Kd.R_far (p := ⟨gb239, 1, none⟩) (Kd.R_far (p := ⟨gb239, 0, none⟩) (Kd.R_types HO216.out BK239.out (by decide)) (fun _ hk => hk.2) (.int .i64 t233)) (fun _ hk => hk.2) (.int .i64 t234)) (fun _ hk => hk.2) (.slice Ao48 t235.length co48)) (fun _ h_ => h_.1))) hb); have n1_ := Aside0.mk (Kd.R_below (by (with_reducible repeat (first | apply Kd.R_alloc | apply Kd.R_drewN | apply Kd.R_drew)); exact (Kd.R_mono (Kd.R_far (p := ⟨gb239, 2, none⟩) (Kd.R_far (p := ⟨gb239, 1, none⟩) (Kd.R_far (p := ⟨gb239, 0, none⟩) (Kd.R_types HO223.out BK239.out (by decide)) (fun _ hk => hk.2) (.int .i64 t233)) (fun _ hk => hk.2) (.int .i64 t234)) (fun _ hk => hk.2) (.slice Ao48 t235.length co48)) (fun _ h_ => h_.1))) hb); have n2_ := Aside0.mk (Kd.R_below (by (with_reducible repeat (first | apply Kd.R_alloc | apply Kd.R_drewN | apply Kd.R_drew)); exact (Kd.R_mono (Kd.R_far (p := ⟨gb239, 2, none⟩) (Kd.R_far (p := ⟨gb239, 1, none⟩) (Kd.R_far (p := ⟨gb239, 0, none⟩) (Kd.R_types HO230.out BK239.out (by decide)) (fun _ hk => hk.2) (.int .i64 t233)) (fun _ hk => hk.2) (.int .i64 t234)) (fun _ hk => hk.2) (.slice Ao48 t235.length co48)) (fun _ h_ => h_.1))) hb); have n3_ := Aside0.mk (Kd.R_below (by (with_reducible repeat (first | apply Kd.R_alloc | apply Kd.R_drewN | apply Kd.R_drew)); exact (Kd.R_mono (Kd.R_far (p := ⟨gb239, 2, none⟩) (Kd.R_far (p := ⟨gb239, 1, none⟩) (Kd.R_far (p := ⟨gb239, 0, none⟩) (Kd.R_types HO237.out BK239.out (by decide)) (fun _ hk => hk.2) (.int .i64 t233)) (fun _ hk => hk.2) (.int .i64 t234)) (fun _ hk => hk.2) (.slice Ao48 t235.length co48)) (fun _ h_ => h_.1))) hb); have n4_ := Aside0.mk (blk_below (g := gb209) (o := .cells #[.int .i64 a0_0, .int .i64 a0_1, .slice A0_2 l0_2.length c0_2] 24 (0, 0)) (by refine bF ?_ ?_; exact NB209_239.out; refine bF ?_ ?_; exact NB209_239.out; refine bF ?_ ?_; exact NB209_239.out; exact bU BK209.out) hb); have n5_ := Aside0.mk (blk_below (g := gb218) (o := .cells #[.int .i64 t212, .int .i64 t213, .slice Ao24 t214.length co24] 24 (0, 0)) (by refine bF ?_ ?_; exact NB218_239.out; refine bF ?_ ?_; exact NB218_239.out; refine bF ?_ ?_; exact NB218_239.out; exact bU BK218.out) hb); have n6_ := Aside0.mk (blk_below (g := gb225) (o := .cells #[.int .i64 t219, .int .i64 t220, .slice Ao31 t221.length co31] 24 (0, 0)) (by refine bF ?_ ?_; exact NB225_239.out; refine bF ?_ ?_; exact NB225_239.out; refine bF ?_ ?_; exact NB225_239.out; exact bU BK225.out) hb); have n7_ := Aside0.mk (blk_below (g := gb232) (o := .cells #[.int .i64 t226, .int .i64 t227, .slice Ao39 t228.length co39] 24 (0, 0)) (by refine bF ?_ ?_; exact NB232_239.out; refine bF ?_ ?_; exact NB232_239.out; refine bF ?_ ?_; exact NB232_239.out; exact bU BK232.out) hb); have n8_ := Aside0.mk (blk_below (g := gb239) (o := .cells #[.int .i64 t233, .int .i64 t234, .slice Ao48 t235.length co48] 24 (0, 0)) (by (with_reducible repeat (first | refine blk_drewN ?_ _ | refine blk_drew ?_ | refine blk_alloc ?_ _)); refine blk_put (cs := #[.int .i64 t233, .int .i64 t234, .slice none 0 0]) ?_ 2 _ rfl; (with_reducible repeat (first | refine blk_drewN ?_ _ | refine blk_drew ?_ | refine blk_alloc ?_ _)); refine blk_put (cs := #[.int .i64 t233, .int .i64 0, .slice none 0 0]) ?_ 1 _ rfl; (with_reducible repeat (first | refine blk_drewN ?_ _ | refine blk_drew ?_ | refine blk_alloc ?_ _)); refine blk_put (cs := #[.int .i64 0, .int .i64 0, .slice none 0 0]) ?_ 0 _ rfl; exact bU BK239.out) hb); have n9_ := Aside0.mk (below_step (by repeat (first | (with_reducible first | exact HB.out | apply below_alloc | apply pw_below_drewN | apply below_drew1 | refine below_set ?_ GE209.out | refine below_set ?_ GE218.out | refine below_set ?_ GE225.out | refine below_set ?_ GE232.out | refine below_set ?_ GE239.out) | exact HB.out)) hb); clear HO216; clear HO223; clear HO230; clear HO237; clear BK209; clear BK218; clear BK225; clear BK232; clear BK239; clear HB; have HO216 := n0_; have HO223 := n1_; have HO230 := n2_; have HO237 := n3_; have BK209 := n4_; have BK218 := n5_; have BK225 := n6_; have BK232 := n7_; have BK239 := n8_; have HB := n9_; clear n0_ n1_ n2_ n3_ n4_ n5_ n6_ n7_ n8_ n9_; (try clear hb); (try clear hb2); (try clear hk); (try clear hi)))
            go_meet
            case rel => exact ⟨_, (true), (by first | rfl | (simp; done) | (simp [*]; done)), H', ⟨by first | omega | exact Nat.le_refl _⟩, ⟨by (with_reducible repeat (first | apply Kd.R_alloc | apply Kd.R_drewN | apply Kd.R_drew)); exact Kd.R_mono HO216.out (fun _ hk => ⟨hk.1.1.2, ⟨hk.1.2, hk.2⟩⟩)⟩, ⟨by (with_reducible repeat (first | apply Kd.R_alloc | apply Kd.R_drewN | apply Kd.R_drew)); exact Kd.R_mono HO223.out (fun _ hk => ⟨hk.1.1.2, ⟨hk.1.2, hk.2⟩⟩)⟩, ⟨by (with_reducible repeat (first | apply Kd.R_alloc | apply Kd.R_drewN | apply Kd.R_drew)); exact Kd.R_mono HO230.out (fun _ hk => ⟨hk.1.1.2, ⟨hk.1.2, hk.2⟩⟩)⟩, ⟨by (with_reducible repeat (first | apply Kd.R_alloc | apply Kd.R_drewN | apply Kd.R_drew)); exact Kd.R_mono HO237.out (fun _ hk => ⟨hk.1.1.2, ⟨hk.1.2, hk.2⟩⟩)⟩, ⟨by exact bU BK209.out⟩, ⟨by exact bU BK218.out⟩, ⟨by exact bU BK225.out⟩, ⟨by exact bU BK232.out⟩, ⟨by exact bU BK239.out⟩, ⟨by repeat (first | (with_reducible first | exact HB.out | apply below_alloc | apply pw_below_drewN | apply below_drew1 | refine below_set ?_ GE209.out | refine below_set ?_ GE218.out | refine below_set ?_ GE225.out | refine below_set ?_ GE232.out | refine below_set ?_ GE239.out) | exact HB.out)⟩⟩
        · rw [if_neg c50] at H
          have c50b0 : (t231 == t238) = false := beq_eq_false_iff_ne.mpr c50
          have c50b1 : (t231 != t238) = true := bne_iff_ne.mpr c50
          have H' := Aside0.mk H
          clear H
          go_wp2
          go_meet
          case rel => exact ⟨_, (true), (by first | rfl | (simp; done) | (simp [*]; done)), H', ⟨by first | omega | exact Nat.le_refl _⟩, ⟨by (with_reducible repeat (first | apply Kd.R_alloc | apply Kd.R_drewN | apply Kd.R_drew)); exact Kd.R_mono (Kd.R_far (p := ⟨gb239, 2, none⟩) (Kd.R_far (p := ⟨gb239, 1, none⟩) (Kd.R_far (p := ⟨gb239, 0, none⟩) (Kd.R_types HO216.out BK239.out (by decide)) (fun _ hk => hk.2) (.int .i64 t233)) (fun _ hk => hk.2) (.int .i64 t234)) (fun _ hk => hk.2) (.slice Ao48 t235.length co48)) (fun _ hk => ⟨hk.1.1.1.2, ⟨hk.1.1.2, hk.1.2⟩⟩)⟩, ⟨by (with_reducible repeat (first | apply Kd.R_alloc | apply Kd.R_drewN | apply Kd.R_drew)); exact Kd.R_mono (Kd.R_far (p := ⟨gb239, 2, none⟩) (Kd.R_far (p := ⟨gb239, 1, none⟩) (Kd.R_far (p := ⟨gb239, 0, none⟩) (Kd.R_types HO223.out BK239.out (by decide)) (fun _ hk => hk.2) (.int .i64 t233)) (fun _ hk => hk.2) (.int .i64 t234)) (fun _ hk => hk.2) (.slice Ao48 t235.length co48)) (fun _ hk => ⟨hk.1.1.1.2, ⟨hk.1.1.2, hk.1.2⟩⟩)⟩, ⟨by (with_reducible repeat (first | apply Kd.R_alloc | apply Kd.R_drewN | apply Kd.R_drew)); exact Kd.R_mono (Kd.R_far (p := ⟨gb239, 2, none⟩) (Kd.R_far (p := ⟨gb239, 1, none⟩) (Kd.R_far (p := ⟨gb239, 0, none⟩) (Kd.R_types HO230.out BK239.out (by decide)) (fun _ hk => hk.2) (.int .i64 t233)) (fun _ hk => hk.2) (.int .i64 t234)) (fun _ hk => hk.2) (.slice Ao48 t235.length co48)) (fun _ hk => ⟨hk.1.1.1.2, ⟨hk.1.1.2, hk.1.2⟩⟩)⟩, ⟨by (with_reducible repeat (first | apply Kd.R_alloc | apply Kd.R_drewN | apply Kd.R_drew)); exact Kd.R_mono (Kd.R_far (p := ⟨gb239, 2, none⟩) (Kd.R_far (p := ⟨gb239, 1, none⟩) (Kd.R_far (p := ⟨gb239, 0, none⟩) (Kd.R_types HO237.out BK239.out (by decide)) (fun _ hk => hk.2) (.int .i64 t233)) (fun _ hk => hk.2) (.int .i64 t234)) (fun _ hk => hk.2) (.slice Ao48 t235.length co48)) (fun _ hk => ⟨hk.1.1.1.2, ⟨hk.1.1.2, hk.1.2⟩⟩)⟩, ⟨by refine bF ?_ ?_; exact NB209_239.out; refine bF ?_ ?_; exact NB209_239.out; refine bF ?_ ?_; exact NB209_239.out; exact bU BK209.out⟩, ⟨by refine bF ?_ ?_; exact NB218_239.out; refine bF ?_ ?_; exact NB218_239.out; refine bF ?_ ?_; exact NB218_239.out; exact bU BK218.out⟩, ⟨by refine bF ?_ ?_; exact NB225_239.out; refine bF ?_ ?_; exact NB225_239.out; refine bF ?_ ?_; exact NB225_239.out; exact bU BK225.out⟩, ⟨by refine bF ?_ ?_; exact NB232_239.out; refine bF ?_ ?_; exact NB232_239.out; refine bF ?_ ?_; exact NB232_239.out; exact bU BK232.out⟩, ⟨by (with_reducible repeat (first | refine blk_drewN ?_ _ | refine blk_drew ?_ | refine blk_alloc ?_ _)); refine blk_put (cs := #[.int .i64 t233, .int .i64 t234, .slice none 0 0]) ?_ 2 _ rfl; (with_reducible repeat (first | refine blk_drewN ?_ _ | refine blk_drew ?_ | refine blk_alloc ?_ _)); refine blk_put (cs := #[.int .i64 t233, .int .i64 0, .slice none 0 0]) ?_ 1 _ rfl; (with_reducible repeat (first | refine blk_drewN ?_ _ | refine blk_drew ?_ | refine blk_alloc ?_ _)); refine blk_put (cs := #[.int .i64 0, .int .i64 0, .slice none 0 0]) ?_ 0 _ rfl; exact bU BK239.out⟩, ⟨by repeat (first | (with_reducible first | exact HB.out | apply below_alloc | apply pw_below_drewN | apply below_drew1 | refine below_set ?_ GE209.out | refine below_set ?_ GE218.out | refine below_set ?_ GE225.out | refine below_set ?_ GE232.out | refine below_set ?_ GE239.out) | exact HB.out)⟩⟩
      · rw [if_neg c49] at H
        have c49b0 : (t217 == t224) = false := beq_eq_false_iff_ne.mpr c49
        have c49b1 : (t217 != t224) = true := bne_iff_ne.mpr c49
        (first | rw [c49b0] | (simp only [i64_w, i32_w]; rw [c49b0]) | skip)
        have H' := Aside0.mk H
        clear H
        go_wp2
        go_meet
        case rel => exact ⟨_, (true), (by first | rfl | (simp; done) | (simp [*]; done)), H', ⟨by first | omega | exact Nat.le_refl _⟩, ⟨by (with_reducible repeat (first | apply Kd.R_alloc | apply Kd.R_drewN | apply Kd.R_drew)); exact Kd.R_mono (Kd.R_far (p := ⟨gb239, 2, none⟩) (Kd.R_far (p := ⟨gb239, 1, none⟩) (Kd.R_far (p := ⟨gb239, 0, none⟩) (Kd.R_types HO216.out BK239.out (by decide)) (fun _ hk => hk.2) (.int .i64 t233)) (fun _ hk => hk.2) (.int .i64 t234)) (fun _ hk => hk.2) (.slice Ao48 t235.length co48)) (fun _ hk => ⟨hk.1.1.1.2, ⟨hk.1.1.2, hk.1.2⟩⟩)⟩, ⟨by (with_reducible repeat (first | apply Kd.R_alloc | apply Kd.R_drewN | apply Kd.R_drew)); exact Kd.R_mono (Kd.R_far (p := ⟨gb239, 2, none⟩) (Kd.R_far (p := ⟨gb239, 1, none⟩) (Kd.R_far (p := ⟨gb239, 0, none⟩) (Kd.R_types HO223.out BK239.out (by decide)) (fun _ hk => hk.2) (.int .i64 t233)) (fun _ hk => hk.2) (.int .i64 t234)) (fun _ hk => hk.2) (.slice Ao48 t235.length co48)) (fun _ hk => ⟨hk.1.1.1.2, ⟨hk.1.1.2, hk.1.2⟩⟩)⟩, ⟨by (with_reducible repeat (first | apply Kd.R_alloc | apply Kd.R_drewN | apply Kd.R_drew)); exact Kd.R_mono (Kd.R_far (p := ⟨gb239, 2, none⟩) (Kd.R_far (p := ⟨gb239, 1, none⟩) (Kd.R_far (p := ⟨gb239, 0, none⟩) (Kd.R_types HO230.out BK239.out (by decide)) (fun _ hk => hk.2) (.int .i64 t233)) (fun _ hk => hk.2) (.int .i64 t234)) (fun _ hk => hk.2) (.slice Ao48 t235.length co48)) (fun _ hk => ⟨hk.1.1.1.2, ⟨hk.1.1.2, hk.1.2⟩⟩)⟩, ⟨by (with_reducible repeat (first | apply Kd.R_alloc | apply Kd.R_drewN | apply Kd.R_drew)); exact Kd.R_mono (Kd.R_far (p := ⟨gb239, 2, none⟩) (Kd.R_far (p := ⟨gb239, 1, none⟩) (Kd.R_far (p := ⟨gb239, 0, none⟩) (Kd.R_types HO237.out BK239.out (by decide)) (fun _ hk => hk.2) (.int .i64 t233)) (fun _ hk => hk.2) (.int .i64 t234)) (fun _ hk => hk.2) (.slice Ao48 t235.length co48)) (fun _ hk => ⟨hk.1.1.1.2, ⟨hk.1.1.2, hk.1.2⟩⟩)⟩, ⟨by refine bF ?_ ?_; exact NB209_239.out; refine bF ?_ ?_; exact NB209_239.out; refine bF ?_ ?_; exact NB209_239.out; exact bU BK209.out⟩, ⟨by refine bF ?_ ?_; exact NB218_239.out; refine bF ?_ ?_; exact NB218_239.out; refine bF ?_ ?_; exact NB218_239.out; exact bU BK218.out⟩, ⟨by refine bF ?_ ?_; exact NB225_239.out; refine bF ?_ ?_; exact NB225_239.out; refine bF ?_ ?_; exact NB225_239.out; exact bU BK225.out⟩, ⟨by refine bF ?_ ?_; exact NB232_239.out; refine bF ?_ ?_; exact NB232_239.out; refine bF ?_ ?_; exact NB232_239.out; exact bU BK232.out⟩, ⟨by (with_reducible repeat (first | refine blk_drewN ?_ _ | refine blk_drew ?_ | refine blk_alloc ?_ _)); refine blk_put (cs := #[.int .i64 t233, .int .i64 t234, .slice none 0 0]) ?_ 2 _ rfl; (with_reducible repeat (first | refine blk_drewN ?_ _ | refine blk_drew ?_ | refine blk_alloc ?_ _)); refine blk_put (cs := #[.int .i64 t233, .int .i64 0, .slice none 0 0]) ?_ 1 _ rfl; (with_reducible repeat (first | refine blk_drewN ?_ _ | refine blk_drew ?_ | refine blk_alloc ?_ _)); refine blk_put (cs := #[.int .i64 0, .int .i64 0, .slice none 0 0]) ?_ 0 _ rfl; exact bU BK239.out⟩, ⟨by repeat (first | (with_reducible first | exact HB.out | apply below_alloc | apply pw_below_drewN | apply below_drew1 | refine below_set ?_ GE209.out | refine below_set ?_ GE218.out | refine below_set ?_ GE225.out | refine below_set ?_ GE232.out | refine below_set ?_ GE239.out) | exact HB.out)⟩⟩
    case rest =>
      clear HC15
      try clear c1
      try clear c2
      try clear p2
      try clear c3
      try clear c4
      try clear c5
      try clear c6
      try clear c7
      try clear c11
      try clear c12
      try clear c13
      try clear c14
      try clear c15
      try clear c16
      try clear c22
      try clear c28
      try clear c29
      try clear c35
      try clear c36
      try clear c37
      try clear c43
      try clear c44
      try clear c45
      try clear c46
      try clear c49
      try clear c49b0
      try clear c49b1
      try clear c50
      try clear c50b0
      try clear c50b1
      try clear c52
      try clear c54
      try clear c55
      try clear c56
      try clear c57
      try clear c59
      try clear c60
      try clear c61
      try clear c64
      try clear c65
      try clear c67
      try clear c70
      try clear c71
      try clear c72
      try clear c73
      try clear c75
      try clear c76
      try clear c77
      try clear hcz17_0
      try clear hcz17_1
      try clear hcz17_2
      try clear hcz19_0
      try clear hcz19_1
      try clear hcz19_2
      try clear hcz23_0
      try clear hcz23_1
      try clear hcz23_2
      try clear hcz25_0
      try clear hcz25_1
      try clear hcz25_2
      try clear hcz30_0
      try clear hcz30_1
      try clear hcz30_2
      try clear hcz32_0
      try clear hcz32_1
      try clear hcz32_2
      try clear hcz38_0
      try clear hcz38_1
      try clear hcz38_2
      try clear hcz40_0
      try clear hcz40_1
      try clear hcz40_2
      try clear hcz47_0
      try clear hcz47_1
      try clear hcz47_2
      try clear hcz58_0
      try clear hcz58_1
      try clear hcz58_2
      try clear hcz62_0
      try clear hcz62_1
      try clear hcz62_2
      try clear hcz66_0
      try clear hcz66_1
      try clear hcz66_2
      try clear hcz68_0
      try clear hcz68_1
      try clear hcz68_2
      try clear hcz74_0
      try clear hcz74_1
      try clear hcz74_2
      try clear hcz78_0
      try clear hcz78_1
      try clear hcz78_2
      try clear hcz8_0
      try clear hcz8_1
      try clear hcz8_2
      try clear hfz17_0
      try clear hfz17_1
      try clear hfz17_2
      try clear hfz19_0
      try clear hfz19_1
      try clear hfz19_2
      try clear hfz23_0
      try clear hfz23_1
      try clear hfz23_2
      try clear hfz25_0
      try clear hfz25_1
      try clear hfz25_2
      try clear hfz30_0
      try clear hfz30_1
      try clear hfz30_2
      try clear hfz32_0
      try clear hfz32_1
      try clear hfz32_2
      try clear hfz38_0
      try clear hfz38_1
      try clear hfz38_2
      try clear hfz40_0
      try clear hfz40_1
      try clear hfz40_2
      try clear hfz47_0
      try clear hfz47_1
      try clear hfz47_2
      try clear hfz58_0
      try clear hfz58_1
      try clear hfz58_2
      try clear hfz62_0
      try clear hfz62_1
      try clear hfz62_2
      try clear hfz66_0
      try clear hfz66_1
      try clear hfz66_2
      try clear hfz68_0
      try clear hfz68_1
      try clear hfz68_2
      try clear hfz74_0
      try clear hfz74_1
      try clear hfz74_2
      try clear hfz78_0
      try clear hfz78_1
      try clear hfz78_2
      try clear hfz8_0
      try clear hfz8_1
      try clear hfz8_2
      obtain ⟨kq, x63_14, rfl, HA, HJ14, HO_219002, HO_226002, HO_233002, HO_240002, BK209, BK218, BK225, BK232, BK239, HB⟩ := hcut
      cases kq with
      | zero => exact absurd HA.out (by simp [incunablelaw05_BitmapTurns.j0])
      | succ kj14 =>
        have H := HA.out
        clear HA
        simp only [incunablelaw05_BitmapTurns.j0] at H
        by_cases c80 : x63_14 = true
        · subst c80
          have H1 : (some false) = some r := by rw [if_pos rfl] at H; exact H
          clear H
          have H := H1
          clear H1
          exact absurd ((Option.some.inj H).trans HR_.out) (by decide)
        · replace c80 := Bool.eq_false_iff.mpr c80
          subst c80
          have H1 : (if t217 = 0 then ((bitmap_Turn.f kj14 t212 t213 t214 (Int.tmod a2 4)).bind fun bt243 => ((bitmap_Turn.f kj14 a0_0 a0_1 l0_2 (wrap64 ((Int.tmod a1 4) + (Int.tmod a2 4)))).bind fun bt250 => ((bitmap_Turn.f kj14 t212 t213 t214 (wrap64 (-(Int.tmod a1 4)))).bind fun bt257 => ((bitmap_Flip.f kj14 t226 t227 t228).bind fun bt264 => (if bt243.2.2.2 = 0 then (if bt250.2.2.2 = 0 then (if bt257.2.2.2 = 0 then (incunablelaw05_BitmapTurns.j1 kj14 (bt264.2.2.2 != 0) a0_0 a0_1 l0_2 t212 t213 t214 t226 t227 t228 bt243.1 bt243.2.1 bt243.2.2.1 bt250.1 bt250.2.1 bt250.2.2.1 bt257.1 bt257.2.1 bt257.2.2.1 bt264.1 bt264.2.1 bt264.2.2.1) else (incunablelaw05_BitmapTurns.j1 kj14 true a0_0 a0_1 l0_2 t212 t213 t214 t226 t227 t228 bt243.1 bt243.2.1 bt243.2.2.1 bt250.1 bt250.2.1 bt250.2.2.1 bt257.1 bt257.2.1 bt257.2.2.1 bt264.1 bt264.2.1 bt264.2.2.1)) else (incunablelaw05_BitmapTurns.j1 kj14 true a0_0 a0_1 l0_2 t212 t213 t214 t226 t227 t228 bt243.1 bt243.2.1 bt243.2.2.1 bt250.1 bt250.2.1 bt250.2.2.1 bt257.1 bt257.2.1 bt257.2.2.1 bt264.1 bt264.2.1 bt264.2.2.1)) else (incunablelaw05_BitmapTurns.j1 kj14 true a0_0 a0_1 l0_2 t212 t213 t214 t226 t227 t228 bt243.1 bt243.2.1 bt243.2.2.1 bt250.1 bt250.2.1 bt250.2.2.1 bt257.1 bt257.2.1 bt257.2.2.1 bt264.1 bt264.2.1 bt264.2.2.1)))))) else ((incunablelaw05_Sane.f kj14).bind fun t242 => (some t242))) = some r := by rw [if_neg (show ¬ (false = true) by decide)] at H; exact H
          clear H
          have H := H1
          clear H1
          by_cases c81 : t217 = 0
          · rw [if_pos c81] at H
            have c81b0 : (t217 == 0) = true := beq_iff_eq.mpr c81
            have c81b1 : (t217 != 0) = false := bne_eq_false_iff_eq.mpr c81
            clear c81
            replace H := Option.bind_eq_some_iff.mp H
            obtain ⟨⟨t243, t244, t245, t248⟩, A820, H⟩ := H
            replace H : ((bitmap_Turn.f kj14 a0_0 a0_1 l0_2 (wrap64 ((Int.tmod a1 4) + (Int.tmod a2 4)))).bind fun bt250 => ((bitmap_Turn.f kj14 t212 t213 t214 (wrap64 (-(Int.tmod a1 4)))).bind fun bt257 => ((bitmap_Flip.f kj14 t226 t227 t228).bind fun bt264 => (if t248 = 0 then (if bt250.2.2.2 = 0 then (if bt257.2.2.2 = 0 then (incunablelaw05_BitmapTurns.j1 kj14 (bt264.2.2.2 != 0) a0_0 a0_1 l0_2 t212 t213 t214 t226 t227 t228 t243 t244 t245 bt250.1 bt250.2.1 bt250.2.2.1 bt257.1 bt257.2.1 bt257.2.2.1 bt264.1 bt264.2.1 bt264.2.2.1) else (incunablelaw05_BitmapTurns.j1 kj14 true a0_0 a0_1 l0_2 t212 t213 t214 t226 t227 t228 t243 t244 t245 bt250.1 bt250.2.1 bt250.2.2.1 bt257.1 bt257.2.1 bt257.2.2.1 bt264.1 bt264.2.1 bt264.2.2.1)) else (incunablelaw05_BitmapTurns.j1 kj14 true a0_0 a0_1 l0_2 t212 t213 t214 t226 t227 t228 t243 t244 t245 bt250.1 bt250.2.1 bt250.2.2.1 bt257.1 bt257.2.1 bt257.2.2.1 bt264.1 bt264.2.1 bt264.2.2.1)) else (incunablelaw05_BitmapTurns.j1 kj14 true a0_0 a0_1 l0_2 t212 t213 t214 t226 t227 t228 t243 t244 t245 bt250.1 bt250.2.1 bt250.2.2.1 bt257.1 bt257.2.1 bt257.2.2.1 bt264.1 bt264.2.1 bt264.2.2.1))))) = some r := H
            have A82 := Aside0.mk A820
            clear A820
            replace H := Option.bind_eq_some_iff.mp H
            obtain ⟨⟨t250, t251, t252, t255⟩, A830, H⟩ := H
            replace H : ((bitmap_Turn.f kj14 t212 t213 t214 (wrap64 (-(Int.tmod a1 4)))).bind fun bt257 => ((bitmap_Flip.f kj14 t226 t227 t228).bind fun bt264 => (if t248 = 0 then (if t255 = 0 then (if bt257.2.2.2 = 0 then (incunablelaw05_BitmapTurns.j1 kj14 (bt264.2.2.2 != 0) a0_0 a0_1 l0_2 t212 t213 t214 t226 t227 t228 t243 t244 t245 t250 t251 t252 bt257.1 bt257.2.1 bt257.2.2.1 bt264.1 bt264.2.1 bt264.2.2.1) else (incunablelaw05_BitmapTurns.j1 kj14 true a0_0 a0_1 l0_2 t212 t213 t214 t226 t227 t228 t243 t244 t245 t250 t251 t252 bt257.1 bt257.2.1 bt257.2.2.1 bt264.1 bt264.2.1 bt264.2.2.1)) else (incunablelaw05_BitmapTurns.j1 kj14 true a0_0 a0_1 l0_2 t212 t213 t214 t226 t227 t228 t243 t244 t245 t250 t251 t252 bt257.1 bt257.2.1 bt257.2.2.1 bt264.1 bt264.2.1 bt264.2.2.1)) else (incunablelaw05_BitmapTurns.j1 kj14 true a0_0 a0_1 l0_2 t212 t213 t214 t226 t227 t228 t243 t244 t245 t250 t251 t252 bt257.1 bt257.2.1 bt257.2.2.1 bt264.1 bt264.2.1 bt264.2.2.1)))) = some r := H
            have A83 := Aside0.mk A830
            clear A830
            replace H := Option.bind_eq_some_iff.mp H
            obtain ⟨⟨t257, t258, t259, t262⟩, A840, H⟩ := H
            replace H : ((bitmap_Flip.f kj14 t226 t227 t228).bind fun bt264 => (if t248 = 0 then (if t255 = 0 then (if t262 = 0 then (incunablelaw05_BitmapTurns.j1 kj14 (bt264.2.2.2 != 0) a0_0 a0_1 l0_2 t212 t213 t214 t226 t227 t228 t243 t244 t245 t250 t251 t252 t257 t258 t259 bt264.1 bt264.2.1 bt264.2.2.1) else (incunablelaw05_BitmapTurns.j1 kj14 true a0_0 a0_1 l0_2 t212 t213 t214 t226 t227 t228 t243 t244 t245 t250 t251 t252 t257 t258 t259 bt264.1 bt264.2.1 bt264.2.2.1)) else (incunablelaw05_BitmapTurns.j1 kj14 true a0_0 a0_1 l0_2 t212 t213 t214 t226 t227 t228 t243 t244 t245 t250 t251 t252 t257 t258 t259 bt264.1 bt264.2.1 bt264.2.2.1)) else (incunablelaw05_BitmapTurns.j1 kj14 true a0_0 a0_1 l0_2 t212 t213 t214 t226 t227 t228 t243 t244 t245 t250 t251 t252 t257 t258 t259 bt264.1 bt264.2.1 bt264.2.2.1))) = some r := H
            have A84 := Aside0.mk A840
            clear A840
            replace H := Option.bind_eq_some_iff.mp H
            obtain ⟨⟨t264, t265, t266, t269⟩, A850, H⟩ := H
            replace H : (if t248 = 0 then (if t255 = 0 then (if t262 = 0 then (incunablelaw05_BitmapTurns.j1 kj14 (t269 != 0) a0_0 a0_1 l0_2 t212 t213 t214 t226 t227 t228 t243 t244 t245 t250 t251 t252 t257 t258 t259 t264 t265 t266) else (incunablelaw05_BitmapTurns.j1 kj14 true a0_0 a0_1 l0_2 t212 t213 t214 t226 t227 t228 t243 t244 t245 t250 t251 t252 t257 t258 t259 t264 t265 t266)) else (incunablelaw05_BitmapTurns.j1 kj14 true a0_0 a0_1 l0_2 t212 t213 t214 t226 t227 t228 t243 t244 t245 t250 t251 t252 t257 t258 t259 t264 t265 t266)) else (incunablelaw05_BitmapTurns.j1 kj14 true a0_0 a0_1 l0_2 t212 t213 t214 t226 t227 t228 t243 t244 t245 t250 t251 t252 t257 t258 t259 t264 t265 t266)) = some r := H
            have A85 := Aside0.mk A850
            clear A850
            have HC86 := Aside0.mk H
            clear H
            have hnb87 := NB218_209.out
            have hnc87 := NB209_218.out
            have hnb88 := NB218_225.out
            have hnc88 := NB225_218.out
            have hnb89 := NB218_232.out
            have hnc89 := NB232_218.out
            have hnb90 := NB218_239.out
            have hnc90 := NB239_218.out
            have hcz91_0 : wc.cell? ⟨gb218, 0, none⟩ = some (.int .i64 t212) := (blk_cell BK218.out 0).trans rfl
            have hcz91_1 : wc.cell? ⟨gb218, 1, none⟩ = some (.int .i64 t213) := (blk_cell BK218.out 1).trans rfl
            have hcz91_2 : wc.cell? ⟨gb218, 2, none⟩ = some (.slice Ao24 t214.length co24) := (blk_cell BK218.out 2).trans rfl
            have hfz91_0 := blk_frozen BK218.out 0
            have hfz91_1 := blk_frozen BK218.out 1
            have hfz91_2 := blk_frozen BK218.out 2
            go_upto_region 16 with (first | ((with_reducible refine gate_callee (f := 13) rfl ?_); refine goesL_ (some 74) rfl rfl Try.func13 (by kernel_rfl) rfl #[.agg #[.int .i64 t212, .int .i64 t213, .slice Ao24 t214.length co24], .int .i64 (Int.tmod a2 4)] rfl (by (try simp only [List.map_toArray, List.map_cons, List.map_nil]); first | done | rfl | (simp only [List.length_drop, List.length_take]; rfl)) ?_; (with_reducible refine (bitmap_Turn.calls kj14 t212 t213 _ _ t214 (Int.tmod a2 4) t243 t244 t245 t248 _ ?side1 ?side2 A82.out).mono ?_); (case side1 => repeat (first | exact (Kd.R_reads' HO_219002.out).2.2 | (with_reducible refine Kd.C_alloc ?_ _) | (with_reducible refine Kd.C_drewN ?_ _) | (with_reducible refine Kd.C_drew ?_))); (case side2 => exact (Kd.R_reads' HO_219002.out).2.1); rintro e w92 ⟨v246, rfl, ho0, hb⟩; refine ⟨_, rfl, ?_⟩; have n0_ := Aside0.mk (Kd.R_elder' (rU HO_219002.out) (Kd.R_base ho0) hb); have n1_ := Aside0.mk (Kd.R_elder' (rU HO_226002.out) (Kd.R_base ho0) hb); have n2_ := Aside0.mk (Kd.R_elder' (rU HO_233002.out) (Kd.R_base ho0) hb); have n3_ := Aside0.mk (Kd.R_elder' (rU HO_240002.out) (Kd.R_base ho0) hb); have n4_ := Aside0.mk (Kd.R_lower (Kd.R_new' (Kd.R_new' (Kd.R_new' (Kd.R_new' ho0 (Kd.R_lt (rU HO_219002.out))) (Kd.R_lt (rU HO_226002.out))) (Kd.R_lt (rU HO_233002.out))) (Kd.R_lt (rU HO_240002.out))) (below_size (by repeat (first | (with_reducible first | exact HB.out | apply below_alloc | apply pw_below_drewN | apply below_drew1 | refine below_set ?_ GE209.out | refine below_set ?_ GE218.out | refine below_set ?_ GE225.out | refine below_set ?_ GE232.out | refine below_set ?_ GE239.out) | exact HB.out)))); have n5_ := Aside0.mk (blk_below (bU BK209.out) hb); have n6_ := Aside0.mk (blk_below (bU BK218.out) hb); have n7_ := Aside0.mk (blk_below (bU BK225.out) hb); have n8_ := Aside0.mk (blk_below (bU BK232.out) hb); have n9_ := Aside0.mk (blk_below (bU BK239.out) hb); have n10_ := Aside0.mk (below_step (by repeat (first | (with_reducible first | exact HB.out | apply below_alloc | apply pw_below_drewN | apply below_drew1 | refine below_set ?_ GE209.out | refine below_set ?_ GE218.out | refine below_set ?_ GE225.out | refine below_set ?_ GE232.out | refine below_set ?_ GE239.out) | exact HB.out)) hb); clear HO_219002; clear HO_226002; clear HO_233002; clear HO_240002; clear BK209; clear BK218; clear BK225; clear BK232; clear BK239; clear HB; have HO_219002 := n0_; have HO_226002 := n1_; have HO_233002 := n2_; have HO_240002 := n3_; have HO247 := n4_; have BK209 := n5_; have BK218 := n6_; have BK225 := n7_; have BK232 := n8_; have BK239 := n9_; have HB := n10_; clear n0_ n1_ n2_ n3_ n4_ n5_ n6_ n7_ n8_ n9_ n10_; (try clear hb); (try clear hb2); (try clear hk); (try clear hi); (try clear ho0)) | ((with_reducible refine gate_dst (N := 15) rfl ?_); refine box_event ?hg (N := 15) ?hd (cs := #[.int .i64 0, .int .i64 0, .slice none 0 0]) (t := 24) ?hr ?_; (case hd => rfl); (case hg => rfl); (case hr => first | (go_simp; done) | (go_simp; rfl)); intro gb249 hg w93 hbox hb; have n0_ := Aside0.mk (Kd.R_below (rU HO_219002.out) hb); have n1_ := Aside0.mk (Kd.R_below (rU HO_226002.out) hb); have n2_ := Aside0.mk (Kd.R_below (rU HO_233002.out) hb); have n3_ := Aside0.mk (Kd.R_below (rU HO_240002.out) hb); have n4_ := Aside0.mk (Kd.R_below (rU HO247.out) hb); have n5_ := Aside0.mk (blk_below (bU BK209.out) hb); have n6_ := Aside0.mk (blk_below (bU BK218.out) hb); have n7_ := Aside0.mk (blk_below (bU BK225.out) hb); have n8_ := Aside0.mk (blk_below (bU BK232.out) hb); have n9_ := Aside0.mk (blk_below (bU BK239.out) hb); have n10_ := Aside0.mk (below_step (by repeat (first | (with_reducible first | exact HB.out | apply below_alloc | apply pw_below_drewN | apply below_drew1 | refine below_set ?_ GE209.out | refine below_set ?_ GE218.out | refine below_set ?_ GE225.out | refine below_set ?_ GE232.out | refine below_set ?_ GE239.out) | exact HB.out)) hb); have n11_ := Aside0.mk (hbox); have n12_ := Aside0.mk ((by rw [hg]; exact (below_size (by repeat (first | (with_reducible first | exact HB.out | apply below_alloc | apply pw_below_drewN | apply below_drew1 | refine below_set ?_ GE209.out | refine below_set ?_ GE218.out | refine below_set ?_ GE225.out | refine below_set ?_ GE232.out | refine below_set ?_ GE239.out) | exact HB.out))) : w.heap.size ≤ gb249)); have n13_ := Aside0.mk ((by rw [hg]; exact (below_size (by repeat (first | (with_reducible first | exact HB.out | apply below_alloc | apply pw_below_drewN | apply below_drew1 | refine below_set ?_ GE209.out | refine below_set ?_ GE218.out | refine below_set ?_ GE225.out | refine below_set ?_ GE232.out | refine below_set ?_ GE239.out) | exact HB.out))) : w.heap.size ≤ gb249)); have n14_ := Aside0.mk ((by rw [hg]; exact Nat.ne_of_lt (blk_lt (bU BK209.out)) : gb209 ≠ gb249)); have n15_ := Aside0.mk ((by rw [hg]; exact Nat.ne_of_gt (blk_lt (bU BK209.out)) : gb249 ≠ gb209)); have n16_ := Aside0.mk ((by rw [hg]; exact Nat.ne_of_lt (blk_lt (bU BK218.out)) : gb218 ≠ gb249)); have n17_ := Aside0.mk ((by rw [hg]; exact Nat.ne_of_gt (blk_lt (bU BK218.out)) : gb249 ≠ gb218)); have n18_ := Aside0.mk ((by rw [hg]; exact Nat.ne_of_lt (blk_lt (bU BK225.out)) : gb225 ≠ gb249)); have n19_ := Aside0.mk ((by rw [hg]; exact Nat.ne_of_gt (blk_lt (bU BK225.out)) : gb249 ≠ gb225)); have n20_ := Aside0.mk ((by rw [hg]; exact Nat.ne_of_lt (blk_lt (bU BK232.out)) : gb232 ≠ gb249)); have n21_ := Aside0.mk ((by rw [hg]; exact Nat.ne_of_gt (blk_lt (bU BK232.out)) : gb249 ≠ gb232)); have n22_ := Aside0.mk ((by rw [hg]; exact Nat.ne_of_lt (blk_lt (bU BK239.out)) : gb239 ≠ gb249)); have n23_ := Aside0.mk ((by rw [hg]; exact Nat.ne_of_gt (blk_lt (bU BK239.out)) : gb249 ≠ gb239)); clear HO_219002; clear HO_226002; clear HO_233002; clear HO_240002; clear HO247; clear BK209; clear BK218; clear BK225; clear BK232; clear BK239; clear HB; have HO_219002 := n0_; have HO_226002 := n1_; have HO_233002 := n2_; have HO_240002 := n3_; have HO247 := n4_; have BK209 := n5_; have BK218 := n6_; have BK225 := n7_; have BK232 := n8_; have BK239 := n9_; have HB := n10_; have BK249 := n11_; have GW249 := n12_; have GE249 := n13_; have NB209_249 := n14_; have NB249_209 := n15_; have NB218_249 := n16_; have NB249_218 := n17_; have NB225_249 := n18_; have NB249_225 := n19_; have NB232_249 := n20_; have NB249_232 := n21_; have NB239_249 := n22_; have NB249_239 := n23_; clear n0_ n1_ n2_ n3_ n4_ n5_ n6_ n7_ n8_ n9_ n10_ n11_ n12_ n13_ n14_ n15_ n16_ n17_ n18_ n19_ n20_ n21_ n22_ n23_; clear hb hbox hg; have hnb94 := NB249_209.out; have hnc94 := NB209_249.out; have hnb95 := NB249_218.out; have hnc95 := NB218_249.out; have hnb96 := NB249_225.out; have hnc96 := NB225_249.out; have hnb97 := NB249_232.out; have hnc97 := NB232_249.out; have hnb98 := NB249_239.out; have hnc98 := NB239_249.out; have hcz99_0 : w93.cell? ⟨gb249, 0, none⟩ = some (.int .i64 0) := (blk_cell BK249.out 0).trans rfl; have hcz99_1 : w93.cell? ⟨gb249, 1, none⟩ = some (.int .i64 0) := (blk_cell BK249.out 1).trans rfl; have hcz99_2 : w93.cell? ⟨gb249, 2, none⟩ = some (.slice none 0 0) := (blk_cell BK249.out 2).trans rfl; have hfz99_0 := blk_frozen BK249.out 0; have hfz99_1 := blk_frozen BK249.out 1; have hfz99_2 := blk_frozen BK249.out 2; obtain ⟨Ao100, co100, eo100⟩ := Kd.R_slice HO247.out; subst eo100; have hnb101 := NB209_225.out; have hnc101 := NB225_209.out; have hnb102 := NB209_232.out; have hnc102 := NB232_209.out; have hnb103 := NB209_239.out; have hnc103 := NB239_209.out; have hcz104_0 : w93.cell? ⟨gb209, 0, none⟩ = some (.int .i64 a0_0) := (blk_cell BK209.out 0).trans rfl; have hcz104_1 : w93.cell? ⟨gb209, 1, none⟩ = some (.int .i64 a0_1) := (blk_cell BK209.out 1).trans rfl; have hcz104_2 : w93.cell? ⟨gb209, 2, none⟩ = some (.slice A0_2 l0_2.length c0_2) := (blk_cell BK209.out 2).trans rfl; have hfz104_0 := blk_frozen BK209.out 0; have hfz104_1 := blk_frozen BK209.out 1; have hfz104_2 := blk_frozen BK209.out 2) | ((with_reducible refine gate_callee (f := 13) rfl ?_); refine goesL_ (some 82) rfl rfl Try.func13 (by kernel_rfl) rfl #[.agg #[.int .i64 a0_0, .int .i64 a0_1, .slice A0_2 l0_2.length c0_2], .int .i64 (wrap64 ((Int.tmod a1 4) + (Int.tmod a2 4)))] rfl (by (try simp only [List.map_toArray, List.map_cons, List.map_nil]); first | done | rfl | (simp only [List.length_drop, List.length_take]; rfl)) ?_; (with_reducible refine (bitmap_Turn.calls kj14 a0_0 a0_1 _ _ l0_2 (wrap64 ((Int.tmod a1 4) + (Int.tmod a2 4))) t250 t251 t252 t255 _ ?side1 ?side2 A83.out).mono ?_); (case side1 => exact Kd.C_below HR0_2.out (by repeat (first | (with_reducible first | exact HB.out | apply below_alloc | apply pw_below_drewN | apply below_drew1 | refine below_set ?_ GE209.out | refine below_set ?_ GE218.out | refine below_set ?_ GE225.out | refine below_set ?_ GE232.out | refine below_set ?_ GE239.out | refine below_set ?_ GE249.out) | exact HB.out))); (case side2 => exact HC0_2.out); rintro e w105 ⟨v253, rfl, ho0, hb⟩; refine ⟨_, rfl, ?_⟩; have n0_ := Aside0.mk (Kd.R_elder' (by (with_reducible repeat (first | apply Kd.R_alloc | apply Kd.R_drewN | apply Kd.R_drew)); exact (Kd.R_mono (Kd.R_far (p := ⟨gb249, 2, none⟩) (Kd.R_far (p := ⟨gb249, 1, none⟩) (Kd.R_far (p := ⟨gb249, 0, none⟩) (Kd.R_types HO_219002.out BK249.out (by decide)) (fun _ hk => hk.2) (.int .i64 t243)) (fun _ hk => hk.2) (.int .i64 t244)) (fun _ hk => hk.2) (.slice Ao100 t245.length co100)) (fun _ h_ => h_.1))) (Kd.R_base ho0) hb); have n1_ := Aside0.mk (Kd.R_elder' (by (with_reducible repeat (first | apply Kd.R_alloc | apply Kd.R_drewN | apply Kd.R_drew)); exact (Kd.R_mono (Kd.R_far (p := ⟨gb249, 2, none⟩) (Kd.R_far (p := ⟨gb249, 1, none⟩) (Kd.R_far (p := ⟨gb249, 0, none⟩) (Kd.R_types HO_226002.out BK249.out (by decide)) (fun _ hk => hk.2) (.int .i64 t243)) (fun _ hk => hk.2) (.int .i64 t244)) (fun _ hk => hk.2) (.slice Ao100 t245.length co100)) (fun _ h_ => h_.1))) (Kd.R_base ho0) hb); have n2_ := Aside0.mk (Kd.R_elder' (by (with_reducible repeat (first | apply Kd.R_alloc | apply Kd.R_drewN | apply Kd.R_drew)); exact (Kd.R_mono (Kd.R_far (p := ⟨gb249, 2, none⟩) (Kd.R_far (p := ⟨gb249, 1, none⟩) (Kd.R_far (p := ⟨gb249, 0, none⟩) (Kd.R_types HO_233002.out BK249.out (by decide)) (fun _ hk => hk.2) (.int .i64 t243)) (fun _ hk => hk.2) (.int .i64 t244)) (fun _ hk => hk.2) (.slice Ao100 t245.length co100)) (fun _ h_ => h_.1))) (Kd.R_base ho0) hb); have n3_ := Aside0.mk (Kd.R_elder' (by (with_reducible repeat (first | apply Kd.R_alloc | apply Kd.R_drewN | apply Kd.R_drew)); exact (Kd.R_mono (Kd.R_far (p := ⟨gb249, 2, none⟩) (Kd.R_far (p := ⟨gb249, 1, none⟩) (Kd.R_far (p := ⟨gb249, 0, none⟩) (Kd.R_types HO_240002.out BK249.out (by decide)) (fun _ hk => hk.2) (.int .i64 t243)) (fun _ hk => hk.2) (.int .i64 t244)) (fun _ hk => hk.2) (.slice Ao100 t245.length co100)) (fun _ h_ => h_.1))) (Kd.R_base ho0) hb); have n4_ := Aside0.mk (Kd.R_elder' (by (with_reducible repeat (first | apply Kd.R_alloc | apply Kd.R_drewN | apply Kd.R_drew)); exact (Kd.R_mono (Kd.R_far (p := ⟨gb249, 2, none⟩) (Kd.R_far (p := ⟨gb249, 1, none⟩) (Kd.R_far (p := ⟨gb249, 0, none⟩) (Kd.R_types HO247.out BK249.out (by decide)) (fun _ hk => hk.2) (.int .i64 t243)) (fun _ hk => hk.2) (.int .i64 t244)) (fun _ hk => hk.2) (.slice Ao100 t245.length co100)) (fun _ h_ => h_.1))) (Kd.R_base ho0) hb); have n5_ := Aside0.mk (Kd.R_lower (Kd.R_new' (Kd.R_new' (Kd.R_new' (Kd.R_new' (Kd.R_new' ho0 (Kd.R_lt (by (with_reducible repeat (first | apply Kd.R_alloc | apply Kd.R_drewN | apply Kd.R_drew)); exact (Kd.R_mono (Kd.R_far (p := ⟨gb249, 2, none⟩) (Kd.R_far (p := ⟨gb249, 1, none⟩) (Kd.R_far (p := ⟨gb249, 0, none⟩) (Kd.R_types HO_219002.out BK249.out (by decide)) (fun _ hk => hk.2) (.int .i64 t243)) (fun _ hk => hk.2) (.int .i64 t244)) (fun _ hk => hk.2) (.slice Ao100 t245.length co100)) (fun _ h_ => h_.1))))) (Kd.R_lt (by (with_reducible repeat (first | apply Kd.R_alloc | apply Kd.R_drewN | apply Kd.R_drew)); exact (Kd.R_mono (Kd.R_far (p := ⟨gb249, 2, none⟩) (Kd.R_far (p := ⟨gb249, 1, none⟩) (Kd.R_far (p := ⟨gb249, 0, none⟩) (Kd.R_types HO_226002.out BK249.out (by decide)) (fun _ hk => hk.2) (.int .i64 t243)) (fun _ hk => hk.2) (.int .i64 t244)) (fun _ hk => hk.2) (.slice Ao100 t245.length co100)) (fun _ h_ => h_.1))))) (Kd.R_lt (by (with_reducible repeat (first | apply Kd.R_alloc | apply Kd.R_drewN | apply Kd.R_drew)); exact (Kd.R_mono (Kd.R_far (p := ⟨gb249, 2, none⟩) (Kd.R_far (p := ⟨gb249, 1, none⟩) (Kd.R_far (p := ⟨gb249, 0, none⟩) (Kd.R_types HO_233002.out BK249.out (by decide)) (fun _ hk => hk.2) (.int .i64 t243)) (fun _ hk => hk.2) (.int .i64 t244)) (fun _ hk => hk.2) (.slice Ao100 t245.length co100)) (fun _ h_ => h_.1))))) (Kd.R_lt (by (with_reducible repeat (first | apply Kd.R_alloc | apply Kd.R_drewN | apply Kd.R_drew)); exact (Kd.R_mono (Kd.R_far (p := ⟨gb249, 2, none⟩) (Kd.R_far (p := ⟨gb249, 1, none⟩) (Kd.R_far (p := ⟨gb249, 0, none⟩) (Kd.R_types HO_240002.out BK249.out (by decide)) (fun _ hk => hk.2) (.int .i64 t243)) (fun _ hk => hk.2) (.int .i64 t244)) (fun _ hk => hk.2) (.slice Ao100 t245.length co100)) (fun _ h_ => h_.1))))) (Kd.R_lt (by (with_reducible repeat (first | apply Kd.R_alloc | apply Kd.R_drewN | apply Kd.R_drew)); exact (Kd.R_mono (Kd.R_far (p := ⟨gb249, 2, none⟩) (Kd.R_far (p := ⟨gb249, 1, none⟩) (Kd.R_far (p := ⟨gb249, 0, none⟩) (Kd.R_types HO247.out BK249.out (by decide)) (fun _ hk => hk.2) (.int .i64 t243)) (fun _ hk => hk.2) (.int .i64 t244)) (fun _ hk => hk.2) (.slice Ao100 t245.length co100)) (fun _ h_ => h_.1))))) (below_size (by repeat (first | (with_reducible first | exact HB.out | apply below_alloc | apply pw_below_drewN | apply below_drew1 | refine below_set ?_ GE209.out | refine below_set ?_ GE218.out | refine below_set ?_ GE225.out | refine below_set ?_ GE232.out | refine below_set ?_ GE239.out | refine below_set ?_ GE249.out) | exact HB.out)))); have n6_ := Aside0.mk (blk_below (g := gb209) (o := .cells #[.int .i64 a0_0, .int .i64 a0_1, .slice A0_2 l0_2.length c0_2] 24 (0, 0)) (by refine bF ?_ ?_; exact NB209_249.out; refine bF ?_ ?_; exact NB209_249.out; refine bF ?_ ?_; exact NB209_249.out; exact bU BK209.out) hb); have n7_ := Aside0.mk (blk_below (g := gb218) (o := .cells #[.int .i64 t212, .int .i64 t213, .slice Ao24 t214.length co24] 24 (0, 0)) (by refine bF ?_ ?_; exact NB218_249.out; refine bF ?_ ?_; exact NB218_249.out; refine bF ?_ ?_; exact NB218_249.out; exact bU BK218.out) hb); have n8_ := Aside0.mk (blk_below (g := gb225) (o := .cells #[.int .i64 t219, .int .i64 t220, .slice Ao31 t221.length co31] 24 (0, 0)) (by refine bF ?_ ?_; exact NB225_249.out; refine bF ?_ ?_; exact NB225_249.out; refine bF ?_ ?_; exact NB225_249.out; exact bU BK225.out) hb); have n9_ := Aside0.mk (blk_below (g := gb232) (o := .cells #[.int .i64 t226, .int .i64 t227, .slice Ao39 t228.length co39] 24 (0, 0)) (by refine bF ?_ ?_; exact NB232_249.out; refine bF ?_ ?_; exact NB232_249.out; refine bF ?_ ?_; exact NB232_249.out; exact bU BK232.out) hb); have n10_ := Aside0.mk (blk_below (g := gb239) (o := .cells #[.int .i64 t233, .int .i64 t234, .slice Ao48 t235.length co48] 24 (0, 0)) (by refine bF ?_ ?_; exact NB239_249.out; refine bF ?_ ?_; exact NB239_249.out; refine bF ?_ ?_; exact NB239_249.out; exact bU BK239.out) hb); have n11_ := Aside0.mk (blk_below (g := gb249) (o := .cells #[.int .i64 t243, .int .i64 t244, .slice Ao100 t245.length co100] 24 (0, 0)) (by (with_reducible repeat (first | refine blk_drewN ?_ _ | refine blk_drew ?_ | refine blk_alloc ?_ _)); refine blk_put (cs := #[.int .i64 t243, .int .i64 t244, .slice none 0 0]) ?_ 2 _ rfl; (with_reducible repeat (first | refine blk_drewN ?_ _ | refine blk_drew ?_ | refine blk_alloc ?_ _)); refine blk_put (cs := #[.int .i64 t243, .int .i64 0, .slice none 0 0]) ?_ 1 _ rfl; (with_reducible repeat (first | refine blk_drewN ?_ _ | refine blk_drew ?_ | refine blk_alloc ?_ _)); refine blk_put (cs := #[.int .i64 0, .int .i64 0, .slice none 0 0]) ?_ 0 _ rfl; exact bU BK249.out) hb); have n12_ := Aside0.mk (below_step (by repeat (first | (with_reducible first | exact HB.out | apply below_alloc | apply pw_below_drewN | apply below_drew1 | refine below_set ?_ GE209.out | refine below_set ?_ GE218.out | refine below_set ?_ GE225.out | refine below_set ?_ GE232.out | refine below_set ?_ GE239.out | refine below_set ?_ GE249.out) | exact HB.out)) hb); clear HO_219002; clear HO_226002; clear HO_233002; clear HO_240002; clear HO247; clear BK209; clear BK218; clear BK225; clear BK232; clear BK239; clear BK249; clear HB; have HO_219002 := n0_; have HO_226002 := n1_; have HO_233002 := n2_; have HO_240002 := n3_; have HO247 := n4_; have HO254 := n5_; have BK209 := n6_; have BK218 := n7_; have BK225 := n8_; have BK232 := n9_; have BK239 := n10_; have BK249 := n11_; have HB := n12_; clear n0_ n1_ n2_ n3_ n4_ n5_ n6_ n7_ n8_ n9_ n10_ n11_ n12_; (try clear hb); (try clear hb2); (try clear hk); (try clear hi); (try clear ho0)) | ((with_reducible refine gate_dst (N := 16) rfl ?_); refine box_event ?hg (N := 16) ?hd (cs := #[.int .i64 0, .int .i64 0, .slice none 0 0]) (t := 24) ?hr ?_; (case hd => rfl); (case hg => rfl); (case hr => first | (go_simp; done) | (go_simp; rfl)); intro gb256 hg w106 hbox hb; have n0_ := Aside0.mk (Kd.R_below (rU HO_219002.out) hb); have n1_ := Aside0.mk (Kd.R_below (rU HO_226002.out) hb); have n2_ := Aside0.mk (Kd.R_below (rU HO_233002.out) hb); have n3_ := Aside0.mk (Kd.R_below (rU HO_240002.out) hb); have n4_ := Aside0.mk (Kd.R_below (rU HO247.out) hb); have n5_ := Aside0.mk (Kd.R_below (rU HO254.out) hb); have n6_ := Aside0.mk (blk_below (bU BK209.out) hb); have n7_ := Aside0.mk (blk_below (bU BK218.out) hb); have n8_ := Aside0.mk (blk_below (bU BK225.out) hb); have n9_ := Aside0.mk (blk_below (bU BK232.out) hb); have n10_ := Aside0.mk (blk_below (bU BK239.out) hb); have n11_ := Aside0.mk (blk_below (bU BK249.out) hb); have n12_ := Aside0.mk (below_step (by repeat (first | (with_reducible first | exact HB.out | apply below_alloc | apply pw_below_drewN | apply below_drew1 | refine below_set ?_ GE209.out | refine below_set ?_ GE218.out | refine below_set ?_ GE225.out | refine below_set ?_ GE232.out | refine below_set ?_ GE239.out | refine below_set ?_ GE249.out) | exact HB.out)) hb); have n13_ := Aside0.mk (hbox); have n14_ := Aside0.mk ((by rw [hg]; exact (below_size (by repeat (first | (with_reducible first | exact HB.out | apply below_alloc | apply pw_below_drewN | apply below_drew1 | refine below_set ?_ GE209.out | refine below_set ?_ GE218.out | refine below_set ?_ GE225.out | refine below_set ?_ GE232.out | refine below_set ?_ GE239.out | refine below_set ?_ GE249.out) | exact HB.out))) : w.heap.size ≤ gb256)); have n15_ := Aside0.mk ((by rw [hg]; exact (below_size (by repeat (first | (with_reducible first | exact HB.out | apply below_alloc | apply pw_below_drewN | apply below_drew1 | refine below_set ?_ GE209.out | refine below_set ?_ GE218.out | refine below_set ?_ GE225.out | refine below_set ?_ GE232.out | refine below_set ?_ GE239.out | refine below_set ?_ GE249.out) | exact HB.out))) : w.heap.size ≤ gb256)); have n16_ := Aside0.mk ((by rw [hg]; exact Nat.ne_of_lt (blk_lt (bU BK209.out)) : gb209 ≠ gb256)); have n17_ := Aside0.mk ((by rw [hg]; exact Nat.ne_of_gt (blk_lt (bU BK209.out)) : gb256 ≠ gb209)); have n18_ := Aside0.mk ((by rw [hg]; exact Nat.ne_of_lt (blk_lt (bU BK218.out)) : gb218 ≠ gb256)); have n19_ := Aside0.mk ((by rw [hg]; exact Nat.ne_of_gt (blk_lt (bU BK218.out)) : gb256 ≠ gb218)); have n20_ := Aside0.mk ((by rw [hg]; exact Nat.ne_of_lt (blk_lt (bU BK225.out)) : gb225 ≠ gb256)); have n21_ := Aside0.mk ((by rw [hg]; exact Nat.ne_of_gt (blk_lt (bU BK225.out)) : gb256 ≠ gb225)); have n22_ := Aside0.mk ((by rw [hg]; exact Nat.ne_of_lt (blk_lt (bU BK232.out)) : gb232 ≠ gb256)); have n23_ := Aside0.mk ((by rw [hg]; exact Nat.ne_of_gt (blk_lt (bU BK232.out)) : gb256 ≠ gb232)); have n24_ := Aside0.mk ((by rw [hg]; exact Nat.ne_of_lt (blk_lt (bU BK239.out)) : gb239 ≠ gb256)); have n25_ := Aside0.mk ((by rw [hg]; exact Nat.ne_of_gt (blk_lt (bU BK239.out)) : gb256 ≠ gb239)); have n26_ := Aside0.mk ((by rw [hg]; exact Nat.ne_of_lt (blk_lt (bU BK249.out)) : gb249 ≠ gb256)); have n27_ := Aside0.mk ((by rw [hg]; exact Nat.ne_of_gt (blk_lt (bU BK249.out)) : gb256 ≠ gb249)); clear HO_219002; clear HO_226002; clear HO_233002; clear HO_240002; clear HO247; clear HO254; clear BK209; clear BK218; clear BK225; clear BK232; clear BK239; clear BK249; clear HB; have HO_219002 := n0_; have HO_226002 := n1_; have HO_233002 := n2_; have HO_240002 := n3_; have HO247 := n4_; have HO254 := n5_; have BK209 := n6_; have BK218 := n7_; have BK225 := n8_; have BK232 := n9_; have BK239 := n10_; have BK249 := n11_; have HB := n12_; have BK256 := n13_; have GW256 := n14_; have GE256 := n15_; have NB209_256 := n16_; have NB256_209 := n17_; have NB218_256 := n18_; have NB256_218 := n19_; have NB225_256 := n20_; have NB256_225 := n21_; have NB232_256 := n22_; have NB256_232 := n23_; have NB239_256 := n24_; have NB256_239 := n25_; have NB249_256 := n26_; have NB256_249 := n27_; clear n0_ n1_ n2_ n3_ n4_ n5_ n6_ n7_ n8_ n9_ n10_ n11_ n12_ n13_ n14_ n15_ n16_ n17_ n18_ n19_ n20_ n21_ n22_ n23_ n24_ n25_ n26_ n27_; clear hb hbox hg; have hnb107 := NB256_209.out; have hnc107 := NB209_256.out; have hnb108 := NB256_218.out; have hnc108 := NB218_256.out; have hnb109 := NB256_225.out; have hnc109 := NB225_256.out; have hnb110 := NB256_232.out; have hnc110 := NB232_256.out; have hnb111 := NB256_239.out; have hnc111 := NB239_256.out; have hnb112 := NB256_249.out; have hnc112 := NB249_256.out; have hcz113_0 : w106.cell? ⟨gb256, 0, none⟩ = some (.int .i64 0) := (blk_cell BK256.out 0).trans rfl; have hcz113_1 : w106.cell? ⟨gb256, 1, none⟩ = some (.int .i64 0) := (blk_cell BK256.out 1).trans rfl; have hcz113_2 : w106.cell? ⟨gb256, 2, none⟩ = some (.slice none 0 0) := (blk_cell BK256.out 2).trans rfl; have hfz113_0 := blk_frozen BK256.out 0; have hfz113_1 := blk_frozen BK256.out 1; have hfz113_2 := blk_frozen BK256.out 2; obtain ⟨Ao114, co114, eo114⟩ := Kd.R_slice HO254.out; subst eo114; have hcz115_0 : w106.cell? ⟨gb218, 0, none⟩ = some (.int .i64 t212) := (blk_cell BK218.out 0).trans rfl; have hcz115_1 : w106.cell? ⟨gb218, 1, none⟩ = some (.int .i64 t213) := (blk_cell BK218.out 1).trans rfl; have hcz115_2 : w106.cell? ⟨gb218, 2, none⟩ = some (.slice Ao24 t214.length co24) := (blk_cell BK218.out 2).trans rfl; have hfz115_0 := blk_frozen BK218.out 0; have hfz115_1 := blk_frozen BK218.out 1; have hfz115_2 := blk_frozen BK218.out 2) | ((with_reducible refine gate_callee (f := 13) rfl ?_); refine goesL_ (some 89) rfl rfl Try.func13 (by kernel_rfl) rfl #[.agg #[.int .i64 t212, .int .i64 t213, .slice Ao24 t214.length co24], .int .i64 (wrap64 (-(Int.tmod a1 4)))] rfl (by (try simp only [List.map_toArray, List.map_cons, List.map_nil]); first | done | rfl | (simp only [List.length_drop, List.length_take]; rfl)) ?_; (with_reducible refine (bitmap_Turn.calls kj14 t212 t213 _ _ t214 (wrap64 (-(Int.tmod a1 4))) t257 t258 t259 t262 _ ?side1 ?side2 A84.out).mono ?_); (case side1 => refine (Kd.R_reads' (e := 5) (base := w.heap.size) (ok := fun k_ => (((some k_ ≠ (.slice Ao31 t221.length co31 : Value).ownBlock ∧ (some k_ ≠ (.slice Ao39 t228.length co39 : Value).ownBlock ∧ some k_ ≠ (.slice Ao48 t235.length co48 : Value).ownBlock)) ∧ some k_ ≠ (.slice Ao100 t245.length co100 : Value).ownBlock) ∧ some k_ ≠ (.slice Ao114 t252.length co114 : Value).ownBlock)) (n := t214.length) (c := co24) ?_).2.2; exact (by (with_reducible repeat (first | apply Kd.R_alloc | apply Kd.R_drewN | apply Kd.R_drew)); exact (Kd.R_mono (Kd.R_far (p := ⟨gb256, 2, none⟩) (Kd.R_far (p := ⟨gb256, 1, none⟩) (Kd.R_far (p := ⟨gb256, 0, none⟩) (Kd.R_types HO_219002.out BK256.out (by decide)) (fun _ hk => hk.2) (.int .i64 t250)) (fun _ hk => hk.2) (.int .i64 t251)) (fun _ hk => hk.2) (.slice Ao114 t252.length co114)) (fun _ h_ => h_.1)))); (case side2 => exact (Kd.R_reads' HO_219002.out).2.1); rintro e w116 ⟨v260, rfl, ho0, hb⟩; refine ⟨_, rfl, ?_⟩; have n0_ := Aside0.mk (Kd.R_elder' (by (with_reducible repeat (first | apply Kd.R_alloc | apply Kd.R_drewN | apply Kd.R_drew)); exact (Kd.R_mono (Kd.R_far (p := ⟨gb256, 2, none⟩) (Kd.R_far (p := ⟨gb256, 1, none⟩) (Kd.R_far (p := ⟨gb256, 0, none⟩) (Kd.R_types HO_219002.out BK256.out (by decide)) (fun _ hk => hk.2) (.int .i64 t250)) (fun _ hk => hk.2) (.int .i64 t251)) (fun _ hk => hk.2) (.slice Ao114 t252.length co114)) (fun _ h_ => h_.1))) (Kd.R_base ho0) hb); have n1_ := Aside0.mk (Kd.R_elder' (by (with_reducible repeat (first | apply Kd.R_alloc | apply Kd.R_drewN | apply Kd.R_drew)); exact (Kd.R_mono (Kd.R_far (p := ⟨gb256, 2, none⟩) (Kd.R_far (p := ⟨gb256, 1, none⟩) (Kd.R_far (p := ⟨gb256, 0, none⟩) (Kd.R_types HO_226002.out BK256.out (by decide)) (fun _ hk => hk.2) (.int .i64 t250)) (fun _ hk => hk.2) (.int .i64 t251)) (fun _ hk => hk.2) (.slice Ao114 t252.length co114)) (fun _ h_ => h_.1))) (Kd.R_base ho0) hb); have n2_ := Aside0.mk (Kd.R_elder' (by (with_reducible repeat (first | apply Kd.R_alloc | apply Kd.R_drewN | apply Kd.R_drew)); exact (Kd.R_mono (Kd.R_far (p := ⟨gb256, 2, none⟩) (Kd.R_far (p := ⟨gb256, 1, none⟩) (Kd.R_far (p := ⟨gb256, 0, none⟩) (Kd.R_types HO_233002.out BK256.out (by decide)) (fun _ hk => hk.2) (.int .i64 t250)) (fun _ hk => hk.2) (.int .i64 t251)) (fun _ hk => hk.2) (.slice Ao114 t252.length co114)) (fun _ h_ => h_.1))) (Kd.R_base ho0) hb); have n3_ := Aside0.mk (Kd.R_elder' (by (with_reducible repeat (first | apply Kd.R_alloc | apply Kd.R_drewN | apply Kd.R_drew)); exact (Kd.R_mono (Kd.R_far (p := ⟨gb256, 2, none⟩) (Kd.R_far (p := ⟨gb256, 1, none⟩) (Kd.R_far (p := ⟨gb256, 0, none⟩) (Kd.R_types HO_240002.out BK256.out (by decide)) (fun _ hk => hk.2) (.int .i64 t250)) (fun _ hk => hk.2) (.int .i64 t251)) (fun _ hk => hk.2) (.slice Ao114 t252.length co114)) (fun _ h_ => h_.1))) (Kd.R_base ho0) hb); have n4_ := Aside0.mk (Kd.R_elder' (by (with_reducible repeat (first | apply Kd.R_alloc | apply Kd.R_drewN | apply Kd.R_drew)); exact (Kd.R_mono (Kd.R_far (p := ⟨gb256, 2, none⟩) (Kd.R_far (p := ⟨gb256, 1, none⟩) (Kd.R_far (p := ⟨gb256, 0, none⟩) (Kd.R_types HO247.out BK256.out (by decide)) (fun _ hk => hk.2) (.int .i64 t250)) (fun _ hk => hk.2) (.int .i64 t251)) (fun _ hk => hk.2) (.slice Ao114 t252.length co114)) (fun _ h_ => h_.1))) (Kd.R_base ho0) hb); have n5_ := Aside0.mk (Kd.R_elder' (by (with_reducible repeat (first | apply Kd.R_alloc | apply Kd.R_drewN | apply Kd.R_drew)); exact (Kd.R_mono (Kd.R_far (p := ⟨gb256, 2, none⟩) (Kd.R_far (p := ⟨gb256, 1, none⟩) (Kd.R_far (p := ⟨gb256, 0, none⟩) (Kd.R_types HO254.out BK256.out (by decide)) (fun _ hk => hk.2) (.int .i64 t250)) (fun _ hk => hk.2) (.int .i64 t251)) (fun _ hk => hk.2) (.slice Ao114 t252.length co114)) (fun _ h_ => h_.1))) (Kd.R_base ho0) hb); have n6_ := Aside0.mk (Kd.R_lower (Kd.R_new' (Kd.R_new' (Kd.R_new' (Kd.R_new' (Kd.R_new' (Kd.R_new' ho0 (Kd.R_lt (by (with_reducible repeat (first | apply Kd.R_alloc | apply Kd.R_drewN | apply Kd.R_drew)); exact (Kd.R_mono (Kd.R_far (p := ⟨gb256, 2, none⟩) (Kd.R_far (p := ⟨gb256, 1, none⟩) (Kd.R_far (p := ⟨gb256, 0, none⟩) (Kd.R_types HO_219002.out BK256.out (by decide)) (fun _ hk => hk.2) (.int .i64 t250)) (fun _ hk => hk.2) (.int .i64 t251)) (fun _ hk => hk.2) (.slice Ao114 t252.length co114)) (fun _ h_ => h_.1))))) (Kd.R_lt (by (with_reducible repeat (first | apply Kd.R_alloc | apply Kd.R_drewN | apply Kd.R_drew)); exact (Kd.R_mono (Kd.R_far (p := ⟨gb256, 2, none⟩) (Kd.R_far (p := ⟨gb256, 1, none⟩) (Kd.R_far (p := ⟨gb256, 0, none⟩) (Kd.R_types HO_226002.out BK256.out (by decide)) (fun _ hk => hk.2) (.int .i64 t250)) (fun _ hk => hk.2) (.int .i64 t251)) (fun _ hk => hk.2) (.slice Ao114 t252.length co114)) (fun _ h_ => h_.1))))) (Kd.R_lt (by (with_reducible repeat (first | apply Kd.R_alloc | apply Kd.R_drewN | apply Kd.R_drew)); exact (Kd.R_mono (Kd.R_far (p := ⟨gb256, 2, none⟩) (Kd.R_far (p := ⟨gb256, 1, none⟩) (Kd.R_far (p := ⟨gb256, 0, none⟩) (Kd.R_types HO_233002.out BK256.out (by decide)) (fun _ hk => hk.2) (.int .i64 t250)) (fun _ hk => hk.2) (.int .i64 t251)) (fun _ hk => hk.2) (.slice Ao114 t252.length co114)) (fun _ h_ => h_.1))))) (Kd.R_lt (by (with_reducible repeat (first | apply Kd.R_alloc | apply Kd.R_drewN | apply Kd.R_drew)); exact (Kd.R_mono (Kd.R_far (p := ⟨gb256, 2, none⟩) (Kd.R_far (p := ⟨gb256, 1, none⟩) (Kd.R_far (p := ⟨gb256, 0, none⟩) (Kd.R_types HO_240002.out BK256.out (by decide)) (fun _ hk => hk.2) (.int .i64 t250)) (fun _ hk => hk.2) (.int .i64 t251)) (fun _ hk => hk.2) (.slice Ao114 t252.length co114)) (fun _ h_ => h_.1))))) (Kd.R_lt (by (with_reducible repeat (first | apply Kd.R_alloc | apply Kd.R_drewN | apply Kd.R_drew)); exact (Kd.R_mono (Kd.R_far (p := ⟨gb256, 2, none⟩) (Kd.R_far (p := ⟨gb256, 1, none⟩) (Kd.R_far (p := ⟨gb256, 0, none⟩) (Kd.R_types HO247.out BK256.out (by decide)) (fun _ hk => hk.2) (.int .i64 t250)) (fun _ hk => hk.2) (.int .i64 t251)) (fun _ hk => hk.2) (.slice Ao114 t252.length co114)) (fun _ h_ => h_.1))))) (Kd.R_lt (by (with_reducible repeat (first | apply Kd.R_alloc | apply Kd.R_drewN | apply Kd.R_drew)); exact (Kd.R_mono (Kd.R_far (p := ⟨gb256, 2, none⟩) (Kd.R_far (p := ⟨gb256, 1, none⟩) (Kd.R_far (p := ⟨gb256, 0, none⟩) (Kd.R_types HO254.out BK256.out (by decide)) (fun _ hk => hk.2) (.int .i64 t250)) (fun _ hk => hk.2) (.int .i64 t251)) (fun _ hk => hk.2) (.slice Ao114 t252.length co114)) (fun _ h_ => h_.1))))) (below_size (by repeat (first | (with_reducible first | exact HB.out | apply below_alloc | apply pw_below_drewN | apply below_drew1 | refine below_set ?_ GE209.out | refine below_set ?_ GE218.out | refine below_set ?_ GE225.out | refine below_set ?_ GE232.out | refine below_set ?_ GE239.out | refine below_set ?_ GE249.out | refine below_set ?_ GE256.out) | exact HB.out)))); have n7_ := Aside0.mk (blk_below (g := gb209) (o := .cells #[.int .i64 a0_0, .int .i64 a0_1, .slice A0_2 l0_2.length c0_2] 24 (0, 0)) (by refine bF ?_ ?_; exact NB209_256.out; refine bF ?_ ?_; exact NB209_256.out; refine bF ?_ ?_; exact NB209_256.out; exact bU BK209.out) hb); have n8_ := Aside0.mk (blk_below (g := gb218) (o := .cells #[.int .i64 t212, .int .i64 t213, .slice Ao24 t214.length co24] 24 (0, 0)) (by refine bF ?_ ?_; exact NB218_256.out; refine bF ?_ ?_; exact NB218_256.out; refine bF ?_ ?_; exact NB218_256.out; exact bU BK218.out) hb); have n9_ := Aside0.mk (blk_below (g := gb225) (o := .cells #[.int .i64 t219, .int .i64 t220, .slice Ao31 t221.length co31] 24 (0, 0)) (by refine bF ?_ ?_; exact NB225_256.out; refine bF ?_ ?_; exact NB225_256.out; refine bF ?_ ?_; exact NB225_256.out; exact bU BK225.out) hb); have n10_ := Aside0.mk (blk_below (g := gb232) (o := .cells #[.int .i64 t226, .int .i64 t227, .slice Ao39 t228.length co39] 24 (0, 0)) (by refine bF ?_ ?_; exact NB232_256.out; refine bF ?_ ?_; exact NB232_256.out; refine bF ?_ ?_; exact NB232_256.out; exact bU BK232.out) hb); have n11_ := Aside0.mk (blk_below (g := gb239) (o := .cells #[.int .i64 t233, .int .i64 t234, .slice Ao48 t235.length co48] 24 (0, 0)) (by refine bF ?_ ?_; exact NB239_256.out; refine bF ?_ ?_; exact NB239_256.out; refine bF ?_ ?_; exact NB239_256.out; exact bU BK239.out) hb); have n12_ := Aside0.mk (blk_below (g := gb249) (o := .cells #[.int .i64 t243, .int .i64 t244, .slice Ao100 t245.length co100] 24 (0, 0)) (by refine bF ?_ ?_; exact NB249_256.out; refine bF ?_ ?_; exact NB249_256.out; refine bF ?_ ?_; exact NB249_256.out; exact bU BK249.out) hb); have n13_ := Aside0.mk (blk_below (g := gb256) (o := .cells #[.int .i64 t250, .int .i64 t251, .slice Ao114 t252.length co114] 24 (0, 0)) (by (with_reducible repeat (first | refine blk_drewN ?_ _ | refine blk_drew ?_ | refine blk_alloc ?_ _)); refine blk_put (cs := #[.int .i64 t250, .int .i64 t251, .slice none 0 0]) ?_ 2 _ rfl; (with_reducible repeat (first | refine blk_drewN ?_ _ | refine blk_drew ?_ | refine blk_alloc ?_ _)); refine blk_put (cs := #[.int .i64 t250, .int .i64 0, .slice none 0 0]) ?_ 1 _ rfl; (with_reducible repeat (first | refine blk_drewN ?_ _ | refine blk_drew ?_ | refine blk_alloc ?_ _)); refine blk_put (cs := #[.int .i64 0, .int .i64 0, .slice none 0 0]) ?_ 0 _ rfl; exact bU BK256.out) hb); have n14_ := Aside0.mk (below_step (by repeat (first | (with_reducible first | exact HB.out | apply below_alloc | apply pw_below_drewN | apply below_drew1 | refine below_set ?_ GE209.out | refine below_set ?_ GE218.out | refine below_set ?_ GE225.out | refine below_set ?_ GE232.out | refine below_set ?_ GE239.out | refine below_set ?_ GE249.out | refine below_set ?_ GE256.out) | exact HB.out)) hb); clear HO_219002; clear HO_226002; clear HO_233002; clear HO_240002; clear HO247; clear HO254; clear BK209; clear BK218; clear BK225; clear BK232; clear BK239; clear BK249; clear BK256; clear HB; have HO_219002 := n0_; have HO_226002 := n1_; have HO_233002 := n2_; have HO_240002 := n3_; have HO247 := n4_; have HO254 := n5_; have HO261 := n6_; have BK209 := n7_; have BK218 := n8_; have BK225 := n9_; have BK232 := n10_; have BK239 := n11_; have BK249 := n12_; have BK256 := n13_; have HB := n14_; clear n0_ n1_ n2_ n3_ n4_ n5_ n6_ n7_ n8_ n9_ n10_ n11_ n12_ n13_ n14_; (try clear hb); (try clear hb2); (try clear hk); (try clear hi); (try clear ho0)) | ((with_reducible refine gate_dst (N := 17) rfl ?_); refine box_event ?hg (N := 17) ?hd (cs := #[.int .i64 0, .int .i64 0, .slice none 0 0]) (t := 24) ?hr ?_; (case hd => rfl); (case hg => rfl); (case hr => first | (go_simp; done) | (go_simp; rfl)); intro gb263 hg w117 hbox hb; have n0_ := Aside0.mk (Kd.R_below (rU HO_219002.out) hb); have n1_ := Aside0.mk (Kd.R_below (rU HO_226002.out) hb); have n2_ := Aside0.mk (Kd.R_below (rU HO_233002.out) hb); have n3_ := Aside0.mk (Kd.R_below (rU HO_240002.out) hb); have n4_ := Aside0.mk (Kd.R_below (rU HO247.out) hb); have n5_ := Aside0.mk (Kd.R_below (rU HO254.out) hb); have n6_ := Aside0.mk (Kd.R_below (rU HO261.out) hb); have n7_ := Aside0.mk (blk_below (bU BK209.out) hb); have n8_ := Aside0.mk (blk_below (bU BK218.out) hb); have n9_ := Aside0.mk (blk_below (bU BK225.out) hb); have n10_ := Aside0.mk (blk_below (bU BK232.out) hb); have n11_ := Aside0.mk (blk_below (bU BK239.out) hb); have n12_ := Aside0.mk (blk_below (bU BK249.out) hb); have n13_ := Aside0.mk (blk_below (bU BK256.out) hb); have n14_ := Aside0.mk (below_step (by repeat (first | (with_reducible first | exact HB.out | apply below_alloc | apply pw_below_drewN | apply below_drew1 | refine below_set ?_ GE209.out | refine below_set ?_ GE218.out | refine below_set ?_ GE225.out | refine below_set ?_ GE232.out | refine below_set ?_ GE239.out | refine below_set ?_ GE249.out | refine below_set ?_ GE256.out) | exact HB.out)) hb); have n15_ := Aside0.mk (hbox); have n16_ := Aside0.mk ((by rw [hg]; exact (below_size (by repeat (first | (with_reducible first | exact HB.out | apply below_alloc | apply pw_below_drewN | apply below_drew1 | refine below_set ?_ GE209.out | refine below_set ?_ GE218.out | refine below_set ?_ GE225.out | refine below_set ?_ GE232.out | refine below_set ?_ GE239.out | refine below_set ?_ GE249.out | refine below_set ?_ GE256.out) | exact HB.out))) : w.heap.size ≤ gb263)); have n17_ := Aside0.mk ((by rw [hg]; exact (below_size (by repeat (first | (with_reducible first | exact HB.out | apply below_alloc | apply pw_below_drewN | apply below_drew1 | refine below_set ?_ GE209.out | refine below_set ?_ GE218.out | refine below_set ?_ GE225.out | refine below_set ?_ GE232.out | refine below_set ?_ GE239.out | refine below_set ?_ GE249.out | refine below_set ?_ GE256.out) | exact HB.out))) : w.heap.size ≤ gb263)); have n18_ := Aside0.mk ((by rw [hg]; exact Nat.ne_of_lt (blk_lt (bU BK209.out)) : gb209 ≠ gb263)); have n19_ := Aside0.mk ((by rw [hg]; exact Nat.ne_of_gt (blk_lt (bU BK209.out)) : gb263 ≠ gb209)); have n20_ := Aside0.mk ((by rw [hg]; exact Nat.ne_of_lt (blk_lt (bU BK218.out)) : gb218 ≠ gb263)); have n21_ := Aside0.mk ((by rw [hg]; exact Nat.ne_of_gt (blk_lt (bU BK218.out)) : gb263 ≠ gb218)); have n22_ := Aside0.mk ((by rw [hg]; exact Nat.ne_of_lt (blk_lt (bU BK225.out)) : gb225 ≠ gb263)); have n23_ := Aside0.mk ((by rw [hg]; exact Nat.ne_of_gt (blk_lt (bU BK225.out)) : gb263 ≠ gb225)); have n24_ := Aside0.mk ((by rw [hg]; exact Nat.ne_of_lt (blk_lt (bU BK232.out)) : gb232 ≠ gb263)); have n25_ := Aside0.mk ((by rw [hg]; exact Nat.ne_of_gt (blk_lt (bU BK232.out)) : gb263 ≠ gb232)); have n26_ := Aside0.mk ((by rw [hg]; exact Nat.ne_of_lt (blk_lt (bU BK239.out)) : gb239 ≠ gb263)); have n27_ := Aside0.mk ((by rw [hg]; exact Nat.ne_of_gt (blk_lt (bU BK239.out)) : gb263 ≠ gb239)); have n28_ := Aside0.mk ((by rw [hg]; exact Nat.ne_of_lt (blk_lt (bU BK249.out)) : gb249 ≠ gb263)); have n29_ := Aside0.mk ((by rw [hg]; exact Nat.ne_of_gt (blk_lt (bU BK249.out)) : gb263 ≠ gb249)); have n30_ := Aside0.mk ((by rw [hg]; exact Nat.ne_of_lt (blk_lt (bU BK256.out)) : gb256 ≠ gb263)); have n31_ := Aside0.mk ((by rw [hg]; exact Nat.ne_of_gt (blk_lt (bU BK256.out)) : gb263 ≠ gb256)); clear HO_219002; clear HO_226002; clear HO_233002; clear HO_240002; clear HO247; clear HO254; clear HO261; clear BK209; clear BK218; clear BK225; clear BK232; clear BK239; clear BK249; clear BK256; clear HB; have HO_219002 := n0_; have HO_226002 := n1_; have HO_233002 := n2_; have HO_240002 := n3_; have HO247 := n4_; have HO254 := n5_; have HO261 := n6_; have BK209 := n7_; have BK218 := n8_; have BK225 := n9_; have BK232 := n10_; have BK239 := n11_; have BK249 := n12_; have BK256 := n13_; have HB := n14_; have BK263 := n15_; have GW263 := n16_; have GE263 := n17_; have NB209_263 := n18_; have NB263_209 := n19_; have NB218_263 := n20_; have NB263_218 := n21_; have NB225_263 := n22_; have NB263_225 := n23_; have NB232_263 := n24_; have NB263_232 := n25_; have NB239_263 := n26_; have NB263_239 := n27_; have NB249_263 := n28_; have NB263_249 := n29_; have NB256_263 := n30_; have NB263_256 := n31_; clear n0_ n1_ n2_ n3_ n4_ n5_ n6_ n7_ n8_ n9_ n10_ n11_ n12_ n13_ n14_ n15_ n16_ n17_ n18_ n19_ n20_ n21_ n22_ n23_ n24_ n25_ n26_ n27_ n28_ n29_ n30_ n31_; clear hb hbox hg; have hnb118 := NB263_209.out; have hnc118 := NB209_263.out; have hnb119 := NB263_218.out; have hnc119 := NB218_263.out; have hnb120 := NB263_225.out; have hnc120 := NB225_263.out; have hnb121 := NB263_232.out; have hnc121 := NB232_263.out; have hnb122 := NB263_239.out; have hnc122 := NB239_263.out; have hnb123 := NB263_249.out; have hnc123 := NB249_263.out; have hnb124 := NB263_256.out; have hnc124 := NB256_263.out; have hcz125_0 : w117.cell? ⟨gb263, 0, none⟩ = some (.int .i64 0) := (blk_cell BK263.out 0).trans rfl; have hcz125_1 : w117.cell? ⟨gb263, 1, none⟩ = some (.int .i64 0) := (blk_cell BK263.out 1).trans rfl; have hcz125_2 : w117.cell? ⟨gb263, 2, none⟩ = some (.slice none 0 0) := (blk_cell BK263.out 2).trans rfl; have hfz125_0 := blk_frozen BK263.out 0; have hfz125_1 := blk_frozen BK263.out 1; have hfz125_2 := blk_frozen BK263.out 2; obtain ⟨Ao126, co126, eo126⟩ := Kd.R_slice HO261.out; subst eo126; have hnb127 := NB232_225.out; have hnc127 := NB225_232.out; have hnb128 := NB232_239.out; have hnc128 := NB239_232.out; have hcz129_0 : w117.cell? ⟨gb232, 0, none⟩ = some (.int .i64 t226) := (blk_cell BK232.out 0).trans rfl; have hcz129_1 : w117.cell? ⟨gb232, 1, none⟩ = some (.int .i64 t227) := (blk_cell BK232.out 1).trans rfl; have hcz129_2 : w117.cell? ⟨gb232, 2, none⟩ = some (.slice Ao39 t228.length co39) := (blk_cell BK232.out 2).trans rfl; have hfz129_0 := blk_frozen BK232.out 0; have hfz129_1 := blk_frozen BK232.out 1; have hfz129_2 := blk_frozen BK232.out 2) | ((with_reducible refine gate_callee (f := 15) rfl ?_); refine goesL_ (some 94) rfl rfl Try.func15 (by kernel_rfl) rfl #[.agg #[.int .i64 t226, .int .i64 t227, .slice Ao39 t228.length co39]] rfl (by (try simp only [List.map_toArray, List.map_cons, List.map_nil]); first | done | rfl | (simp only [List.length_drop, List.length_take]; rfl)) ?_; (with_reducible refine (bitmap_Flip.calls kj14 t226 t227 _ _ t228 t264 t265 t266 t269 _ ?side1 ?side2 A85.out).mono ?_); (case side1 => refine (Kd.R_reads' (e := 5) (base := w.heap.size) (ok := fun k_ => ((((some k_ ≠ (.slice Ao24 t214.length co24 : Value).ownBlock ∧ (some k_ ≠ (.slice Ao31 t221.length co31 : Value).ownBlock ∧ some k_ ≠ (.slice Ao48 t235.length co48 : Value).ownBlock)) ∧ some k_ ≠ (.slice Ao100 t245.length co100 : Value).ownBlock) ∧ some k_ ≠ (.slice Ao114 t252.length co114 : Value).ownBlock) ∧ some k_ ≠ (.slice Ao126 t259.length co126 : Value).ownBlock)) (n := t228.length) (c := co39) ?_).2.2; exact (by (with_reducible repeat (first | apply Kd.R_alloc | apply Kd.R_drewN | apply Kd.R_drew)); exact (Kd.R_mono (Kd.R_far (p := ⟨gb263, 2, none⟩) (Kd.R_far (p := ⟨gb263, 1, none⟩) (Kd.R_far (p := ⟨gb263, 0, none⟩) (Kd.R_types HO_233002.out BK263.out (by decide)) (fun _ hk => hk.2) (.int .i64 t257)) (fun _ hk => hk.2) (.int .i64 t258)) (fun _ hk => hk.2) (.slice Ao126 t259.length co126)) (fun _ h_ => h_.1)))); (case side2 => exact (Kd.R_reads' HO_233002.out).2.1); rintro e w130 ⟨v267, rfl, ho0, hb⟩; refine ⟨_, rfl, ?_⟩; have n0_ := Aside0.mk (Kd.R_elder' (by (with_reducible repeat (first | apply Kd.R_alloc | apply Kd.R_drewN | apply Kd.R_drew)); exact (Kd.R_mono (Kd.R_far (p := ⟨gb263, 2, none⟩) (Kd.R_far (p := ⟨gb263, 1, none⟩) (Kd.R_far (p := ⟨gb263, 0, none⟩) (Kd.R_types HO_219002.out BK263.out (by decide)) (fun _ hk => hk.2) (.int .i64 t257)) (fun _ hk => hk.2) (.int .i64 t258)) (fun _ hk => hk.2) (.slice Ao126 t259.length co126)) (fun _ h_ => h_.1))) (Kd.R_base ho0) hb); have n1_ := Aside0.mk (Kd.R_elder' (by (with_reducible repeat (first | apply Kd.R_alloc | apply Kd.R_drewN | apply Kd.R_drew)); exact (Kd.R_mono (Kd.R_far (p := ⟨gb263, 2, none⟩) (Kd.R_far (p := ⟨gb263, 1, none⟩) (Kd.R_far (p := ⟨gb263, 0, none⟩) (Kd.R_types HO_226002.out BK263.out (by decide)) (fun _ hk => hk.2) (.int .i64 t257)) (fun _ hk => hk.2) (.int .i64 t258)) (fun _ hk => hk.2) (.slice Ao126 t259.length co126)) (fun _ h_ => h_.1))) (Kd.R_base ho0) hb); have n2_ := Aside0.mk (Kd.R_elder' (by (with_reducible repeat (first | apply Kd.R_alloc | apply Kd.R_drewN | apply Kd.R_drew)); exact (Kd.R_mono (Kd.R_far (p := ⟨gb263, 2, none⟩) (Kd.R_far (p := ⟨gb263, 1, none⟩) (Kd.R_far (p := ⟨gb263, 0, none⟩) (Kd.R_types HO_233002.out BK263.out (by decide)) (fun _ hk => hk.2) (.int .i64 t257)) (fun _ hk => hk.2) (.int .i64 t258)) (fun _ hk => hk.2) (.slice Ao126 t259.length co126)) (fun _ h_ => h_.1))) (Kd.R_base ho0) hb); have n3_ := Aside0.mk (Kd.R_elder' (by (with_reducible repeat (first | apply Kd.R_alloc | apply Kd.R_drewN | apply Kd.R_drew)); exact (Kd.R_mono (Kd.R_far (p := ⟨gb263, 2, none⟩) (Kd.R_far (p := ⟨gb263, 1, none⟩) (Kd.R_far (p := ⟨gb263, 0, none⟩) (Kd.R_types HO_240002.out BK263.out (by decide)) (fun _ hk => hk.2) (.int .i64 t257)) (fun _ hk => hk.2) (.int .i64 t258)) (fun _ hk => hk.2) (.slice Ao126 t259.length co126)) (fun _ h_ => h_.1))) (Kd.R_base ho0) hb); have n4_ := Aside0.mk (Kd.R_elder' (by (with_reducible repeat (first | apply Kd.R_alloc | apply Kd.R_drewN | apply Kd.R_drew)); exact (Kd.R_mono (Kd.R_far (p := ⟨gb263, 2, none⟩) (Kd.R_far (p := ⟨gb263, 1, none⟩) (Kd.R_far (p := ⟨gb263, 0, none⟩) (Kd.R_types HO247.out BK263.out (by decide)) (fun _ hk => hk.2) (.int .i64 t257)) (fun _ hk => hk.2) (.int .i64 t258)) (fun _ hk => hk.2) (.slice Ao126 t259.length co126)) (fun _ h_ => h_.1))) (Kd.R_base ho0) hb); have n5_ := Aside0.mk (Kd.R_elder' (by (with_reducible repeat (first | apply Kd.R_alloc | apply Kd.R_drewN | apply Kd.R_drew)); exact (Kd.R_mono (Kd.R_far (p := ⟨gb263, 2, none⟩) (Kd.R_far (p := ⟨gb263, 1, none⟩) (Kd.R_far (p := ⟨gb263, 0, none⟩) (Kd.R_types HO254.out BK263.out (by decide)) (fun _ hk => hk.2) (.int .i64 t257)) (fun _ hk => hk.2) (.int .i64 t258)) (fun _ hk => hk.2) (.slice Ao126 t259.length co126)) (fun _ h_ => h_.1))) (Kd.R_base ho0) hb); have n6_ := Aside0.mk (Kd.R_elder' (by (with_reducible repeat (first | apply Kd.R_alloc | apply Kd.R_drewN | apply Kd.R_drew)); exact (Kd.R_mono (Kd.R_far (p := ⟨gb263, 2, none⟩) (Kd.R_far (p := ⟨gb263, 1, none⟩) (Kd.R_far (p := ⟨gb263, 0, none⟩) (Kd.R_types HO261.out BK263.out (by decide)) (fun _ hk => hk.2) (.int .i64 t257)) (fun _ hk => hk.2) (.int .i64 t258)) (fun _ hk => hk.2) (.slice Ao126 t259.length co126)) (fun _ h_ => h_.1))) (Kd.R_base ho0) hb); have n7_ := Aside0.mk (Kd.R_lower (Kd.R_new' (Kd.R_new' (Kd.R_new' (Kd.R_new' (Kd.R_new' (Kd.R_new' (Kd.R_new' ho0 (Kd.R_lt (by (with_reducible repeat (first | apply Kd.R_alloc | apply Kd.R_drewN | apply Kd.R_drew)); exact (Kd.R_mono (Kd.R_far (p := ⟨gb263, 2, none⟩) (Kd.R_far (p := ⟨gb263, 1, none⟩) (Kd.R_far (p := ⟨gb263, 0, none⟩) (Kd.R_types HO_219002.out BK263.out (by decide)) (fun _ hk => hk.2) (.int .i64 t257)) (fun _ hk => hk.2) (.int .i64 t258)) (fun _ hk => hk.2) (.slice Ao126 t259.length co126)) (fun _ h_ => h_.1))))) (Kd.R_lt (by (with_reducible repeat (first | apply Kd.R_alloc | apply Kd.R_drewN | apply Kd.R_drew)); exact (Kd.R_mono (Kd.R_far (p := ⟨gb263, 2, none⟩) (Kd.R_far (p := ⟨gb263, 1, none⟩) (Kd.R_far (p := ⟨gb263, 0, none⟩) (Kd.R_types HO_226002.out BK263.out (by decide)) (fun _ hk => hk.2) (.int .i64 t257)) (fun _ hk => hk.2) (.int .i64 t258)) (fun _ hk => hk.2) (.slice Ao126 t259.length co126)) (fun _ h_ => h_.1))))) (Kd.R_lt (by (with_reducible repeat (first | apply Kd.R_alloc | apply Kd.R_drewN | apply Kd.R_drew)); exact (Kd.R_mono (Kd.R_far (p := ⟨gb263, 2, none⟩) (Kd.R_far (p := ⟨gb263, 1, none⟩) (Kd.R_far (p := ⟨gb263, 0, none⟩) (Kd.R_types HO_233002.out BK263.out (by decide)) (fun _ hk => hk.2) (.int .i64 t257)) (fun _ hk => hk.2) (.int .i64 t258)) (fun _ hk => hk.2) (.slice Ao126 t259.length co126)) (fun _ h_ => h_.1))))) (Kd.R_lt (by (with_reducible repeat (first | apply Kd.R_alloc | apply Kd.R_drewN | apply Kd.R_drew)); exact (Kd.R_mono (Kd.R_far (p := ⟨gb263, 2, none⟩) (Kd.R_far (p := ⟨gb263, 1, none⟩) (Kd.R_far (p := ⟨gb263, 0, none⟩) (Kd.R_types HO_240002.out BK263.out (by decide)) (fun _ hk => hk.2) (.int .i64 t257)) (fun _ hk => hk.2) (.int .i64 t258)) (fun _ hk => hk.2) (.slice Ao126 t259.length co126)) (fun _ h_ => h_.1))))) (Kd.R_lt (by (with_reducible repeat (first | apply Kd.R_alloc | apply Kd.R_drewN | apply Kd.R_drew)); exact (Kd.R_mono (Kd.R_far (p := ⟨gb263, 2, none⟩) (Kd.R_far (p := ⟨gb263, 1, none⟩) (Kd.R_far (p := ⟨gb263, 0, none⟩) (Kd.R_types HO247.out BK263.out (by decide)) (fun _ hk => hk.2) (.int .i64 t257)) (fun _ hk => hk.2) (.int .i64 t258)) (fun _ hk => hk.2) (.slice Ao126 t259.length co126)) (fun _ h_ => h_.1))))) (Kd.R_lt (by (with_reducible repeat (first | apply Kd.R_alloc | apply Kd.R_drewN | apply Kd.R_drew)); exact (Kd.R_mono (Kd.R_far (p := ⟨gb263, 2, none⟩) (Kd.R_far (p := ⟨gb263, 1, none⟩) (Kd.R_far (p := ⟨gb263, 0, none⟩) (Kd.R_types HO254.out BK263.out (by decide)) (fun _ hk => hk.2) (.int .i64 t257)) (fun _ hk => hk.2) (.int .i64 t258)) (fun _ hk => hk.2) (.slice Ao126 t259.length co126)) (fun _ h_ => h_.1))))) (Kd.R_lt (by (with_reducible repeat (first | apply Kd.R_alloc | apply Kd.R_drewN | apply Kd.R_drew)); exact (Kd.R_mono (Kd.R_far (p := ⟨gb263, 2, none⟩) (Kd.R_far (p := ⟨gb263, 1, none⟩) (Kd.R_far (p := ⟨gb263, 0, none⟩) (Kd.R_types HO261.out BK263.out (by decide)) (fun _ hk => hk.2) (.int .i64 t257)) (fun _ hk => hk.2) (.int .i64 t258)) (fun _ hk => hk.2) (.slice Ao126 t259.length co126)) (fun _ h_ => h_.1))))) (below_size (by repeat (first | (with_reducible first | exact HB.out | apply below_alloc | apply pw_below_drewN | apply below_drew1 | refine below_set ?_ GE209.out | refine below_set ?_ GE218.out | refine below_set ?_ GE225.out | refine below_set ?_ GE232.out | refine below_set ?_ GE239.out | refine below_set ?_ GE249.out | refine below_set ?_ GE256.out | refine below_set ?_ GE263.out) | exact HB.out)))); have n8_ := Aside0.mk (blk_below (g := gb209) (o := .cells #[.int .i64 a0_0, .int .i64 a0_1, .slice A0_2 l0_2.length c0_2] 24 (0, 0)) (by refine bF ?_ ?_; exact NB209_263.out; refine bF ?_ ?_; exact NB209_263.out; refine bF ?_ ?_; exact NB209_263.out; exact bU BK209.out) hb); have n9_ := Aside0.mk (blk_below (g := gb218) (o := .cells #[.int .i64 t212, .int .i64 t213, .slice Ao24 t214.length co24] 24 (0, 0)) (by refine bF ?_ ?_; exact NB218_263.out; refine bF ?_ ?_; exact NB218_263.out; refine bF ?_ ?_; exact NB218_263.out; exact bU BK218.out) hb); have n10_ := Aside0.mk (blk_below (g := gb225) (o := .cells #[.int .i64 t219, .int .i64 t220, .slice Ao31 t221.length co31] 24 (0, 0)) (by refine bF ?_ ?_; exact NB225_263.out; refine bF ?_ ?_; exact NB225_263.out; refine bF ?_ ?_; exact NB225_263.out; exact bU BK225.out) hb); have n11_ := Aside0.mk (blk_below (g := gb232) (o := .cells #[.int .i64 t226, .int .i64 t227, .slice Ao39 t228.length co39] 24 (0, 0)) (by refine bF ?_ ?_; exact NB232_263.out; refine bF ?_ ?_; exact NB232_263.out; refine bF ?_ ?_; exact NB232_263.out; exact bU BK232.out) hb); have n12_ := Aside0.mk (blk_below (g := gb239) (o := .cells #[.int .i64 t233, .int .i64 t234, .slice Ao48 t235.length co48] 24 (0, 0)) (by refine bF ?_ ?_; exact NB239_263.out; refine bF ?_ ?_; exact NB239_263.out; refine bF ?_ ?_; exact NB239_263.out; exact bU BK239.out) hb); have n13_ := Aside0.mk (blk_below (g := gb249) (o := .cells #[.int .i64 t243, .int .i64 t244, .slice Ao100 t245.length co100] 24 (0, 0)) (by refine bF ?_ ?_; exact NB249_263.out; refine bF ?_ ?_; exact NB249_263.out; refine bF ?_ ?_; exact NB249_263.out; exact bU BK249.out) hb); have n14_ := Aside0.mk (blk_below (g := gb256) (o := .cells #[.int .i64 t250, .int .i64 t251, .slice Ao114 t252.length co114] 24 (0, 0)) (by refine bF ?_ ?_; exact NB256_263.out; refine bF ?_ ?_; exact NB256_263.out; refine bF ?_ ?_; exact NB256_263.out; exact bU BK256.out) hb); have n15_ := Aside0.mk (blk_below (g := gb263) (o := .cells #[.int .i64 t257, .int .i64 t258, .slice Ao126 t259.length co126] 24 (0, 0)) (by (with_reducible repeat (first | refine blk_drewN ?_ _ | refine blk_drew ?_ | refine blk_alloc ?_ _)); refine blk_put (cs := #[.int .i64 t257, .int .i64 t258, .slice none 0 0]) ?_ 2 _ rfl; (with_reducible repeat (first | refine blk_drewN ?_ _ | refine blk_drew ?_ | refine blk_alloc ?_ _)); refine blk_put (cs := #[.int .i64 t257, .int .i64 0, .slice none 0 0]) ?_ 1 _ rfl; (with_reducible repeat (first | refine blk_drewN ?_ _ | refine blk_drew ?_ | refine blk_alloc ?_ _)); refine blk_put (cs := #[.int .i64 0, .int .i64 0, .slice none 0 0]) ?_ 0 _ rfl; exact bU BK263.out) hb); have n16_ := Aside0.mk (below_step (by repeat (first | (with_reducible first | exact HB.out | apply below_alloc | apply pw_below_drewN | apply below_drew1 | refine below_set ?_ GE209.out | refine below_set ?_ GE218.out | refine below_set ?_ GE225.out | refine below_set ?_ GE232.out | refine below_set ?_ GE239.out | refine below_set ?_ GE249.out | refine below_set ?_ GE256.out | refine below_set ?_ GE263.out) | exact HB.out)) hb); clear HO_219002; clear HO_226002; clear HO_233002; clear HO_240002; clear HO247; clear HO254; clear HO261; clear BK209; clear BK218; clear BK225; clear BK232; clear BK239; clear BK249; clear BK256; clear BK263; clear HB; have HO_219002 := n0_; have HO_226002 := n1_; have HO_233002 := n2_; have HO_240002 := n3_; have HO247 := n4_; have HO254 := n5_; have HO261 := n6_; have HO268 := n7_; have BK209 := n8_; have BK218 := n9_; have BK225 := n10_; have BK232 := n11_; have BK239 := n12_; have BK249 := n13_; have BK256 := n14_; have BK263 := n15_; have HB := n16_; clear n0_ n1_ n2_ n3_ n4_ n5_ n6_ n7_ n8_ n9_ n10_ n11_ n12_ n13_ n14_ n15_ n16_; (try clear hb); (try clear hb2); (try clear hk); (try clear hi); (try clear ho0)) | ((with_reducible refine gate_dst (N := 18) rfl ?_); refine box_event ?hg (N := 18) ?hd (cs := #[.int .i64 0, .int .i64 0, .slice none 0 0]) (t := 24) ?hr ?_; (case hd => rfl); (case hg => rfl); (case hr => first | (go_simp; done) | (go_simp; rfl)); intro gb270 hg w131 hbox hb; have n0_ := Aside0.mk (Kd.R_below (rU HO_219002.out) hb); have n1_ := Aside0.mk (Kd.R_below (rU HO_226002.out) hb); have n2_ := Aside0.mk (Kd.R_below (rU HO_233002.out) hb); have n3_ := Aside0.mk (Kd.R_below (rU HO_240002.out) hb); have n4_ := Aside0.mk (Kd.R_below (rU HO247.out) hb); have n5_ := Aside0.mk (Kd.R_below (rU HO254.out) hb); have n6_ := Aside0.mk (Kd.R_below (rU HO261.out) hb); have n7_ := Aside0.mk (Kd.R_below (rU HO268.out) hb); have n8_ := Aside0.mk (blk_below (bU BK209.out) hb); have n9_ := Aside0.mk (blk_below (bU BK218.out) hb); have n10_ := Aside0.mk (blk_below (bU BK225.out) hb); have n11_ := Aside0.mk (blk_below (bU BK232.out) hb); have n12_ := Aside0.mk (blk_below (bU BK239.out) hb); have n13_ := Aside0.mk (blk_below (bU BK249.out) hb); have n14_ := Aside0.mk (blk_below (bU BK256.out) hb); have n15_ := Aside0.mk (blk_below (bU BK263.out) hb); have n16_ := Aside0.mk (below_step (by repeat (first | (with_reducible first | exact HB.out | apply below_alloc | apply pw_below_drewN | apply below_drew1 | refine below_set ?_ GE209.out | refine below_set ?_ GE218.out | refine below_set ?_ GE225.out | refine below_set ?_ GE232.out | refine below_set ?_ GE239.out | refine below_set ?_ GE249.out | refine below_set ?_ GE256.out | refine below_set ?_ GE263.out) | exact HB.out)) hb); have n17_ := Aside0.mk (hbox); have n18_ := Aside0.mk ((by rw [hg]; exact (below_size (by repeat (first | (with_reducible first | exact HB.out | apply below_alloc | apply pw_below_drewN | apply below_drew1 | refine below_set ?_ GE209.out | refine below_set ?_ GE218.out | refine below_set ?_ GE225.out | refine below_set ?_ GE232.out | refine below_set ?_ GE239.out | refine below_set ?_ GE249.out | refine below_set ?_ GE256.out | refine below_set ?_ GE263.out) | exact HB.out))) : w.heap.size ≤ gb270)); have n19_ := Aside0.mk ((by rw [hg]; exact (below_size (by repeat (first | (with_reducible first | exact HB.out | apply below_alloc | apply pw_below_drewN | apply below_drew1 | refine below_set ?_ GE209.out | refine below_set ?_ GE218.out | refine below_set ?_ GE225.out | refine below_set ?_ GE232.out | refine below_set ?_ GE239.out | refine below_set ?_ GE249.out | refine below_set ?_ GE256.out | refine below_set ?_ GE263.out) | exact HB.out))) : w.heap.size ≤ gb270)); have n20_ := Aside0.mk ((by rw [hg]; exact Nat.ne_of_lt (blk_lt (bU BK209.out)) : gb209 ≠ gb270)); have n21_ := Aside0.mk ((by rw [hg]; exact Nat.ne_of_gt (blk_lt (bU BK209.out)) : gb270 ≠ gb209)); have n22_ := Aside0.mk ((by rw [hg]; exact Nat.ne_of_lt (blk_lt (bU BK218.out)) : gb218 ≠ gb270)); have n23_ := Aside0.mk ((by rw [hg]; exact Nat.ne_of_gt (blk_lt (bU BK218.out)) : gb270 ≠ gb218)); have n24_ := Aside0.mk ((by rw [hg]; exact Nat.ne_of_lt (blk_lt (bU BK225.out)) : gb225 ≠ gb270)); have n25_ := Aside0.mk ((by rw [hg]; exact Nat.ne_of_gt (blk_lt (bU BK225.out)) : gb270 ≠ gb225)); have n26_ := Aside0.mk ((by rw [hg]; exact Nat.ne_of_lt (blk_lt (bU BK232.out)) : gb232 ≠ gb270)); have n27_ := Aside0.mk ((by rw [hg]; exact Nat.ne_of_gt (blk_lt (bU BK232.out)) : gb270 ≠ gb232)); have n28_ := Aside0.mk ((by rw [hg]; exact Nat.ne_of_lt (blk_lt (bU BK239.out)) : gb239 ≠ gb270)); have n29_ := Aside0.mk ((by rw [hg]; exact Nat.ne_of_gt (blk_lt (bU BK239.out)) : gb270 ≠ gb239)); have n30_ := Aside0.mk ((by rw [hg]; exact Nat.ne_of_lt (blk_lt (bU BK249.out)) : gb249 ≠ gb270)); have n31_ := Aside0.mk ((by rw [hg]; exact Nat.ne_of_gt (blk_lt (bU BK249.out)) : gb270 ≠ gb249)); have n32_ := Aside0.mk ((by rw [hg]; exact Nat.ne_of_lt (blk_lt (bU BK256.out)) : gb256 ≠ gb270)); have n33_ := Aside0.mk ((by rw [hg]; exact Nat.ne_of_gt (blk_lt (bU BK256.out)) : gb270 ≠ gb256)); have n34_ := Aside0.mk ((by rw [hg]; exact Nat.ne_of_lt (blk_lt (bU BK263.out)) : gb263 ≠ gb270)); have n35_ := Aside0.mk ((by rw [hg]; exact Nat.ne_of_gt (blk_lt (bU BK263.out)) : gb270 ≠ gb263)); clear HO_219002; clear HO_226002; clear HO_233002; clear HO_240002; clear HO247; clear HO254; clear HO261; clear HO268; clear BK209; clear BK218; clear BK225; clear BK232; clear BK239; clear BK249; clear BK256; clear BK263; clear HB; have HO_219002 := n0_; have HO_226002 := n1_; have HO_233002 := n2_; have HO_240002 := n3_; have HO247 := n4_; have HO254 := n5_; have HO261 := n6_; have HO268 := n7_; have BK209 := n8_; have BK218 := n9_; have BK225 := n10_; have BK232 := n11_; have BK239 := n12_; have BK249 := n13_; have BK256 := n14_; have BK263 := n15_; have HB := n16_; have BK270 := n17_; have GW270 := n18_; have GE270 := n19_; have NB209_270 := n20_; have NB270_209 := n21_; have NB218_270 := n22_; have NB270_218 := n23_; have NB225_270 := n24_; have NB270_225 := n25_; have NB232_270 := n26_; have NB270_232 := n27_; have NB239_270 := n28_; have NB270_239 := n29_; have NB249_270 := n30_; have NB270_249 := n31_; have NB256_270 := n32_; have NB270_256 := n33_; have NB263_270 := n34_; have NB270_263 := n35_; clear n0_ n1_ n2_ n3_ n4_ n5_ n6_ n7_ n8_ n9_ n10_ n11_ n12_ n13_ n14_ n15_ n16_ n17_ n18_ n19_ n20_ n21_ n22_ n23_ n24_ n25_ n26_ n27_ n28_ n29_ n30_ n31_ n32_ n33_ n34_ n35_; clear hb hbox hg; have hnb132 := NB270_209.out; have hnc132 := NB209_270.out; have hnb133 := NB270_218.out; have hnc133 := NB218_270.out; have hnb134 := NB270_225.out; have hnc134 := NB225_270.out; have hnb135 := NB270_232.out; have hnc135 := NB232_270.out; have hnb136 := NB270_239.out; have hnc136 := NB239_270.out; have hnb137 := NB270_249.out; have hnc137 := NB249_270.out; have hnb138 := NB270_256.out; have hnc138 := NB256_270.out; have hnb139 := NB270_263.out; have hnc139 := NB263_270.out; have hcz140_0 : w131.cell? ⟨gb270, 0, none⟩ = some (.int .i64 0) := (blk_cell BK270.out 0).trans rfl; have hcz140_1 : w131.cell? ⟨gb270, 1, none⟩ = some (.int .i64 0) := (blk_cell BK270.out 1).trans rfl; have hcz140_2 : w131.cell? ⟨gb270, 2, none⟩ = some (.slice none 0 0) := (blk_cell BK270.out 2).trans rfl; have hfz140_0 := blk_frozen BK270.out 0; have hfz140_1 := blk_frozen BK270.out 1; have hfz140_2 := blk_frozen BK270.out 2; obtain ⟨Ao141, co141, eo141⟩ := Kd.R_slice HO268.out; subst eo141))
            (try simp only [Act.put, List.setIfInBounds_toArray, List.set_cons_zero, List.set_cons_succ])
            go_cut [110] (fun v110 wc => ∃ (kq : Nat) (x110_85 : Bool), v110 = .bool x110_85 ∧ Aside0 (incunablelaw05_BitmapTurns.j1 kq x110_85 a0_0 a0_1 l0_2 t212 t213 t214 t226 t227 t228 t243 t244 t245 t250 t251 t252 t257 t258 t259 t264 t265 t266 = some r) ∧ Aside0 (kq ≤ kj14) ∧ Aside0 (Kd.R (Kd.int .u8) 5 wc w.heap.size (fun k_ => some k_ ≠ ((.slice Ao31 t221.length co31) : Value).ownBlock ∧ some k_ ≠ ((.slice Ao39 t228.length co39) : Value).ownBlock ∧ some k_ ≠ ((.slice Ao48 t235.length co48) : Value).ownBlock ∧ some k_ ≠ ((.slice Ao100 t245.length co100) : Value).ownBlock ∧ some k_ ≠ ((.slice Ao114 t252.length co114) : Value).ownBlock ∧ some k_ ≠ ((.slice Ao126 t259.length co126) : Value).ownBlock ∧ some k_ ≠ ((.slice Ao141 t266.length co141) : Value).ownBlock) (.slice Ao24 t214.length co24) t214) ∧ Aside0 (Kd.R (Kd.int .u8) 5 wc w.heap.size (fun k_ => some k_ ≠ ((.slice Ao24 t214.length co24) : Value).ownBlock ∧ some k_ ≠ ((.slice Ao39 t228.length co39) : Value).ownBlock ∧ some k_ ≠ ((.slice Ao48 t235.length co48) : Value).ownBlock ∧ some k_ ≠ ((.slice Ao100 t245.length co100) : Value).ownBlock ∧ some k_ ≠ ((.slice Ao114 t252.length co114) : Value).ownBlock ∧ some k_ ≠ ((.slice Ao126 t259.length co126) : Value).ownBlock ∧ some k_ ≠ ((.slice Ao141 t266.length co141) : Value).ownBlock) (.slice Ao31 t221.length co31) t221) ∧ Aside0 (Kd.R (Kd.int .u8) 5 wc w.heap.size (fun k_ => some k_ ≠ ((.slice Ao24 t214.length co24) : Value).ownBlock ∧ some k_ ≠ ((.slice Ao31 t221.length co31) : Value).ownBlock ∧ some k_ ≠ ((.slice Ao48 t235.length co48) : Value).ownBlock ∧ some k_ ≠ ((.slice Ao100 t245.length co100) : Value).ownBlock ∧ some k_ ≠ ((.slice Ao114 t252.length co114) : Value).ownBlock ∧ some k_ ≠ ((.slice Ao126 t259.length co126) : Value).ownBlock ∧ some k_ ≠ ((.slice Ao141 t266.length co141) : Value).ownBlock) (.slice Ao39 t228.length co39) t228) ∧ Aside0 (Kd.R (Kd.int .u8) 5 wc w.heap.size (fun k_ => some k_ ≠ ((.slice Ao24 t214.length co24) : Value).ownBlock ∧ some k_ ≠ ((.slice Ao31 t221.length co31) : Value).ownBlock ∧ some k_ ≠ ((.slice Ao39 t228.length co39) : Value).ownBlock ∧ some k_ ≠ ((.slice Ao100 t245.length co100) : Value).ownBlock ∧ some k_ ≠ ((.slice Ao114 t252.length co114) : Value).ownBlock ∧ some k_ ≠ ((.slice Ao126 t259.length co126) : Value).ownBlock ∧ some k_ ≠ ((.slice Ao141 t266.length co141) : Value).ownBlock) (.slice Ao48 t235.length co48) t235) ∧ Aside0 (Kd.R (Kd.int .u8) 5 wc w.heap.size (fun k_ => some k_ ≠ ((.slice Ao24 t214.length co24) : Value).ownBlock ∧ some k_ ≠ ((.slice Ao31 t221.length co31) : Value).ownBlock ∧ some k_ ≠ ((.slice Ao39 t228.length co39) : Value).ownBlock ∧ some k_ ≠ ((.slice Ao48 t235.length co48) : Value).ownBlock ∧ some k_ ≠ ((.slice Ao114 t252.length co114) : Value).ownBlock ∧ some k_ ≠ ((.slice Ao126 t259.length co126) : Value).ownBlock ∧ some k_ ≠ ((.slice Ao141 t266.length co141) : Value).ownBlock) (.slice Ao100 t245.length co100) t245) ∧ Aside0 (Kd.R (Kd.int .u8) 5 wc w.heap.size (fun k_ => some k_ ≠ ((.slice Ao24 t214.length co24) : Value).ownBlock ∧ some k_ ≠ ((.slice Ao31 t221.length co31) : Value).ownBlock ∧ some k_ ≠ ((.slice Ao39 t228.length co39) : Value).ownBlock ∧ some k_ ≠ ((.slice Ao48 t235.length co48) : Value).ownBlock ∧ some k_ ≠ ((.slice Ao100 t245.length co100) : Value).ownBlock ∧ some k_ ≠ ((.slice Ao126 t259.length co126) : Value).ownBlock ∧ some k_ ≠ ((.slice Ao141 t266.length co141) : Value).ownBlock) (.slice Ao114 t252.length co114) t252) ∧ Aside0 (Kd.R (Kd.int .u8) 5 wc w.heap.size (fun k_ => some k_ ≠ ((.slice Ao24 t214.length co24) : Value).ownBlock ∧ some k_ ≠ ((.slice Ao31 t221.length co31) : Value).ownBlock ∧ some k_ ≠ ((.slice Ao39 t228.length co39) : Value).ownBlock ∧ some k_ ≠ ((.slice Ao48 t235.length co48) : Value).ownBlock ∧ some k_ ≠ ((.slice Ao100 t245.length co100) : Value).ownBlock ∧ some k_ ≠ ((.slice Ao114 t252.length co114) : Value).ownBlock ∧ some k_ ≠ ((.slice Ao141 t266.length co141) : Value).ownBlock) (.slice Ao126 t259.length co126) t259) ∧ Aside0 (Kd.R (Kd.int .u8) 5 wc w.heap.size (fun k_ => some k_ ≠ ((.slice Ao24 t214.length co24) : Value).ownBlock ∧ some k_ ≠ ((.slice Ao31 t221.length co31) : Value).ownBlock ∧ some k_ ≠ ((.slice Ao39 t228.length co39) : Value).ownBlock ∧ some k_ ≠ ((.slice Ao48 t235.length co48) : Value).ownBlock ∧ some k_ ≠ ((.slice Ao100 t245.length co100) : Value).ownBlock ∧ some k_ ≠ ((.slice Ao114 t252.length co114) : Value).ownBlock ∧ some k_ ≠ ((.slice Ao126 t259.length co126) : Value).ownBlock) (.slice Ao141 t266.length co141) t266) ∧ Aside0 (wc.heap[gb209]? = some (.cells #[.int .i64 a0_0, .int .i64 a0_1, (.slice A0_2 l0_2.length c0_2)] 24 (0, 0))) ∧ Aside0 (wc.heap[gb218]? = some (.cells #[.int .i64 t212, .int .i64 t213, (.slice Ao24 t214.length co24)] 24 (0, 0))) ∧ Aside0 (wc.heap[gb225]? = some (.cells #[.int .i64 t219, .int .i64 t220, (.slice Ao31 t221.length co31)] 24 (0, 0))) ∧ Aside0 (wc.heap[gb232]? = some (.cells #[.int .i64 t226, .int .i64 t227, (.slice Ao39 t228.length co39)] 24 (0, 0))) ∧ Aside0 (wc.heap[gb239]? = some (.cells #[.int .i64 t233, .int .i64 t234, (.slice Ao48 t235.length co48)] 24 (0, 0))) ∧ Aside0 (wc.heap[gb249]? = some (.cells #[.int .i64 t243, .int .i64 t244, (.slice Ao100 t245.length co100)] 24 (0, 0))) ∧ Aside0 (wc.heap[gb256]? = some (.cells #[.int .i64 t250, .int .i64 t251, (.slice Ao114 t252.length co114)] 24 (0, 0))) ∧ Aside0 (wc.heap[gb263]? = some (.cells #[.int .i64 t257, .int .i64 t258, (.slice Ao126 t259.length co126)] 24 (0, 0))) ∧ Aside0 (wc.heap[gb270]? = some (.cells #[.int .i64 t264, .int .i64 t265, (.slice Ao141 t266.length co141)] 24 (0, 0))) ∧ Aside0 (Below w.heap.size w wc))
            case first =>
              have H := HC86.out
              clear HC86
              by_cases c142 : t248 = 0
              · rw [if_pos c142] at H
                have c142b0 : (t248 == 0) = true := beq_iff_eq.mpr c142
                have c142b1 : (t248 != 0) = false := bne_eq_false_iff_eq.mpr c142
                clear c142
                (first | rw [c142b0] | (simp only [i64_w, i32_w]; rw [c142b0]) | skip)
                by_cases c143 : t255 = 0
                · rw [if_pos c143] at H
                  have c143b0 : (t255 == 0) = true := beq_iff_eq.mpr c143
                  have c143b1 : (t255 != 0) = false := bne_eq_false_iff_eq.mpr c143
                  clear c143
                  by_cases c144 : t262 = 0
                  · rw [if_pos c144] at H
                    have c144b0 : (t262 == 0) = true := beq_iff_eq.mpr c144
                    have c144b1 : (t262 != 0) = false := bne_eq_false_iff_eq.mpr c144
                    clear c144
                    have H' := Aside0.mk H
                    clear H
                    go_wp2
                    go_meet
                    case rel => exact ⟨_, ((t269 != 0)), (by first | rfl | (simp; done) | (simp [*]; done)), H', ⟨by have := HJ14.out; first | omega | exact Nat.le_refl _⟩, ⟨by (with_reducible repeat (first | apply Kd.R_alloc | apply Kd.R_drewN | apply Kd.R_drew)); exact Kd.R_mono (Kd.R_far (p := ⟨gb270, 2, none⟩) (Kd.R_far (p := ⟨gb270, 1, none⟩) (Kd.R_far (p := ⟨gb270, 0, none⟩) (Kd.R_types HO_219002.out BK270.out (by decide)) (fun _ hk => hk.2) (.int .i64 t264)) (fun _ hk => hk.2) (.int .i64 t265)) (fun _ hk => hk.2) (.slice Ao141 t266.length co141)) (fun _ hk => ⟨hk.1.1.1.1.1.1, ⟨hk.1.1.1.1.1.2.1, ⟨hk.1.1.1.1.1.2.2, ⟨hk.1.1.1.1.2, ⟨hk.1.1.1.2, ⟨hk.1.1.2, hk.1.2⟩⟩⟩⟩⟩⟩)⟩, ⟨by (with_reducible repeat (first | apply Kd.R_alloc | apply Kd.R_drewN | apply Kd.R_drew)); exact Kd.R_mono (Kd.R_far (p := ⟨gb270, 2, none⟩) (Kd.R_far (p := ⟨gb270, 1, none⟩) (Kd.R_far (p := ⟨gb270, 0, none⟩) (Kd.R_types HO_226002.out BK270.out (by decide)) (fun _ hk => hk.2) (.int .i64 t264)) (fun _ hk => hk.2) (.int .i64 t265)) (fun _ hk => hk.2) (.slice Ao141 t266.length co141)) (fun _ hk => ⟨hk.1.1.1.1.1.1, ⟨hk.1.1.1.1.1.2.1, ⟨hk.1.1.1.1.1.2.2, ⟨hk.1.1.1.1.2, ⟨hk.1.1.1.2, ⟨hk.1.1.2, hk.1.2⟩⟩⟩⟩⟩⟩)⟩, ⟨by (with_reducible repeat (first | apply Kd.R_alloc | apply Kd.R_drewN | apply Kd.R_drew)); exact Kd.R_mono (Kd.R_far (p := ⟨gb270, 2, none⟩) (Kd.R_far (p := ⟨gb270, 1, none⟩) (Kd.R_far (p := ⟨gb270, 0, none⟩) (Kd.R_types HO_233002.out BK270.out (by decide)) (fun _ hk => hk.2) (.int .i64 t264)) (fun _ hk => hk.2) (.int .i64 t265)) (fun _ hk => hk.2) (.slice Ao141 t266.length co141)) (fun _ hk => ⟨hk.1.1.1.1.1.1, ⟨hk.1.1.1.1.1.2.1, ⟨hk.1.1.1.1.1.2.2, ⟨hk.1.1.1.1.2, ⟨hk.1.1.1.2, ⟨hk.1.1.2, hk.1.2⟩⟩⟩⟩⟩⟩)⟩, ⟨by (with_reducible repeat (first | apply Kd.R_alloc | apply Kd.R_drewN | apply Kd.R_drew)); exact Kd.R_mono (Kd.R_far (p := ⟨gb270, 2, none⟩) (Kd.R_far (p := ⟨gb270, 1, none⟩) (Kd.R_far (p := ⟨gb270, 0, none⟩) (Kd.R_types HO_240002.out BK270.out (by decide)) (fun _ hk => hk.2) (.int .i64 t264)) (fun _ hk => hk.2) (.int .i64 t265)) (fun _ hk => hk.2) (.slice Ao141 t266.length co141)) (fun _ hk => ⟨hk.1.1.1.1.1.1, ⟨hk.1.1.1.1.1.2.1, ⟨hk.1.1.1.1.1.2.2, ⟨hk.1.1.1.1.2, ⟨hk.1.1.1.2, ⟨hk.1.1.2, hk.1.2⟩⟩⟩⟩⟩⟩)⟩, ⟨by (with_reducible repeat (first | apply Kd.R_alloc | apply Kd.R_drewN | apply Kd.R_drew)); exact Kd.R_mono (Kd.R_far (p := ⟨gb270, 2, none⟩) (Kd.R_far (p := ⟨gb270, 1, none⟩) (Kd.R_far (p := ⟨gb270, 0, none⟩) (Kd.R_types HO247.out BK270.out (by decide)) (fun _ hk => hk.2) (.int .i64 t264)) (fun _ hk => hk.2) (.int .i64 t265)) (fun _ hk => hk.2) (.slice Ao141 t266.length co141)) (fun _ hk => ⟨hk.1.1.1.1.1.1.1.2, ⟨hk.1.1.1.1.1.1.2, ⟨hk.1.1.1.1.1.2, ⟨hk.1.1.1.1.2, ⟨hk.1.1.1.2, ⟨hk.1.1.2, hk.1.2⟩⟩⟩⟩⟩⟩)⟩, ⟨by (with_reducible repeat (first | apply Kd.R_alloc | apply Kd.R_drewN | apply Kd.R_drew)); exact Kd.R_mono (Kd.R_far (p := ⟨gb270, 2, none⟩) (Kd.R_far (p := ⟨gb270, 1, none⟩) (Kd.R_far (p := ⟨gb270, 0, none⟩) (Kd.R_types HO254.out BK270.out (by decide)) (fun _ hk => hk.2) (.int .i64 t264)) (fun _ hk => hk.2) (.int .i64 t265)) (fun _ hk => hk.2) (.slice Ao141 t266.length co141)) (fun _ hk => ⟨hk.1.1.1.1.1.1.1.2, ⟨hk.1.1.1.1.1.1.2, ⟨hk.1.1.1.1.1.2, ⟨hk.1.1.1.1.2, ⟨hk.1.1.1.2, ⟨hk.1.1.2, hk.1.2⟩⟩⟩⟩⟩⟩)⟩, ⟨by (with_reducible repeat (first | apply Kd.R_alloc | apply Kd.R_drewN | apply Kd.R_drew)); exact Kd.R_mono (Kd.R_far (p := ⟨gb270, 2, none⟩) (Kd.R_far (p := ⟨gb270, 1, none⟩) (Kd.R_far (p := ⟨gb270, 0, none⟩) (Kd.R_types HO261.out BK270.out (by decide)) (fun _ hk => hk.2) (.int .i64 t264)) (fun _ hk => hk.2) (.int .i64 t265)) (fun _ hk => hk.2) (.slice Ao141 t266.length co141)) (fun _ hk => ⟨hk.1.1.1.1.1.1.1.2, ⟨hk.1.1.1.1.1.1.2, ⟨hk.1.1.1.1.1.2, ⟨hk.1.1.1.1.2, ⟨hk.1.1.1.2, ⟨hk.1.1.2, hk.1.2⟩⟩⟩⟩⟩⟩)⟩, ⟨by (with_reducible repeat (first | apply Kd.R_alloc | apply Kd.R_drewN | apply Kd.R_drew)); exact Kd.R_mono (Kd.R_far (p := ⟨gb270, 2, none⟩) (Kd.R_far (p := ⟨gb270, 1, none⟩) (Kd.R_far (p := ⟨gb270, 0, none⟩) (Kd.R_types HO268.out BK270.out (by decide)) (fun _ hk => hk.2) (.int .i64 t264)) (fun _ hk => hk.2) (.int .i64 t265)) (fun _ hk => hk.2) (.slice Ao141 t266.length co141)) (fun _ hk => ⟨hk.1.1.1.1.1.1.1.2, ⟨hk.1.1.1.1.1.1.2, ⟨hk.1.1.1.1.1.2, ⟨hk.1.1.1.1.2, ⟨hk.1.1.1.2, ⟨hk.1.1.2, hk.1.2⟩⟩⟩⟩⟩⟩)⟩, ⟨by refine bF ?_ ?_; exact NB209_270.out; refine bF ?_ ?_; exact NB209_270.out; refine bF ?_ ?_; exact NB209_270.out; exact bU BK209.out⟩, ⟨by refine bF ?_ ?_; exact NB218_270.out; refine bF ?_ ?_; exact NB218_270.out; refine bF ?_ ?_; exact NB218_270.out; exact bU BK218.out⟩, ⟨by refine bF ?_ ?_; exact NB225_270.out; refine bF ?_ ?_; exact NB225_270.out; refine bF ?_ ?_; exact NB225_270.out; exact bU BK225.out⟩, ⟨by refine bF ?_ ?_; exact NB232_270.out; refine bF ?_ ?_; exact NB232_270.out; refine bF ?_ ?_; exact NB232_270.out; exact bU BK232.out⟩, ⟨by refine bF ?_ ?_; exact NB239_270.out; refine bF ?_ ?_; exact NB239_270.out; refine bF ?_ ?_; exact NB239_270.out; exact bU BK239.out⟩, ⟨by refine bF ?_ ?_; exact NB249_270.out; refine bF ?_ ?_; exact NB249_270.out; refine bF ?_ ?_; exact NB249_270.out; exact bU BK249.out⟩, ⟨by refine bF ?_ ?_; exact NB256_270.out; refine bF ?_ ?_; exact NB256_270.out; refine bF ?_ ?_; exact NB256_270.out; exact bU BK256.out⟩, ⟨by refine bF ?_ ?_; exact NB263_270.out; refine bF ?_ ?_; exact NB263_270.out; refine bF ?_ ?_; exact NB263_270.out; exact bU BK263.out⟩, ⟨by (with_reducible repeat (first | refine blk_drewN ?_ _ | refine blk_drew ?_ | refine blk_alloc ?_ _)); refine blk_put (cs := #[.int .i64 t264, .int .i64 t265, .slice none 0 0]) ?_ 2 _ rfl; (with_reducible repeat (first | refine blk_drewN ?_ _ | refine blk_drew ?_ | refine blk_alloc ?_ _)); refine blk_put (cs := #[.int .i64 t264, .int .i64 0, .slice none 0 0]) ?_ 1 _ rfl; (with_reducible repeat (first | refine blk_drewN ?_ _ | refine blk_drew ?_ | refine blk_alloc ?_ _)); refine blk_put (cs := #[.int .i64 0, .int .i64 0, .slice none 0 0]) ?_ 0 _ rfl; exact bU BK270.out⟩, ⟨by repeat (first | (with_reducible first | exact HB.out | apply below_alloc | apply pw_below_drewN | apply below_drew1 | refine below_set ?_ GE209.out | refine below_set ?_ GE218.out | refine below_set ?_ GE225.out | refine below_set ?_ GE232.out | refine below_set ?_ GE239.out | refine below_set ?_ GE249.out | refine below_set ?_ GE256.out | refine below_set ?_ GE263.out | refine below_set ?_ GE270.out) | exact HB.out)⟩⟩
                  · rw [if_neg c144] at H
                    have c144b0 : (t262 == 0) = false := beq_eq_false_iff_ne.mpr c144
                    have c144b1 : (t262 != 0) = true := bne_iff_ne.mpr c144
                    have H' := Aside0.mk H
                    clear H
                    go_wp2
                    go_meet
                    case rel => exact ⟨_, (true), (by first | rfl | (simp; done) | (simp [*]; done)), H', ⟨by have := HJ14.out; first | omega | exact Nat.le_refl _⟩, ⟨by (with_reducible repeat (first | apply Kd.R_alloc | apply Kd.R_drewN | apply Kd.R_drew)); exact Kd.R_mono (Kd.R_far (p := ⟨gb270, 2, none⟩) (Kd.R_far (p := ⟨gb270, 1, none⟩) (Kd.R_far (p := ⟨gb270, 0, none⟩) (Kd.R_types HO_219002.out BK270.out (by decide)) (fun _ hk => hk.2) (.int .i64 t264)) (fun _ hk => hk.2) (.int .i64 t265)) (fun _ hk => hk.2) (.slice Ao141 t266.length co141)) (fun _ hk => ⟨hk.1.1.1.1.1.1, ⟨hk.1.1.1.1.1.2.1, ⟨hk.1.1.1.1.1.2.2, ⟨hk.1.1.1.1.2, ⟨hk.1.1.1.2, ⟨hk.1.1.2, hk.1.2⟩⟩⟩⟩⟩⟩)⟩, ⟨by (with_reducible repeat (first | apply Kd.R_alloc | apply Kd.R_drewN | apply Kd.R_drew)); exact Kd.R_mono (Kd.R_far (p := ⟨gb270, 2, none⟩) (Kd.R_far (p := ⟨gb270, 1, none⟩) (Kd.R_far (p := ⟨gb270, 0, none⟩) (Kd.R_types HO_226002.out BK270.out (by decide)) (fun _ hk => hk.2) (.int .i64 t264)) (fun _ hk => hk.2) (.int .i64 t265)) (fun _ hk => hk.2) (.slice Ao141 t266.length co141)) (fun _ hk => ⟨hk.1.1.1.1.1.1, ⟨hk.1.1.1.1.1.2.1, ⟨hk.1.1.1.1.1.2.2, ⟨hk.1.1.1.1.2, ⟨hk.1.1.1.2, ⟨hk.1.1.2, hk.1.2⟩⟩⟩⟩⟩⟩)⟩, ⟨by (with_reducible repeat (first | apply Kd.R_alloc | apply Kd.R_drewN | apply Kd.R_drew)); exact Kd.R_mono (Kd.R_far (p := ⟨gb270, 2, none⟩) (Kd.R_far (p := ⟨gb270, 1, none⟩) (Kd.R_far (p := ⟨gb270, 0, none⟩) (Kd.R_types HO_233002.out BK270.out (by decide)) (fun _ hk => hk.2) (.int .i64 t264)) (fun _ hk => hk.2) (.int .i64 t265)) (fun _ hk => hk.2) (.slice Ao141 t266.length co141)) (fun _ hk => ⟨hk.1.1.1.1.1.1, ⟨hk.1.1.1.1.1.2.1, ⟨hk.1.1.1.1.1.2.2, ⟨hk.1.1.1.1.2, ⟨hk.1.1.1.2, ⟨hk.1.1.2, hk.1.2⟩⟩⟩⟩⟩⟩)⟩, ⟨by (with_reducible repeat (first | apply Kd.R_alloc | apply Kd.R_drewN | apply Kd.R_drew)); exact Kd.R_mono (Kd.R_far (p := ⟨gb270, 2, none⟩) (Kd.R_far (p := ⟨gb270, 1, none⟩) (Kd.R_far (p := ⟨gb270, 0, none⟩) (Kd.R_types HO_240002.out BK270.out (by decide)) (fun _ hk => hk.2) (.int .i64 t264)) (fun _ hk => hk.2) (.int .i64 t265)) (fun _ hk => hk.2) (.slice Ao141 t266.length co141)) (fun _ hk => ⟨hk.1.1.1.1.1.1, ⟨hk.1.1.1.1.1.2.1, ⟨hk.1.1.1.1.1.2.2, ⟨hk.1.1.1.1.2, ⟨hk.1.1.1.2, ⟨hk.1.1.2, hk.1.2⟩⟩⟩⟩⟩⟩)⟩, ⟨by (with_reducible repeat (first | apply Kd.R_alloc | apply Kd.R_drewN | apply Kd.R_drew)); exact Kd.R_mono (Kd.R_far (p := ⟨gb270, 2, none⟩) (Kd.R_far (p := ⟨gb270, 1, none⟩) (Kd.R_far (p := ⟨gb270, 0, none⟩) (Kd.R_types HO247.out BK270.out (by decide)) (fun _ hk => hk.2) (.int .i64 t264)) (fun _ hk => hk.2) (.int .i64 t265)) (fun _ hk => hk.2) (.slice Ao141 t266.length co141)) (fun _ hk => ⟨hk.1.1.1.1.1.1.1.2, ⟨hk.1.1.1.1.1.1.2, ⟨hk.1.1.1.1.1.2, ⟨hk.1.1.1.1.2, ⟨hk.1.1.1.2, ⟨hk.1.1.2, hk.1.2⟩⟩⟩⟩⟩⟩)⟩, ⟨by (with_reducible repeat (first | apply Kd.R_alloc | apply Kd.R_drewN | apply Kd.R_drew)); exact Kd.R_mono (Kd.R_far (p := ⟨gb270, 2, none⟩) (Kd.R_far (p := ⟨gb270, 1, none⟩) (Kd.R_far (p := ⟨gb270, 0, none⟩) (Kd.R_types HO254.out BK270.out (by decide)) (fun _ hk => hk.2) (.int .i64 t264)) (fun _ hk => hk.2) (.int .i64 t265)) (fun _ hk => hk.2) (.slice Ao141 t266.length co141)) (fun _ hk => ⟨hk.1.1.1.1.1.1.1.2, ⟨hk.1.1.1.1.1.1.2, ⟨hk.1.1.1.1.1.2, ⟨hk.1.1.1.1.2, ⟨hk.1.1.1.2, ⟨hk.1.1.2, hk.1.2⟩⟩⟩⟩⟩⟩)⟩, ⟨by (with_reducible repeat (first | apply Kd.R_alloc | apply Kd.R_drewN | apply Kd.R_drew)); exact Kd.R_mono (Kd.R_far (p := ⟨gb270, 2, none⟩) (Kd.R_far (p := ⟨gb270, 1, none⟩) (Kd.R_far (p := ⟨gb270, 0, none⟩) (Kd.R_types HO261.out BK270.out (by decide)) (fun _ hk => hk.2) (.int .i64 t264)) (fun _ hk => hk.2) (.int .i64 t265)) (fun _ hk => hk.2) (.slice Ao141 t266.length co141)) (fun _ hk => ⟨hk.1.1.1.1.1.1.1.2, ⟨hk.1.1.1.1.1.1.2, ⟨hk.1.1.1.1.1.2, ⟨hk.1.1.1.1.2, ⟨hk.1.1.1.2, ⟨hk.1.1.2, hk.1.2⟩⟩⟩⟩⟩⟩)⟩, ⟨by (with_reducible repeat (first | apply Kd.R_alloc | apply Kd.R_drewN | apply Kd.R_drew)); exact Kd.R_mono (Kd.R_far (p := ⟨gb270, 2, none⟩) (Kd.R_far (p := ⟨gb270, 1, none⟩) (Kd.R_far (p := ⟨gb270, 0, none⟩) (Kd.R_types HO268.out BK270.out (by decide)) (fun _ hk => hk.2) (.int .i64 t264)) (fun _ hk => hk.2) (.int .i64 t265)) (fun _ hk => hk.2) (.slice Ao141 t266.length co141)) (fun _ hk => ⟨hk.1.1.1.1.1.1.1.2, ⟨hk.1.1.1.1.1.1.2, ⟨hk.1.1.1.1.1.2, ⟨hk.1.1.1.1.2, ⟨hk.1.1.1.2, ⟨hk.1.1.2, hk.1.2⟩⟩⟩⟩⟩⟩)⟩, ⟨by refine bF ?_ ?_; exact NB209_270.out; refine bF ?_ ?_; exact NB209_270.out; refine bF ?_ ?_; exact NB209_270.out; exact bU BK209.out⟩, ⟨by refine bF ?_ ?_; exact NB218_270.out; refine bF ?_ ?_; exact NB218_270.out; refine bF ?_ ?_; exact NB218_270.out; exact bU BK218.out⟩, ⟨by refine bF ?_ ?_; exact NB225_270.out; refine bF ?_ ?_; exact NB225_270.out; refine bF ?_ ?_; exact NB225_270.out; exact bU BK225.out⟩, ⟨by refine bF ?_ ?_; exact NB232_270.out; refine bF ?_ ?_; exact NB232_270.out; refine bF ?_ ?_; exact NB232_270.out; exact bU BK232.out⟩, ⟨by refine bF ?_ ?_; exact NB239_270.out; refine bF ?_ ?_; exact NB239_270.out; refine bF ?_ ?_; exact NB239_270.out; exact bU BK239.out⟩, ⟨by refine bF ?_ ?_; exact NB249_270.out; refine bF ?_ ?_; exact NB249_270.out; refine bF ?_ ?_; exact NB249_270.out; exact bU BK249.out⟩, ⟨by refine bF ?_ ?_; exact NB256_270.out; refine bF ?_ ?_; exact NB256_270.out; refine bF ?_ ?_; exact NB256_270.out; exact bU BK256.out⟩, ⟨by refine bF ?_ ?_; exact NB263_270.out; refine bF ?_ ?_; exact NB263_270.out; refine bF ?_ ?_; exact NB263_270.out; exact bU BK263.out⟩, ⟨by (with_reducible repeat (first | refine blk_drewN ?_ _ | refine blk_drew ?_ | refine blk_alloc ?_ _)); refine blk_put (cs := #[.int .i64 t264, .int .i64 t265, .slice none 0 0]) ?_ 2 _ rfl; (with_reducible repeat (first | refine blk_drewN ?_ _ | refine blk_drew ?_ | refine blk_alloc ?_ _)); refine blk_put (cs := #[.int .i64 t264, .int .i64 0, .slice none 0 0]) ?_ 1 _ rfl; (with_reducible repeat (first | refine blk_drewN ?_ _ | refine blk_drew ?_ | refine blk_alloc ?_ _)); refine blk_put (cs := #[.int .i64 0, .int .i64 0, .slice none 0 0]) ?_ 0 _ rfl; exact bU BK270.out⟩, ⟨by repeat (first | (with_reducible first | exact HB.out | apply below_alloc | apply pw_below_drewN | apply below_drew1 | refine below_set ?_ GE209.out | refine below_set ?_ GE218.out | refine below_set ?_ GE225.out | refine below_set ?_ GE232.out | refine below_set ?_ GE239.out | refine below_set ?_ GE249.out | refine below_set ?_ GE256.out | refine below_set ?_ GE263.out | refine below_set ?_ GE270.out) | exact HB.out)⟩⟩
                · rw [if_neg c143] at H
                  have c143b0 : (t255 == 0) = false := beq_eq_false_iff_ne.mpr c143
                  have c143b1 : (t255 != 0) = true := bne_iff_ne.mpr c143
                  have H' := Aside0.mk H
                  clear H
                  go_wp2
                  go_meet
                  case rel => exact ⟨_, (true), (by first | rfl | (simp; done) | (simp [*]; done)), H', ⟨by have := HJ14.out; first | omega | exact Nat.le_refl _⟩, ⟨by (with_reducible repeat (first | apply Kd.R_alloc | apply Kd.R_drewN | apply Kd.R_drew)); exact Kd.R_mono (Kd.R_far (p := ⟨gb270, 2, none⟩) (Kd.R_far (p := ⟨gb270, 1, none⟩) (Kd.R_far (p := ⟨gb270, 0, none⟩) (Kd.R_types HO_219002.out BK270.out (by decide)) (fun _ hk => hk.2) (.int .i64 t264)) (fun _ hk => hk.2) (.int .i64 t265)) (fun _ hk => hk.2) (.slice Ao141 t266.length co141)) (fun _ hk => ⟨hk.1.1.1.1.1.1, ⟨hk.1.1.1.1.1.2.1, ⟨hk.1.1.1.1.1.2.2, ⟨hk.1.1.1.1.2, ⟨hk.1.1.1.2, ⟨hk.1.1.2, hk.1.2⟩⟩⟩⟩⟩⟩)⟩, ⟨by (with_reducible repeat (first | apply Kd.R_alloc | apply Kd.R_drewN | apply Kd.R_drew)); exact Kd.R_mono (Kd.R_far (p := ⟨gb270, 2, none⟩) (Kd.R_far (p := ⟨gb270, 1, none⟩) (Kd.R_far (p := ⟨gb270, 0, none⟩) (Kd.R_types HO_226002.out BK270.out (by decide)) (fun _ hk => hk.2) (.int .i64 t264)) (fun _ hk => hk.2) (.int .i64 t265)) (fun _ hk => hk.2) (.slice Ao141 t266.length co141)) (fun _ hk => ⟨hk.1.1.1.1.1.1, ⟨hk.1.1.1.1.1.2.1, ⟨hk.1.1.1.1.1.2.2, ⟨hk.1.1.1.1.2, ⟨hk.1.1.1.2, ⟨hk.1.1.2, hk.1.2⟩⟩⟩⟩⟩⟩)⟩, ⟨by (with_reducible repeat (first | apply Kd.R_alloc | apply Kd.R_drewN | apply Kd.R_drew)); exact Kd.R_mono (Kd.R_far (p := ⟨gb270, 2, none⟩) (Kd.R_far (p := ⟨gb270, 1, none⟩) (Kd.R_far (p := ⟨gb270, 0, none⟩) (Kd.R_types HO_233002.out BK270.out (by decide)) (fun _ hk => hk.2) (.int .i64 t264)) (fun _ hk => hk.2) (.int .i64 t265)) (fun _ hk => hk.2) (.slice Ao141 t266.length co141)) (fun _ hk => ⟨hk.1.1.1.1.1.1, ⟨hk.1.1.1.1.1.2.1, ⟨hk.1.1.1.1.1.2.2, ⟨hk.1.1.1.1.2, ⟨hk.1.1.1.2, ⟨hk.1.1.2, hk.1.2⟩⟩⟩⟩⟩⟩)⟩, ⟨by (with_reducible repeat (first | apply Kd.R_alloc | apply Kd.R_drewN | apply Kd.R_drew)); exact Kd.R_mono (Kd.R_far (p := ⟨gb270, 2, none⟩) (Kd.R_far (p := ⟨gb270, 1, none⟩) (Kd.R_far (p := ⟨gb270, 0, none⟩) (Kd.R_types HO_240002.out BK270.out (by decide)) (fun _ hk => hk.2) (.int .i64 t264)) (fun _ hk => hk.2) (.int .i64 t265)) (fun _ hk => hk.2) (.slice Ao141 t266.length co141)) (fun _ hk => ⟨hk.1.1.1.1.1.1, ⟨hk.1.1.1.1.1.2.1, ⟨hk.1.1.1.1.1.2.2, ⟨hk.1.1.1.1.2, ⟨hk.1.1.1.2, ⟨hk.1.1.2, hk.1.2⟩⟩⟩⟩⟩⟩)⟩, ⟨by (with_reducible repeat (first | apply Kd.R_alloc | apply Kd.R_drewN | apply Kd.R_drew)); exact Kd.R_mono (Kd.R_far (p := ⟨gb270, 2, none⟩) (Kd.R_far (p := ⟨gb270, 1, none⟩) (Kd.R_far (p := ⟨gb270, 0, none⟩) (Kd.R_types HO247.out BK270.out (by decide)) (fun _ hk => hk.2) (.int .i64 t264)) (fun _ hk => hk.2) (.int .i64 t265)) (fun _ hk => hk.2) (.slice Ao141 t266.length co141)) (fun _ hk => ⟨hk.1.1.1.1.1.1.1.2, ⟨hk.1.1.1.1.1.1.2, ⟨hk.1.1.1.1.1.2, ⟨hk.1.1.1.1.2, ⟨hk.1.1.1.2, ⟨hk.1.1.2, hk.1.2⟩⟩⟩⟩⟩⟩)⟩, ⟨by (with_reducible repeat (first | apply Kd.R_alloc | apply Kd.R_drewN | apply Kd.R_drew)); exact Kd.R_mono (Kd.R_far (p := ⟨gb270, 2, none⟩) (Kd.R_far (p := ⟨gb270, 1, none⟩) (Kd.R_far (p := ⟨gb270, 0, none⟩) (Kd.R_types HO254.out BK270.out (by decide)) (fun _ hk => hk.2) (.int .i64 t264)) (fun _ hk => hk.2) (.int .i64 t265)) (fun _ hk => hk.2) (.slice Ao141 t266.length co141)) (fun _ hk => ⟨hk.1.1.1.1.1.1.1.2, ⟨hk.1.1.1.1.1.1.2, ⟨hk.1.1.1.1.1.2, ⟨hk.1.1.1.1.2, ⟨hk.1.1.1.2, ⟨hk.1.1.2, hk.1.2⟩⟩⟩⟩⟩⟩)⟩, ⟨by (with_reducible repeat (first | apply Kd.R_alloc | apply Kd.R_drewN | apply Kd.R_drew)); exact Kd.R_mono (Kd.R_far (p := ⟨gb270, 2, none⟩) (Kd.R_far (p := ⟨gb270, 1, none⟩) (Kd.R_far (p := ⟨gb270, 0, none⟩) (Kd.R_types HO261.out BK270.out (by decide)) (fun _ hk => hk.2) (.int .i64 t264)) (fun _ hk => hk.2) (.int .i64 t265)) (fun _ hk => hk.2) (.slice Ao141 t266.length co141)) (fun _ hk => ⟨hk.1.1.1.1.1.1.1.2, ⟨hk.1.1.1.1.1.1.2, ⟨hk.1.1.1.1.1.2, ⟨hk.1.1.1.1.2, ⟨hk.1.1.1.2, ⟨hk.1.1.2, hk.1.2⟩⟩⟩⟩⟩⟩)⟩, ⟨by (with_reducible repeat (first | apply Kd.R_alloc | apply Kd.R_drewN | apply Kd.R_drew)); exact Kd.R_mono (Kd.R_far (p := ⟨gb270, 2, none⟩) (Kd.R_far (p := ⟨gb270, 1, none⟩) (Kd.R_far (p := ⟨gb270, 0, none⟩) (Kd.R_types HO268.out BK270.out (by decide)) (fun _ hk => hk.2) (.int .i64 t264)) (fun _ hk => hk.2) (.int .i64 t265)) (fun _ hk => hk.2) (.slice Ao141 t266.length co141)) (fun _ hk => ⟨hk.1.1.1.1.1.1.1.2, ⟨hk.1.1.1.1.1.1.2, ⟨hk.1.1.1.1.1.2, ⟨hk.1.1.1.1.2, ⟨hk.1.1.1.2, ⟨hk.1.1.2, hk.1.2⟩⟩⟩⟩⟩⟩)⟩, ⟨by refine bF ?_ ?_; exact NB209_270.out; refine bF ?_ ?_; exact NB209_270.out; refine bF ?_ ?_; exact NB209_270.out; exact bU BK209.out⟩, ⟨by refine bF ?_ ?_; exact NB218_270.out; refine bF ?_ ?_; exact NB218_270.out; refine bF ?_ ?_; exact NB218_270.out; exact bU BK218.out⟩, ⟨by refine bF ?_ ?_; exact NB225_270.out; refine bF ?_ ?_; exact NB225_270.out; refine bF ?_ ?_; exact NB225_270.out; exact bU BK225.out⟩, ⟨by refine bF ?_ ?_; exact NB232_270.out; refine bF ?_ ?_; exact NB232_270.out; refine bF ?_ ?_; exact NB232_270.out; exact bU BK232.out⟩, ⟨by refine bF ?_ ?_; exact NB239_270.out; refine bF ?_ ?_; exact NB239_270.out; refine bF ?_ ?_; exact NB239_270.out; exact bU BK239.out⟩, ⟨by refine bF ?_ ?_; exact NB249_270.out; refine bF ?_ ?_; exact NB249_270.out; refine bF ?_ ?_; exact NB249_270.out; exact bU BK249.out⟩, ⟨by refine bF ?_ ?_; exact NB256_270.out; refine bF ?_ ?_; exact NB256_270.out; refine bF ?_ ?_; exact NB256_270.out; exact bU BK256.out⟩, ⟨by refine bF ?_ ?_; exact NB263_270.out; refine bF ?_ ?_; exact NB263_270.out; refine bF ?_ ?_; exact NB263_270.out; exact bU BK263.out⟩, ⟨by (with_reducible repeat (first | refine blk_drewN ?_ _ | refine blk_drew ?_ | refine blk_alloc ?_ _)); refine blk_put (cs := #[.int .i64 t264, .int .i64 t265, .slice none 0 0]) ?_ 2 _ rfl; (with_reducible repeat (first | refine blk_drewN ?_ _ | refine blk_drew ?_ | refine blk_alloc ?_ _)); refine blk_put (cs := #[.int .i64 t264, .int .i64 0, .slice none 0 0]) ?_ 1 _ rfl; (with_reducible repeat (first | refine blk_drewN ?_ _ | refine blk_drew ?_ | refine blk_alloc ?_ _)); refine blk_put (cs := #[.int .i64 0, .int .i64 0, .slice none 0 0]) ?_ 0 _ rfl; exact bU BK270.out⟩, ⟨by repeat (first | (with_reducible first | exact HB.out | apply below_alloc | apply pw_below_drewN | apply below_drew1 | refine below_set ?_ GE209.out | refine below_set ?_ GE218.out | refine below_set ?_ GE225.out | refine below_set ?_ GE232.out | refine below_set ?_ GE239.out | refine below_set ?_ GE249.out | refine below_set ?_ GE256.out | refine below_set ?_ GE263.out | refine below_set ?_ GE270.out) | exact HB.out)⟩⟩
              · rw [if_neg c142] at H
                have c142b0 : (t248 == 0) = false := beq_eq_false_iff_ne.mpr c142
                have c142b1 : (t248 != 0) = true := bne_iff_ne.mpr c142
                (first | rw [c142b0] | (simp only [i64_w, i32_w]; rw [c142b0]) | skip)
                have H' := Aside0.mk H
                clear H
                go_wp2
                go_meet
                case rel => exact ⟨_, (true), (by first | rfl | (simp; done) | (simp [*]; done)), H', ⟨by have := HJ14.out; first | omega | exact Nat.le_refl _⟩, ⟨by (with_reducible repeat (first | apply Kd.R_alloc | apply Kd.R_drewN | apply Kd.R_drew)); exact Kd.R_mono (Kd.R_far (p := ⟨gb270, 2, none⟩) (Kd.R_far (p := ⟨gb270, 1, none⟩) (Kd.R_far (p := ⟨gb270, 0, none⟩) (Kd.R_types HO_219002.out BK270.out (by decide)) (fun _ hk => hk.2) (.int .i64 t264)) (fun _ hk => hk.2) (.int .i64 t265)) (fun _ hk => hk.2) (.slice Ao141 t266.length co141)) (fun _ hk => ⟨hk.1.1.1.1.1.1, ⟨hk.1.1.1.1.1.2.1, ⟨hk.1.1.1.1.1.2.2, ⟨hk.1.1.1.1.2, ⟨hk.1.1.1.2, ⟨hk.1.1.2, hk.1.2⟩⟩⟩⟩⟩⟩)⟩, ⟨by (with_reducible repeat (first | apply Kd.R_alloc | apply Kd.R_drewN | apply Kd.R_drew)); exact Kd.R_mono (Kd.R_far (p := ⟨gb270, 2, none⟩) (Kd.R_far (p := ⟨gb270, 1, none⟩) (Kd.R_far (p := ⟨gb270, 0, none⟩) (Kd.R_types HO_226002.out BK270.out (by decide)) (fun _ hk => hk.2) (.int .i64 t264)) (fun _ hk => hk.2) (.int .i64 t265)) (fun _ hk => hk.2) (.slice Ao141 t266.length co141)) (fun _ hk => ⟨hk.1.1.1.1.1.1, ⟨hk.1.1.1.1.1.2.1, ⟨hk.1.1.1.1.1.2.2, ⟨hk.1.1.1.1.2, ⟨hk.1.1.1.2, ⟨hk.1.1.2, hk.1.2⟩⟩⟩⟩⟩⟩)⟩, ⟨by (with_reducible repeat (first | apply Kd.R_alloc | apply Kd.R_drewN | apply Kd.R_drew)); exact Kd.R_mono (Kd.R_far (p := ⟨gb270, 2, none⟩) (Kd.R_far (p := ⟨gb270, 1, none⟩) (Kd.R_far (p := ⟨gb270, 0, none⟩) (Kd.R_types HO_233002.out BK270.out (by decide)) (fun _ hk => hk.2) (.int .i64 t264)) (fun _ hk => hk.2) (.int .i64 t265)) (fun _ hk => hk.2) (.slice Ao141 t266.length co141)) (fun _ hk => ⟨hk.1.1.1.1.1.1, ⟨hk.1.1.1.1.1.2.1, ⟨hk.1.1.1.1.1.2.2, ⟨hk.1.1.1.1.2, ⟨hk.1.1.1.2, ⟨hk.1.1.2, hk.1.2⟩⟩⟩⟩⟩⟩)⟩, ⟨by (with_reducible repeat (first | apply Kd.R_alloc | apply Kd.R_drewN | apply Kd.R_drew)); exact Kd.R_mono (Kd.R_far (p := ⟨gb270, 2, none⟩) (Kd.R_far (p := ⟨gb270, 1, none⟩) (Kd.R_far (p := ⟨gb270, 0, none⟩) (Kd.R_types HO_240002.out BK270.out (by decide)) (fun _ hk => hk.2) (.int .i64 t264)) (fun _ hk => hk.2) (.int .i64 t265)) (fun _ hk => hk.2) (.slice Ao141 t266.length co141)) (fun _ hk => ⟨hk.1.1.1.1.1.1, ⟨hk.1.1.1.1.1.2.1, ⟨hk.1.1.1.1.1.2.2, ⟨hk.1.1.1.1.2, ⟨hk.1.1.1.2, ⟨hk.1.1.2, hk.1.2⟩⟩⟩⟩⟩⟩)⟩, ⟨by (with_reducible repeat (first | apply Kd.R_alloc | apply Kd.R_drewN | apply Kd.R_drew)); exact Kd.R_mono (Kd.R_far (p := ⟨gb270, 2, none⟩) (Kd.R_far (p := ⟨gb270, 1, none⟩) (Kd.R_far (p := ⟨gb270, 0, none⟩) (Kd.R_types HO247.out BK270.out (by decide)) (fun _ hk => hk.2) (.int .i64 t264)) (fun _ hk => hk.2) (.int .i64 t265)) (fun _ hk => hk.2) (.slice Ao141 t266.length co141)) (fun _ hk => ⟨hk.1.1.1.1.1.1.1.2, ⟨hk.1.1.1.1.1.1.2, ⟨hk.1.1.1.1.1.2, ⟨hk.1.1.1.1.2, ⟨hk.1.1.1.2, ⟨hk.1.1.2, hk.1.2⟩⟩⟩⟩⟩⟩)⟩, ⟨by (with_reducible repeat (first | apply Kd.R_alloc | apply Kd.R_drewN | apply Kd.R_drew)); exact Kd.R_mono (Kd.R_far (p := ⟨gb270, 2, none⟩) (Kd.R_far (p := ⟨gb270, 1, none⟩) (Kd.R_far (p := ⟨gb270, 0, none⟩) (Kd.R_types HO254.out BK270.out (by decide)) (fun _ hk => hk.2) (.int .i64 t264)) (fun _ hk => hk.2) (.int .i64 t265)) (fun _ hk => hk.2) (.slice Ao141 t266.length co141)) (fun _ hk => ⟨hk.1.1.1.1.1.1.1.2, ⟨hk.1.1.1.1.1.1.2, ⟨hk.1.1.1.1.1.2, ⟨hk.1.1.1.1.2, ⟨hk.1.1.1.2, ⟨hk.1.1.2, hk.1.2⟩⟩⟩⟩⟩⟩)⟩, ⟨by (with_reducible repeat (first | apply Kd.R_alloc | apply Kd.R_drewN | apply Kd.R_drew)); exact Kd.R_mono (Kd.R_far (p := ⟨gb270, 2, none⟩) (Kd.R_far (p := ⟨gb270, 1, none⟩) (Kd.R_far (p := ⟨gb270, 0, none⟩) (Kd.R_types HO261.out BK270.out (by decide)) (fun _ hk => hk.2) (.int .i64 t264)) (fun _ hk => hk.2) (.int .i64 t265)) (fun _ hk => hk.2) (.slice Ao141 t266.length co141)) (fun _ hk => ⟨hk.1.1.1.1.1.1.1.2, ⟨hk.1.1.1.1.1.1.2, ⟨hk.1.1.1.1.1.2, ⟨hk.1.1.1.1.2, ⟨hk.1.1.1.2, ⟨hk.1.1.2, hk.1.2⟩⟩⟩⟩⟩⟩)⟩, ⟨by (with_reducible repeat (first | apply Kd.R_alloc | apply Kd.R_drewN | apply Kd.R_drew)); exact Kd.R_mono (Kd.R_far (p := ⟨gb270, 2, none⟩) (Kd.R_far (p := ⟨gb270, 1, none⟩) (Kd.R_far (p := ⟨gb270, 0, none⟩) (Kd.R_types HO268.out BK270.out (by decide)) (fun _ hk => hk.2) (.int .i64 t264)) (fun _ hk => hk.2) (.int .i64 t265)) (fun _ hk => hk.2) (.slice Ao141 t266.length co141)) (fun _ hk => ⟨hk.1.1.1.1.1.1.1.2, ⟨hk.1.1.1.1.1.1.2, ⟨hk.1.1.1.1.1.2, ⟨hk.1.1.1.1.2, ⟨hk.1.1.1.2, ⟨hk.1.1.2, hk.1.2⟩⟩⟩⟩⟩⟩)⟩, ⟨by refine bF ?_ ?_; exact NB209_270.out; refine bF ?_ ?_; exact NB209_270.out; refine bF ?_ ?_; exact NB209_270.out; exact bU BK209.out⟩, ⟨by refine bF ?_ ?_; exact NB218_270.out; refine bF ?_ ?_; exact NB218_270.out; refine bF ?_ ?_; exact NB218_270.out; exact bU BK218.out⟩, ⟨by refine bF ?_ ?_; exact NB225_270.out; refine bF ?_ ?_; exact NB225_270.out; refine bF ?_ ?_; exact NB225_270.out; exact bU BK225.out⟩, ⟨by refine bF ?_ ?_; exact NB232_270.out; refine bF ?_ ?_; exact NB232_270.out; refine bF ?_ ?_; exact NB232_270.out; exact bU BK232.out⟩, ⟨by refine bF ?_ ?_; exact NB239_270.out; refine bF ?_ ?_; exact NB239_270.out; refine bF ?_ ?_; exact NB239_270.out; exact bU BK239.out⟩, ⟨by refine bF ?_ ?_; exact NB249_270.out; refine bF ?_ ?_; exact NB249_270.out; refine bF ?_ ?_; exact NB249_270.out; exact bU BK249.out⟩, ⟨by refine bF ?_ ?_; exact NB256_270.out; refine bF ?_ ?_; exact NB256_270.out; refine bF ?_ ?_; exact NB256_270.out; exact bU BK256.out⟩, ⟨by refine bF ?_ ?_; exact NB263_270.out; refine bF ?_ ?_; exact NB263_270.out; refine bF ?_ ?_; exact NB263_270.out; exact bU BK263.out⟩, ⟨by (with_reducible repeat (first | refine blk_drewN ?_ _ | refine blk_drew ?_ | refine blk_alloc ?_ _)); refine blk_put (cs := #[.int .i64 t264, .int .i64 t265, .slice none 0 0]) ?_ 2 _ rfl; (with_reducible repeat (first | refine blk_drewN ?_ _ | refine blk_drew ?_ | refine blk_alloc ?_ _)); refine blk_put (cs := #[.int .i64 t264, .int .i64 0, .slice none 0 0]) ?_ 1 _ rfl; (with_reducible repeat (first | refine blk_drewN ?_ _ | refine blk_drew ?_ | refine blk_alloc ?_ _)); refine blk_put (cs := #[.int .i64 0, .int .i64 0, .slice none 0 0]) ?_ 0 _ rfl; exact bU BK270.out⟩, ⟨by repeat (first | (with_reducible first | exact HB.out | apply below_alloc | apply pw_below_drewN | apply below_drew1 | refine below_set ?_ GE209.out | refine below_set ?_ GE218.out | refine below_set ?_ GE225.out | refine below_set ?_ GE232.out | refine below_set ?_ GE239.out | refine below_set ?_ GE249.out | refine below_set ?_ GE256.out | refine below_set ?_ GE263.out | refine below_set ?_ GE270.out) | exact HB.out)⟩⟩
            case rest =>
              clear HC86
              try clear c1
              try clear c2
              try clear p2
              try clear c3
              try clear c4
              try clear c5
              try clear c6
              try clear p6
              try clear c7
              try clear c8
              try clear c9
              try clear c10
              try clear c11
              try clear c12
              try clear c13
              try clear c14
              try clear c15
              try clear c16
              try clear c22
              try clear c28
              try clear c29
              try clear c35
              try clear c36
              try clear c37
              try clear c43
              try clear c44
              try clear c45
              try clear c46
              try clear c49
              try clear c49b0
              try clear c49b1
              try clear c50
              try clear c50b0
              try clear c50b1
              try clear c52
              try clear c54
              try clear c55
              try clear c56
              try clear c57
              try clear c59
              try clear c60
              try clear c61
              try clear c64
              try clear p64
              try clear c65
              try clear c67
              try clear c70
              try clear c71
              try clear c72
              try clear c73
              try clear c75
              try clear c76
              try clear c77
              try clear c80
              try clear c81
              try clear c81b0
              try clear c81b1
              try clear c87
              try clear c88
              try clear c89
              try clear c90
              try clear c94
              try clear c95
              try clear c96
              try clear c97
              try clear c98
              try clear c101
              try clear c102
              try clear c103
              try clear c107
              try clear c108
              try clear c109
              try clear c110
              try clear c111
              try clear c112
              try clear c118
              try clear c119
              try clear c120
              try clear c121
              try clear c122
              try clear c123
              try clear c124
              try clear c127
              try clear c128
              try clear c132
              try clear c133
              try clear c134
              try clear c135
              try clear c136
              try clear c137
              try clear c138
              try clear c139
              try clear c142
              try clear c142b0
              try clear c142b1
              try clear c143
              try clear c143b0
              try clear c143b1
              try clear c144
              try clear c144b0
              try clear c144b1
              try clear hcz104_0
              try clear hcz104_1
              try clear hcz104_2
              try clear hcz113_0
              try clear hcz113_1
              try clear hcz113_2
              try clear hcz115_0
              try clear hcz115_1
              try clear hcz115_2
              try clear hcz125_0
              try clear hcz125_1
              try clear hcz125_2
              try clear hcz129_0
              try clear hcz129_1
              try clear hcz129_2
              try clear hcz140_0
              try clear hcz140_1
              try clear hcz140_2
              try clear hcz17_0
              try clear hcz17_1
              try clear hcz17_2
              try clear hcz19_0
              try clear hcz19_1
              try clear hcz19_2
              try clear hcz23_0
              try clear hcz23_1
              try clear hcz23_2
              try clear hcz25_0
              try clear hcz25_1
              try clear hcz25_2
              try clear hcz30_0
              try clear hcz30_1
              try clear hcz30_2
              try clear hcz32_0
              try clear hcz32_1
              try clear hcz32_2
              try clear hcz38_0
              try clear hcz38_1
              try clear hcz38_2
              try clear hcz40_0
              try clear hcz40_1
              try clear hcz40_2
              try clear hcz47_0
              try clear hcz47_1
              try clear hcz47_2
              try clear hcz58_0
              try clear hcz58_1
              try clear hcz58_2
              try clear hcz62_0
              try clear hcz62_1
              try clear hcz62_2
              try clear hcz66_0
              try clear hcz66_1
              try clear hcz66_2
              try clear hcz68_0
              try clear hcz68_1
              try clear hcz68_2
              try clear hcz74_0
              try clear hcz74_1
              try clear hcz74_2
              try clear hcz78_0
              try clear hcz78_1
              try clear hcz78_2
              try clear hcz8_0
              try clear hcz8_1
              try clear hcz8_2
              try clear hcz91_0
              try clear hcz91_1
              try clear hcz91_2
              try clear hcz99_0
              try clear hcz99_1
              try clear hcz99_2
              try clear hfz104_0
              try clear hfz104_1
              try clear hfz104_2
              try clear hfz113_0
              try clear hfz113_1
              try clear hfz113_2
              try clear hfz115_0
              try clear hfz115_1
              try clear hfz115_2
              try clear hfz125_0
              try clear hfz125_1
              try clear hfz125_2
              try clear hfz129_0
              try clear hfz129_1
              try clear hfz129_2
              try clear hfz140_0
              try clear hfz140_1
              try clear hfz140_2
              try clear hfz17_0
              try clear hfz17_1
              try clear hfz17_2
              try clear hfz19_0
              try clear hfz19_1
              try clear hfz19_2
              try clear hfz23_0
              try clear hfz23_1
              try clear hfz23_2
              try clear hfz25_0
              try clear hfz25_1
              try clear hfz25_2
              try clear hfz30_0
              try clear hfz30_1
              try clear hfz30_2
              try clear hfz32_0
              try clear hfz32_1
              try clear hfz32_2
              try clear hfz38_0
              try clear hfz38_1
              try clear hfz38_2
              try clear hfz40_0
              try clear hfz40_1
              try clear hfz40_2
              try clear hfz47_0
              try clear hfz47_1
              try clear hfz47_2
              try clear hfz58_0
              try clear hfz58_1
              try clear hfz58_2
              try clear hfz62_0
              try clear hfz62_1
              try clear hfz62_2
              try clear hfz66_0
              try clear hfz66_1
              try clear hfz66_2
              try clear hfz68_0
              try clear hfz68_1
              try clear hfz68_2
              try clear hfz74_0
              try clear hfz74_1
              try clear hfz74_2
              try clear hfz78_0
              try clear hfz78_1
              try clear hfz78_2
              try clear hfz8_0
              try clear hfz8_1
              try clear hfz8_2
              try clear hfz91_0
              try clear hfz91_1
              try clear hfz91_2
              try clear hfz99_0
              try clear hfz99_1
              try clear hfz99_2
              try clear p2
              obtain ⟨kq, x110_85, rfl, HA, HJ85, HO_219002, HO_226002, HO_233002, HO_240002, HO_250002, HO_257002, HO_264002, HO_271002, BK209, BK218, BK225, BK232, BK239, BK249, BK256, BK263, BK270, HB⟩ := hcut
              cases kq with
              | zero => exact absurd HA.out (by simp [incunablelaw05_BitmapTurns.j1])
              | succ kj85 =>
                have H := HA.out
                clear HA
                simp only [incunablelaw05_BitmapTurns.j1] at H
                by_cases c145 : x110_85 = true
                · subst c145
                  have H1 : (some false) = some r := by rw [if_pos rfl] at H; exact H
                  clear H
                  have H := H1
                  clear H1
                  exact absurd ((Option.some.inj H).trans HR_.out) (by decide)
                · replace c145 := Bool.eq_false_iff.mpr c145
                  subst c145
                  have H1 : ((incunableref05_Same.f t243 t244 t245 t250 t251 t252).bind fun t271 => (if t271 = true then ((incunableref05_Same.f t257 t258 t259 a0_0 a0_1 l0_2).bind fun t272 => (if t272 = true then ((incunableref05_Same.f t264 t265 t266 a0_0 a0_1 l0_2).bind fun t273 => (if t273 = true then ((incunableref05_Blacks.f kj85 t212 t213 t214).bind fun t274 => ((incunableref05_Blacks.f kj85 a0_0 a0_1 l0_2).bind fun t275 => (if t274 = t275 then ((incunableref05_Blacks.f kj85 t226 t227 t228).bind fun t276 => ((incunableref05_Blacks.f kj85 a0_0 a0_1 l0_2).bind fun t277 => (if t276 = t277 then ((incunablelaw05_Sane.f kj85).bind fun t278 => (some t278)) else (some false)))) else (some false)))) else (some false))) else (some false))) else (some false))) = some r := by rw [if_neg (show ¬ (false = true) by decide)] at H; exact H
                  clear H
                  have H := H1
                  clear H1
                  replace H := Option.bind_eq_some_iff.mp H
                  obtain ⟨t271, A1460, H⟩ := H
                  replace H : (if t271 = true then ((incunableref05_Same.f t257 t258 t259 a0_0 a0_1 l0_2).bind fun t272 => (if t272 = true then ((incunableref05_Same.f t264 t265 t266 a0_0 a0_1 l0_2).bind fun t273 => (if t273 = true then ((incunableref05_Blacks.f kj85 t212 t213 t214).bind fun t274 => ((incunableref05_Blacks.f kj85 a0_0 a0_1 l0_2).bind fun t275 => (if t274 = t275 then ((incunableref05_Blacks.f kj85 t226 t227 t228).bind fun t276 => ((incunableref05_Blacks.f kj85 a0_0 a0_1 l0_2).bind fun t277 => (if t276 = t277 then ((incunablelaw05_Sane.f kj85).bind fun t278 => (some t278)) else (some false)))) else (some false)))) else (some false))) else (some false))) else (some false)) = some r := H
                  have A146 := Aside0.mk A1460
                  clear A1460
                  by_cases c147 : t271 = true
                  · subst c147
                    have H1 : ((incunableref05_Same.f t257 t258 t259 a0_0 a0_1 l0_2).bind fun t272 => (if t272 = true then ((incunableref05_Same.f t264 t265 t266 a0_0 a0_1 l0_2).bind fun t273 => (if t273 = true then ((incunableref05_Blacks.f kj85 t212 t213 t214).bind fun t274 => ((incunableref05_Blacks.f kj85 a0_0 a0_1 l0_2).bind fun t275 => (if t274 = t275 then ((incunableref05_Blacks.f kj85 t226 t227 t228).bind fun t276 => ((incunableref05_Blacks.f kj85 a0_0 a0_1 l0_2).bind fun t277 => (if t276 = t277 then ((incunablelaw05_Sane.f kj85).bind fun t278 => (some t278)) else (some false)))) else (some false)))) else (some false))) else (some false))) = some r := by rw [if_pos rfl] at H; exact H
                    clear H
                    have H := H1
                    clear H1
                    replace H := Option.bind_eq_some_iff.mp H
                    obtain ⟨t272, A1480, H⟩ := H
                    replace H : (if t272 = true then ((incunableref05_Same.f t264 t265 t266 a0_0 a0_1 l0_2).bind fun t273 => (if t273 = true then ((incunableref05_Blacks.f kj85 t212 t213 t214).bind fun t274 => ((incunableref05_Blacks.f kj85 a0_0 a0_1 l0_2).bind fun t275 => (if t274 = t275 then ((incunableref05_Blacks.f kj85 t226 t227 t228).bind fun t276 => ((incunableref05_Blacks.f kj85 a0_0 a0_1 l0_2).bind fun t277 => (if t276 = t277 then ((incunablelaw05_Sane.f kj85).bind fun t278 => (some t278)) else (some false)))) else (some false)))) else (some false))) else (some false)) = some r := H
                    have A148 := Aside0.mk A1480
                    clear A1480
                    by_cases c149 : t272 = true
                    · subst c149
                      have H1 : ((incunableref05_Same.f t264 t265 t266 a0_0 a0_1 l0_2).bind fun t273 => (if t273 = true then ((incunableref05_Blacks.f kj85 t212 t213 t214).bind fun t274 => ((incunableref05_Blacks.f kj85 a0_0 a0_1 l0_2).bind fun t275 => (if t274 = t275 then ((incunableref05_Blacks.f kj85 t226 t227 t228).bind fun t276 => ((incunableref05_Blacks.f kj85 a0_0 a0_1 l0_2).bind fun t277 => (if t276 = t277 then ((incunablelaw05_Sane.f kj85).bind fun t278 => (some t278)) else (some false)))) else (some false)))) else (some false))) = some r := by rw [if_pos rfl] at H; exact H
                      clear H
                      have H := H1
                      clear H1
                      replace H := Option.bind_eq_some_iff.mp H
                      obtain ⟨t273, A1500, H⟩ := H
                      replace H : (if t273 = true then ((incunableref05_Blacks.f kj85 t212 t213 t214).bind fun t274 => ((incunableref05_Blacks.f kj85 a0_0 a0_1 l0_2).bind fun t275 => (if t274 = t275 then ((incunableref05_Blacks.f kj85 t226 t227 t228).bind fun t276 => ((incunableref05_Blacks.f kj85 a0_0 a0_1 l0_2).bind fun t277 => (if t276 = t277 then ((incunablelaw05_Sane.f kj85).bind fun t278 => (some t278)) else (some false)))) else (some false)))) else (some false)) = some r := H
                      have A150 := Aside0.mk A1500
                      clear A1500
                      by_cases c151 : t273 = true
                      · subst c151
                        have H1 : ((incunableref05_Blacks.f kj85 t212 t213 t214).bind fun t274 => ((incunableref05_Blacks.f kj85 a0_0 a0_1 l0_2).bind fun t275 => (if t274 = t275 then ((incunableref05_Blacks.f kj85 t226 t227 t228).bind fun t276 => ((incunableref05_Blacks.f kj85 a0_0 a0_1 l0_2).bind fun t277 => (if t276 = t277 then ((incunablelaw05_Sane.f kj85).bind fun t278 => (some t278)) else (some false)))) else (some false)))) = some r := by rw [if_pos rfl] at H; exact H
                        clear H
                        have H := H1
                        clear H1
                        replace H := Option.bind_eq_some_iff.mp H
                        obtain ⟨t274, A1520, H⟩ := H
                        replace H : ((incunableref05_Blacks.f kj85 a0_0 a0_1 l0_2).bind fun t275 => (if t274 = t275 then ((incunableref05_Blacks.f kj85 t226 t227 t228).bind fun t276 => ((incunableref05_Blacks.f kj85 a0_0 a0_1 l0_2).bind fun t277 => (if t276 = t277 then ((incunablelaw05_Sane.f kj85).bind fun t278 => (some t278)) else (some false)))) else (some false))) = some r := H
                        have A152 := Aside0.mk A1520
                        clear A1520
                        replace H := Option.bind_eq_some_iff.mp H
                        obtain ⟨t275, A1530, H⟩ := H
                        replace H : (if t274 = t275 then ((incunableref05_Blacks.f kj85 t226 t227 t228).bind fun t276 => ((incunableref05_Blacks.f kj85 a0_0 a0_1 l0_2).bind fun t277 => (if t276 = t277 then ((incunablelaw05_Sane.f kj85).bind fun t278 => (some t278)) else (some false)))) else (some false)) = some r := H
                        have A153 := Aside0.mk A1530
                        clear A1530
                        by_cases c154 : t274 = t275
                        · rw [if_pos c154] at H
                          have c154b0 : (t274 == t275) = true := beq_iff_eq.mpr c154
                          have c154b1 : (t274 != t275) = false := bne_eq_false_iff_eq.mpr c154
                          clear c154
                          replace H := Option.bind_eq_some_iff.mp H
                          obtain ⟨t276, A1550, H⟩ := H
                          replace H : ((incunableref05_Blacks.f kj85 a0_0 a0_1 l0_2).bind fun t277 => (if t276 = t277 then ((incunablelaw05_Sane.f kj85).bind fun t278 => (some t278)) else (some false))) = some r := H
                          have A155 := Aside0.mk A1550
                          clear A1550
                          replace H := Option.bind_eq_some_iff.mp H
                          obtain ⟨t277, A1560, H⟩ := H
                          replace H : (if t276 = t277 then ((incunablelaw05_Sane.f kj85).bind fun t278 => (some t278)) else (some false)) = some r := H
                          have A156 := Aside0.mk A1560
                          clear A1560
                          by_cases c157 : t276 = t277
                          · rw [if_pos c157] at H
                            have c157b0 : (t276 == t277) = true := beq_iff_eq.mpr c157
                            have c157b1 : (t276 != t277) = false := bne_eq_false_iff_eq.mpr c157
                            clear c157
                            replace H := Option.bind_eq_some_iff.mp H
                            obtain ⟨t278, A1580, H⟩ := H
                            replace H : (some t278) = some r := H
                            have A158 := Aside0.mk A1580
                            clear A1580
                            obtain rfl := Option.some.inj H
                            try go_wp2
                            have n0_ := Aside0.mk (Kd.R_drew HO_219002.out)
                            have n1_ := Aside0.mk (Kd.R_drew HO_226002.out)
                            have n2_ := Aside0.mk (Kd.R_drew HO_233002.out)
                            have n3_ := Aside0.mk (Kd.R_drew HO_240002.out)
                            have n4_ := Aside0.mk (Kd.R_drew HO_250002.out)
                            have n5_ := Aside0.mk (Kd.R_drew HO_257002.out)
                            have n6_ := Aside0.mk (Kd.R_drew HO_264002.out)
                            have n7_ := Aside0.mk (Kd.R_drew HO_271002.out)
                            have n8_ := Aside0.mk (blk_drew BK209.out)
                            have n9_ := Aside0.mk (blk_drew BK218.out)
                            have n10_ := Aside0.mk (blk_drew BK225.out)
                            have n11_ := Aside0.mk (blk_drew BK232.out)
                            have n12_ := Aside0.mk (blk_drew BK239.out)
                            have n13_ := Aside0.mk (blk_drew BK249.out)
                            have n14_ := Aside0.mk (blk_drew BK256.out)
                            have n15_ := Aside0.mk (blk_drew BK263.out)
                            have n16_ := Aside0.mk (blk_drew BK270.out)
                            have n17_ := Aside0.mk (below_drew1 HB.out)
                            clear HO_219002
                            clear HO_226002
                            clear HO_233002
                            clear HO_240002
                            clear HO_250002
                            clear HO_257002
                            clear HO_264002
                            clear HO_271002
                            clear BK209
                            clear BK218
                            clear BK225
                            clear BK232
                            clear BK239
                            clear BK249
                            clear BK256
                            clear BK263
                            clear BK270
                            clear HB
                            have HO_219002 := n0_
                            have HO_226002 := n1_
                            have HO_233002 := n2_
                            have HO_240002 := n3_
                            have HO_250002 := n4_
                            have HO_257002 := n5_
                            have HO_264002 := n6_
                            have HO_271002 := n7_
                            have BK209 := n8_
                            have BK218 := n9_
                            have BK225 := n10_
                            have BK232 := n11_
                            have BK239 := n12_
                            have BK249 := n13_
                            have BK256 := n14_
                            have BK263 := n15_
                            have BK270 := n16_
                            have HB := n17_
                            clear n0_ n1_ n2_ n3_ n4_ n5_ n6_ n7_ n8_ n9_ n10_ n11_ n12_ n13_ n14_ n15_ n16_ n17_
                            refine start_ (n := 31) (S := fun w' => w'.cell? ⟨gb249, 0, none⟩ = some (.int .i64 t243) ∧ w'.cell? ⟨gb249, 1, none⟩ = some (.int .i64 t244) ∧ w'.cell? ⟨gb249, 2, none⟩ = some (.slice Ao100 t245.length co100) ∧ w'.cell? ⟨gb256, 0, none⟩ = some (.int .i64 t250) ∧ w'.cell? ⟨gb256, 1, none⟩ = some (.int .i64 t251) ∧ w'.cell? ⟨gb256, 2, none⟩ = some (.slice Ao114 t252.length co114) ∧ w'.cell? ⟨gb263, 0, none⟩ = some (.int .i64 t257) ∧ w'.cell? ⟨gb263, 1, none⟩ = some (.int .i64 t258) ∧ w'.cell? ⟨gb263, 2, none⟩ = some (.slice Ao126 t259.length co126) ∧ w'.cell? ⟨gb209, 0, none⟩ = some (.int .i64 a0_0) ∧ w'.cell? ⟨gb209, 1, none⟩ = some (.int .i64 a0_1) ∧ w'.cell? ⟨gb209, 2, none⟩ = some (.slice A0_2 l0_2.length c0_2) ∧ w'.cell? ⟨gb270, 0, none⟩ = some (.int .i64 t264) ∧ w'.cell? ⟨gb270, 1, none⟩ = some (.int .i64 t265) ∧ w'.cell? ⟨gb270, 2, none⟩ = some (.slice Ao141 t266.length co141) ∧ w'.cell? ⟨gb218, 0, none⟩ = some (.int .i64 t212) ∧ w'.cell? ⟨gb218, 1, none⟩ = some (.int .i64 t213) ∧ w'.cell? ⟨gb218, 2, none⟩ = some (.slice Ao24 t214.length co24) ∧ w'.cell? ⟨gb232, 0, none⟩ = some (.int .i64 t226) ∧ w'.cell? ⟨gb232, 1, none⟩ = some (.int .i64 t227) ∧ w'.cell? ⟨gb232, 2, none⟩ = some (.slice Ao39 t228.length co39)) (ds := []) #[false, false, false, false, false, false, false, false, false, false, false, false, false, false, false, false, false, false, false, false, false, false, false, false, false, false, false, false, false, false, false] (by kernel_rfl) rfl rfl ⟨(blk_cell BK249.out 0).trans rfl, (blk_cell BK249.out 1).trans rfl, (blk_cell BK249.out 2).trans rfl, (blk_cell BK256.out 0).trans rfl, (blk_cell BK256.out 1).trans rfl, (blk_cell BK256.out 2).trans rfl, (blk_cell BK263.out 0).trans rfl, (blk_cell BK263.out 1).trans rfl, (blk_cell BK263.out 2).trans rfl, (blk_cell BK209.out 0).trans rfl, (blk_cell BK209.out 1).trans rfl, (blk_cell BK209.out 2).trans rfl, (blk_cell BK270.out 0).trans rfl, (blk_cell BK270.out 1).trans rfl, (blk_cell BK270.out 2).trans rfl, (blk_cell BK218.out 0).trans rfl, (blk_cell BK218.out 1).trans rfl, (blk_cell BK218.out 2).trans rfl, (blk_cell BK232.out 0).trans rfl, (blk_cell BK232.out 1).trans rfl, (blk_cell BK232.out 2).trans rfl⟩ (fun hHeld => ?_); refine with_tabW incunablelaw05_BitmapTurns.tab18 incunablelaw05_BitmapTurns.bits18 (fun HT_ HW_ => ?_)
                            generalize wc.drew = w159 at HO_219002 HO_226002 HO_233002 HO_240002 HO_250002 HO_257002 HO_264002 HO_271002 BK209 BK218 BK225 BK232 BK239 BK249 BK256 BK263 BK270 HB hHeld ⊢
                            refine take_ (i := 0) (N := some 111) (v := ?_) (a' := ?_) #[true, false, false, false, false, false, false, false, false, false, false, false, false, false, false, false, false, false, false, false, false, false, false, false, false, false, false, false, false, false, false] rfl rfl (take_ofW HT_.out HW_.out (by kernel_rfl)) (fun _ _ _ h => h) (Or.inl ⟨by rfl, ?_⟩) hHeld ?_ ?_
                            rotate_left
                            · rintro w' ⟨s0, s1, s2, s3, s4, s5, s6, s7, s8, s9, s10, s11, s12, s13, s14, s15, s16, s17, s18, s19, s20⟩
                              go_simp
                              with_reducible rfl
                            rotate_left
                            · simp only [Act.put, List.setIfInBounds_toArray, List.set_cons_zero, List.set_cons_succ, i64_w, i32_w]
                              rfl
                            refine take_ (i := 1) (N := some 112) (v := ?_) (a' := ?_) #[true, true, false, false, false, false, false, false, false, false, false, false, false, false, false, false, false, false, false, false, false, false, false, false, false, false, false, false, false, false, false] rfl rfl (take_ofW HT_.out HW_.out (by kernel_rfl)) (fun _ _ _ h => h) (Or.inl ⟨by rfl, ?_⟩) hHeld ?_ ?_
                            rotate_left
                            · rintro w' ⟨s0, s1, s2, s3, s4, s5, s6, s7, s8, s9, s10, s11, s12, s13, s14, s15, s16, s17, s18, s19, s20⟩
                              go_simp
                              with_reducible rfl
                            rotate_left
                            · simp only [Act.put, List.setIfInBounds_toArray, List.set_cons_zero, List.set_cons_succ, i64_w, i32_w]
                              rfl
                            refine one_ (i := 2) (N := some 113) #[true, true, true, false, false, false, false, false, false, false, false, false, false, false, false, false, false, false, false, false, false, false, false, false, false, false, false, false, false, false, false] rfl rfl (one_of HT_.out (by kernel_rfl)) (by decide) (fun K hK => ?_)
                            refine goes_ Try.func17 (by kernel_rfl) rfl #[.agg #[.int .i64 t243, .int .i64 t244, .slice Ao100 t245.length co100], .agg #[.int .i64 t250, .int .i64 t251, .slice Ao114 t252.length co114]] (by rfl) rfl rfl (by (try simp only [List.map_toArray, List.map_cons, List.map_nil]); first | done | rfl | (simp only [List.length_drop, List.length_take]; rfl)) ?_
                            with_reducible refine (incunableref05_Same.calls t243 t244 _ _ t245 t250 t251 _ _ t252 true _ ?side1 ?side2 ?side3 ?side4 A146.out).mono ?_
                            (case side1 => repeat (first | exact (Kd.R_reads' HO_250002.out).2.2 | (with_reducible refine Kd.C_alloc ?_ _) | (with_reducible refine Kd.C_drewN ?_ _) | (with_reducible refine Kd.C_drew ?_)))
                            (case side2 => exact (Kd.R_reads' HO_250002.out).2.1)
                            (case side3 => repeat (first | exact (Kd.R_reads' HO_257002.out).2.2 | (with_reducible refine Kd.C_alloc ?_ _) | (with_reducible refine Kd.C_drewN ?_ _) | (with_reducible refine Kd.C_drew ?_)))
                            (case side4 => exact (Kd.R_reads' HO_257002.out).2.1)
                            rintro e w160 ⟨rfl, hb⟩
                            refine ⟨_, rfl, ?_⟩
                            have n0_ := Aside0.mk (Kd.R_below (rU HO_219002.out) hb)
                            have n1_ := Aside0.mk (Kd.R_below (rU HO_226002.out) hb)
                            have n2_ := Aside0.mk (Kd.R_below (rU HO_233002.out) hb)
                            have n3_ := Aside0.mk (Kd.R_below (rU HO_240002.out) hb)
                            have n4_ := Aside0.mk (Kd.R_below (rU HO_250002.out) hb)
                            have n5_ := Aside0.mk (Kd.R_below (rU HO_257002.out) hb)
                            have n6_ := Aside0.mk (Kd.R_below (rU HO_264002.out) hb)
                            have n7_ := Aside0.mk (Kd.R_below (rU HO_271002.out) hb)
                            have n8_ := Aside0.mk (blk_below (bU BK209.out) hb)
                            have n9_ := Aside0.mk (blk_below (bU BK218.out) hb)
                            have n10_ := Aside0.mk (blk_below (bU BK225.out) hb)
                            have n11_ := Aside0.mk (blk_below (bU BK232.out) hb)
                            have n12_ := Aside0.mk (blk_below (bU BK239.out) hb)
                            have n13_ := Aside0.mk (blk_below (bU BK249.out) hb)
                            have n14_ := Aside0.mk (blk_below (bU BK256.out) hb)
                            have n15_ := Aside0.mk (blk_below (bU BK263.out) hb)
                            have n16_ := Aside0.mk (blk_below (bU BK270.out) hb)
                            have n17_ := Aside0.mk (below_step (by repeat (first | (with_reducible first | exact HB.out | apply below_alloc | apply pw_below_drewN | apply below_drew1 | refine below_set ?_ GE209.out | refine below_set ?_ GE218.out | refine below_set ?_ GE225.out | refine below_set ?_ GE232.out | refine below_set ?_ GE239.out | refine below_set ?_ GE249.out | refine below_set ?_ GE256.out | refine below_set ?_ GE263.out | refine below_set ?_ GE270.out) | exact HB.out)) hb)
                            clear HO_219002
                            clear HO_226002
                            clear HO_233002
                            clear HO_240002
                            clear HO_250002
                            clear HO_257002
                            clear HO_264002
                            clear HO_271002
                            clear BK209
                            clear BK218
                            clear BK225
                            clear BK232
                            clear BK239
                            clear BK249
                            clear BK256
                            clear BK263
                            clear BK270
                            clear HB
                            have HO_219002 := n0_
                            have HO_226002 := n1_
                            have HO_233002 := n2_
                            have HO_240002 := n3_
                            have HO_250002 := n4_
                            have HO_257002 := n5_
                            have HO_264002 := n6_
                            have HO_271002 := n7_
                            have BK209 := n8_
                            have BK218 := n9_
                            have BK225 := n10_
                            have BK232 := n11_
                            have BK239 := n12_
                            have BK249 := n13_
                            have BK256 := n14_
                            have BK263 := n15_
                            have BK270 := n16_
                            have HB := n17_
                            clear n0_ n1_ n2_ n3_ n4_ n5_ n6_ n7_ n8_ n9_ n10_ n11_ n12_ n13_ n14_ n15_ n16_ n17_
                            (try clear hb)
                            (try clear hb2)
                            (try clear hk)
                            (try clear hi)
                            refine hK.out _ _ ⟨(blk_cell BK249.out 0).trans rfl, (blk_cell BK249.out 1).trans rfl, (blk_cell BK249.out 2).trans rfl, (blk_cell BK256.out 0).trans rfl, (blk_cell BK256.out 1).trans rfl, (blk_cell BK256.out 2).trans rfl, (blk_cell BK263.out 0).trans rfl, (blk_cell BK263.out 1).trans rfl, (blk_cell BK263.out 2).trans rfl, (blk_cell BK209.out 0).trans rfl, (blk_cell BK209.out 1).trans rfl, (blk_cell BK209.out 2).trans rfl, (blk_cell BK270.out 0).trans rfl, (blk_cell BK270.out 1).trans rfl, (blk_cell BK270.out 2).trans rfl, (blk_cell BK218.out 0).trans rfl, (blk_cell BK218.out 1).trans rfl, (blk_cell BK218.out 2).trans rfl, (blk_cell BK232.out 0).trans rfl, (blk_cell BK232.out 1).trans rfl, (blk_cell BK232.out 2).trans rfl⟩ (fun hHeld => ?_)
                            clear hK K
                            refine norm_ (a' := ?_) ?_ ?_
                            rotate_left
                            · show Act.put _ (some 113) _ = _
                              simp only [Act.put, List.setIfInBounds_toArray, List.set_cons_zero, List.set_cons_succ, i64_w, i32_w]
                              rfl
                            refine pure_ (i := 3) (N := some 114) (v := ?_) (a' := ?_) #[true, true, true, true, false, false, false, false, false, false, false, false, false, false, false, false, false, false, false, false, false, false, false, false, false, false, false, false, false, false, false] rfl rfl (any_of HT_.out (by kernel_rfl)) (fun _ _ _ h => h) (Or.inl ⟨by rfl, ?_⟩) ?_ ?_
                            rotate_left
                            · intro w'
                              go_simp
                              with_reducible rfl
                            rotate_left
                            · simp only [Act.put, List.setIfInBounds_toArray, List.set_cons_zero, List.set_cons_succ, i64_w, i32_w]
                              rfl
                            refine take_ (i := 4) (N := some 115) (v := ?_) (a' := ?_) #[true, true, true, true, true, false, false, false, false, false, false, false, false, false, false, false, false, false, false, false, false, false, false, false, false, false, false, false, false, false, false] rfl rfl (take_ofW HT_.out HW_.out (by kernel_rfl)) (fun _ _ _ h => h) (Or.inl ⟨by rfl, ?_⟩) hHeld ?_ ?_
                            rotate_left
                            · rintro w' ⟨s0, s1, s2, s3, s4, s5, s6, s7, s8, s9, s10, s11, s12, s13, s14, s15, s16, s17, s18, s19, s20⟩
                              go_simp
                              with_reducible rfl
                            rotate_left
                            · simp only [Act.put, List.setIfInBounds_toArray, List.set_cons_zero, List.set_cons_succ, i64_w, i32_w]
                              rfl
                            refine take_ (i := 5) (N := some 116) (v := ?_) (a' := ?_) #[true, true, true, true, true, true, false, false, false, false, false, false, false, false, false, false, false, false, false, false, false, false, false, false, false, false, false, false, false, false, false] rfl rfl (take_ofW HT_.out HW_.out (by kernel_rfl)) (fun _ _ _ h => h) (Or.inl ⟨by rfl, ?_⟩) hHeld ?_ ?_
                            rotate_left
                            · rintro w' ⟨s0, s1, s2, s3, s4, s5, s6, s7, s8, s9, s10, s11, s12, s13, s14, s15, s16, s17, s18, s19, s20⟩
                              go_simp
                              with_reducible rfl
                            rotate_left
                            · simp only [Act.put, List.setIfInBounds_toArray, List.set_cons_zero, List.set_cons_succ, i64_w, i32_w]
                              rfl
                            refine one_ (i := 6) (N := some 117) #[true, true, true, true, true, true, true, false, false, false, false, false, false, false, false, false, false, false, false, false, false, false, false, false, false, false, false, false, false, false, false] rfl rfl (one_of HT_.out (by kernel_rfl)) (by decide) (fun K hK => ?_)
                            refine goes_ Try.func17 (by kernel_rfl) rfl #[.agg #[.int .i64 t257, .int .i64 t258, .slice Ao126 t259.length co126], .agg #[.int .i64 a0_0, .int .i64 a0_1, .slice A0_2 l0_2.length c0_2]] (by rfl) rfl rfl (by (try simp only [List.map_toArray, List.map_cons, List.map_nil]); first | done | rfl | (simp only [List.length_drop, List.length_take]; rfl)) ?_
                            with_reducible refine (incunableref05_Same.calls t257 t258 _ _ t259 a0_0 a0_1 _ _ l0_2 true _ ?side1 ?side2 ?side3 ?side4 A148.out).mono ?_
                            (case side1 => repeat (first | exact (Kd.R_reads' HO_264002.out).2.2 | (with_reducible refine Kd.C_alloc ?_ _) | (with_reducible refine Kd.C_drewN ?_ _) | (with_reducible refine Kd.C_drew ?_)))
                            (case side2 => exact (Kd.R_reads' HO_264002.out).2.1)
                            (case side3 => repeat (first | exact (Kd.C_below HR0_2.out HB.out) | (with_reducible refine Kd.C_alloc ?_ _) | (with_reducible refine Kd.C_drewN ?_ _) | (with_reducible refine Kd.C_drew ?_)))
                            (case side4 => exact HC0_2.out)
                            rintro e w161 ⟨rfl, hb⟩
                            refine ⟨_, rfl, ?_⟩
                            have n0_ := Aside0.mk (Kd.R_below (rU HO_219002.out) hb)
                            have n1_ := Aside0.mk (Kd.R_below (rU HO_226002.out) hb)
                            have n2_ := Aside0.mk (Kd.R_below (rU HO_233002.out) hb)
                            have n3_ := Aside0.mk (Kd.R_below (rU HO_240002.out) hb)
                            have n4_ := Aside0.mk (Kd.R_below (rU HO_250002.out) hb)
                            have n5_ := Aside0.mk (Kd.R_below (rU HO_257002.out) hb)
                            have n6_ := Aside0.mk (Kd.R_below (rU HO_264002.out) hb)
                            have n7_ := Aside0.mk (Kd.R_below (rU HO_271002.out) hb)
                            have n8_ := Aside0.mk (blk_below (bU BK209.out) hb)
                            have n9_ := Aside0.mk (blk_below (bU BK218.out) hb)
                            have n10_ := Aside0.mk (blk_below (bU BK225.out) hb)
                            have n11_ := Aside0.mk (blk_below (bU BK232.out) hb)
                            have n12_ := Aside0.mk (blk_below (bU BK239.out) hb)
                            have n13_ := Aside0.mk (blk_below (bU BK249.out) hb)
                            have n14_ := Aside0.mk (blk_below (bU BK256.out) hb)
                            have n15_ := Aside0.mk (blk_below (bU BK263.out) hb)
                            have n16_ := Aside0.mk (blk_below (bU BK270.out) hb)
                            have n17_ := Aside0.mk (below_step (by repeat (first | (with_reducible first | exact HB.out | apply below_alloc | apply pw_below_drewN | apply below_drew1 | refine below_set ?_ GE209.out | refine below_set ?_ GE218.out | refine below_set ?_ GE225.out | refine below_set ?_ GE232.out | refine below_set ?_ GE239.out | refine below_set ?_ GE249.out | refine below_set ?_ GE256.out | refine below_set ?_ GE263.out | refine below_set ?_ GE270.out) | exact HB.out)) hb)
                            clear HO_219002
                            clear HO_226002
                            clear HO_233002
                            clear HO_240002
                            clear HO_250002
                            clear HO_257002
                            clear HO_264002
                            clear HO_271002
                            clear BK209
                            clear BK218
                            clear BK225
                            clear BK232
                            clear BK239
                            clear BK249
                            clear BK256
                            clear BK263
                            clear BK270
                            clear HB
                            have HO_219002 := n0_
                            have HO_226002 := n1_
                            have HO_233002 := n2_
                            have HO_240002 := n3_
                            have HO_250002 := n4_
                            have HO_257002 := n5_
                            have HO_264002 := n6_
                            have HO_271002 := n7_
                            have BK209 := n8_
                            have BK218 := n9_
                            have BK225 := n10_
                            have BK232 := n11_
                            have BK239 := n12_
                            have BK249 := n13_
                            have BK256 := n14_
                            have BK263 := n15_
                            have BK270 := n16_
                            have HB := n17_
                            clear n0_ n1_ n2_ n3_ n4_ n5_ n6_ n7_ n8_ n9_ n10_ n11_ n12_ n13_ n14_ n15_ n16_ n17_
                            (try clear hb)
                            (try clear hb2)
                            (try clear hk)
                            (try clear hi)
                            refine hK.out _ _ ⟨(blk_cell BK249.out 0).trans rfl, (blk_cell BK249.out 1).trans rfl, (blk_cell BK249.out 2).trans rfl, (blk_cell BK256.out 0).trans rfl, (blk_cell BK256.out 1).trans rfl, (blk_cell BK256.out 2).trans rfl, (blk_cell BK263.out 0).trans rfl, (blk_cell BK263.out 1).trans rfl, (blk_cell BK263.out 2).trans rfl, (blk_cell BK209.out 0).trans rfl, (blk_cell BK209.out 1).trans rfl, (blk_cell BK209.out 2).trans rfl, (blk_cell BK270.out 0).trans rfl, (blk_cell BK270.out 1).trans rfl, (blk_cell BK270.out 2).trans rfl, (blk_cell BK218.out 0).trans rfl, (blk_cell BK218.out 1).trans rfl, (blk_cell BK218.out 2).trans rfl, (blk_cell BK232.out 0).trans rfl, (blk_cell BK232.out 1).trans rfl, (blk_cell BK232.out 2).trans rfl⟩ (fun hHeld => ?_)
                            clear hK K
                            refine norm_ (a' := ?_) ?_ ?_
                            rotate_left
                            · show Act.put _ (some 117) _ = _
                              simp only [Act.put, List.setIfInBounds_toArray, List.set_cons_zero, List.set_cons_succ, i64_w, i32_w]
                              rfl
                            refine pure_ (i := 7) (N := some 118) (v := ?_) (a' := ?_) #[true, true, true, true, true, true, true, true, false, false, false, false, false, false, false, false, false, false, false, false, false, false, false, false, false, false, false, false, false, false, false] rfl rfl (any_of HT_.out (by kernel_rfl)) (fun _ _ _ h => h) (Or.inl ⟨by rfl, ?_⟩) ?_ ?_
                            rotate_left
                            · intro w'
                              go_simp
                              with_reducible rfl
                            rotate_left
                            · simp only [Act.put, List.setIfInBounds_toArray, List.set_cons_zero, List.set_cons_succ, i64_w, i32_w]
                              rfl
                            refine pure_ (i := 8) (N := some 119) (v := ?_) (a' := ?_) #[true, true, true, true, true, true, true, true, true, false, false, false, false, false, false, false, false, false, false, false, false, false, false, false, false, false, false, false, false, false, false] rfl rfl (any_of HT_.out (by kernel_rfl)) (fun _ _ _ h => h) (Or.inl ⟨by rfl, ?_⟩) ?_ ?_
                            rotate_left
                            · intro w'
                              go_simp
                              with_reducible rfl
                            rotate_left
                            · simp only [Act.put, List.setIfInBounds_toArray, List.set_cons_zero, List.set_cons_succ, i64_w, i32_w]
                              rfl
                            refine take_ (i := 9) (N := some 120) (v := ?_) (a' := ?_) #[true, true, true, true, true, true, true, true, true, true, false, false, false, false, false, false, false, false, false, false, false, false, false, false, false, false, false, false, false, false, false] rfl rfl (take_ofW HT_.out HW_.out (by kernel_rfl)) (fun _ _ _ h => h) (Or.inl ⟨by rfl, ?_⟩) hHeld ?_ ?_
                            rotate_left
                            · rintro w' ⟨s0, s1, s2, s3, s4, s5, s6, s7, s8, s9, s10, s11, s12, s13, s14, s15, s16, s17, s18, s19, s20⟩
                              go_simp
                              with_reducible rfl
                            rotate_left
                            · simp only [Act.put, List.setIfInBounds_toArray, List.set_cons_zero, List.set_cons_succ, i64_w, i32_w]
                              rfl
                            refine take_ (i := 10) (N := some 121) (v := ?_) (a' := ?_) #[true, true, true, true, true, true, true, true, true, true, true, false, false, false, false, false, false, false, false, false, false, false, false, false, false, false, false, false, false, false, false] rfl rfl (take_ofW HT_.out HW_.out (by kernel_rfl)) (fun _ _ _ h => h) (Or.inl ⟨by rfl, ?_⟩) hHeld ?_ ?_
                            rotate_left
                            · rintro w' ⟨s0, s1, s2, s3, s4, s5, s6, s7, s8, s9, s10, s11, s12, s13, s14, s15, s16, s17, s18, s19, s20⟩
                              go_simp
                              with_reducible rfl
                            rotate_left
                            · simp only [Act.put, List.setIfInBounds_toArray, List.set_cons_zero, List.set_cons_succ, i64_w, i32_w]
                              rfl
                            refine one_ (i := 11) (N := some 122) #[true, true, true, true, true, true, true, true, true, true, true, true, false, false, false, false, false, false, false, false, false, false, false, false, false, false, false, false, false, false, false] rfl rfl (one_of HT_.out (by kernel_rfl)) (by decide) (fun K hK => ?_)
                            refine goes_ Try.func17 (by kernel_rfl) rfl #[.agg #[.int .i64 t264, .int .i64 t265, .slice Ao141 t266.length co141], .agg #[.int .i64 a0_0, .int .i64 a0_1, .slice A0_2 l0_2.length c0_2]] (by rfl) rfl rfl (by (try simp only [List.map_toArray, List.map_cons, List.map_nil]); first | done | rfl | (simp only [List.length_drop, List.length_take]; rfl)) ?_
                            with_reducible refine (incunableref05_Same.calls t264 t265 _ _ t266 a0_0 a0_1 _ _ l0_2 true _ ?side1 ?side2 ?side3 ?side4 A150.out).mono ?_
                            (case side1 => repeat (first | exact (Kd.R_reads' HO_271002.out).2.2 | (with_reducible refine Kd.C_alloc ?_ _) | (with_reducible refine Kd.C_drewN ?_ _) | (with_reducible refine Kd.C_drew ?_)))
                            (case side2 => exact (Kd.R_reads' HO_271002.out).2.1)
                            (case side3 => repeat (first | exact (Kd.C_below HR0_2.out HB.out) | (with_reducible refine Kd.C_alloc ?_ _) | (with_reducible refine Kd.C_drewN ?_ _) | (with_reducible refine Kd.C_drew ?_)))
                            (case side4 => exact HC0_2.out)
                            rintro e w162 ⟨rfl, hb⟩
                            refine ⟨_, rfl, ?_⟩
                            have n0_ := Aside0.mk (Kd.R_below (rU HO_219002.out) hb)
                            have n1_ := Aside0.mk (Kd.R_below (rU HO_226002.out) hb)
                            have n2_ := Aside0.mk (Kd.R_below (rU HO_233002.out) hb)
                            have n3_ := Aside0.mk (Kd.R_below (rU HO_240002.out) hb)
                            have n4_ := Aside0.mk (Kd.R_below (rU HO_250002.out) hb)
                            have n5_ := Aside0.mk (Kd.R_below (rU HO_257002.out) hb)
                            have n6_ := Aside0.mk (Kd.R_below (rU HO_264002.out) hb)
                            have n7_ := Aside0.mk (Kd.R_below (rU HO_271002.out) hb)
                            have n8_ := Aside0.mk (blk_below (bU BK209.out) hb)
                            have n9_ := Aside0.mk (blk_below (bU BK218.out) hb)
                            have n10_ := Aside0.mk (blk_below (bU BK225.out) hb)
                            have n11_ := Aside0.mk (blk_below (bU BK232.out) hb)
                            have n12_ := Aside0.mk (blk_below (bU BK239.out) hb)
                            have n13_ := Aside0.mk (blk_below (bU BK249.out) hb)
                            have n14_ := Aside0.mk (blk_below (bU BK256.out) hb)
                            have n15_ := Aside0.mk (blk_below (bU BK263.out) hb)
                            have n16_ := Aside0.mk (blk_below (bU BK270.out) hb)
                            have n17_ := Aside0.mk (below_step (by repeat (first | (with_reducible first | exact HB.out | apply below_alloc | apply pw_below_drewN | apply below_drew1 | refine below_set ?_ GE209.out | refine below_set ?_ GE218.out | refine below_set ?_ GE225.out | refine below_set ?_ GE232.out | refine below_set ?_ GE239.out | refine below_set ?_ GE249.out | refine below_set ?_ GE256.out | refine below_set ?_ GE263.out | refine below_set ?_ GE270.out) | exact HB.out)) hb)
                            clear HO_219002
                            clear HO_226002
                            clear HO_233002
                            clear HO_240002
                            clear HO_250002
                            clear HO_257002
                            clear HO_264002
                            clear HO_271002
                            clear BK209
                            clear BK218
                            clear BK225
                            clear BK232
                            clear BK239
                            clear BK249
                            clear BK256
                            clear BK263
                            clear BK270
                            clear HB
                            have HO_219002 := n0_
                            have HO_226002 := n1_
                            have HO_233002 := n2_
                            have HO_240002 := n3_
                            have HO_250002 := n4_
                            have HO_257002 := n5_
                            have HO_264002 := n6_
                            have HO_271002 := n7_
                            have BK209 := n8_
                            have BK218 := n9_
                            have BK225 := n10_
                            have BK232 := n11_
                            have BK239 := n12_
                            have BK249 := n13_
                            have BK256 := n14_
                            have BK263 := n15_
                            have BK270 := n16_
                            have HB := n17_
                            clear n0_ n1_ n2_ n3_ n4_ n5_ n6_ n7_ n8_ n9_ n10_ n11_ n12_ n13_ n14_ n15_ n16_ n17_
                            (try clear hb)
                            (try clear hb2)
                            (try clear hk)
                            (try clear hi)
                            refine hK.out _ _ ⟨(blk_cell BK249.out 0).trans rfl, (blk_cell BK249.out 1).trans rfl, (blk_cell BK249.out 2).trans rfl, (blk_cell BK256.out 0).trans rfl, (blk_cell BK256.out 1).trans rfl, (blk_cell BK256.out 2).trans rfl, (blk_cell BK263.out 0).trans rfl, (blk_cell BK263.out 1).trans rfl, (blk_cell BK263.out 2).trans rfl, (blk_cell BK209.out 0).trans rfl, (blk_cell BK209.out 1).trans rfl, (blk_cell BK209.out 2).trans rfl, (blk_cell BK270.out 0).trans rfl, (blk_cell BK270.out 1).trans rfl, (blk_cell BK270.out 2).trans rfl, (blk_cell BK218.out 0).trans rfl, (blk_cell BK218.out 1).trans rfl, (blk_cell BK218.out 2).trans rfl, (blk_cell BK232.out 0).trans rfl, (blk_cell BK232.out 1).trans rfl, (blk_cell BK232.out 2).trans rfl⟩ (fun hHeld => ?_)
                            clear hK K
                            refine norm_ (a' := ?_) ?_ ?_
                            rotate_left
                            · show Act.put _ (some 122) _ = _
                              simp only [Act.put, List.setIfInBounds_toArray, List.set_cons_zero, List.set_cons_succ, i64_w, i32_w]
                              rfl
                            refine pure_ (i := 12) (N := some 123) (v := ?_) (a' := ?_) #[true, true, true, true, true, true, true, true, true, true, true, true, true, false, false, false, false, false, false, false, false, false, false, false, false, false, false, false, false, false, false] rfl rfl (any_of HT_.out (by kernel_rfl)) (fun _ _ _ h => h) (Or.inl ⟨by rfl, ?_⟩) ?_ ?_
                            rotate_left
                            · intro w'
                              go_simp
                              with_reducible rfl
                            rotate_left
                            · simp only [Act.put, List.setIfInBounds_toArray, List.set_cons_zero, List.set_cons_succ, i64_w, i32_w]
                              rfl
                            refine pure_ (i := 13) (N := some 124) (v := ?_) (a' := ?_) #[true, true, true, true, true, true, true, true, true, true, true, true, true, true, false, false, false, false, false, false, false, false, false, false, false, false, false, false, false, false, false] rfl rfl (any_of HT_.out (by kernel_rfl)) (fun _ _ _ h => h) (Or.inl ⟨by rfl, ?_⟩) ?_ ?_
                            rotate_left
                            · intro w'
                              go_simp
                              with_reducible rfl
                            rotate_left
                            · simp only [Act.put, List.setIfInBounds_toArray, List.set_cons_zero, List.set_cons_succ, i64_w, i32_w]
                              rfl
                            refine take_ (i := 14) (N := some 125) (v := ?_) (a' := ?_) #[true, true, true, true, true, true, true, true, true, true, true, true, true, true, true, false, false, false, false, false, false, false, false, false, false, false, false, false, false, false, false] rfl rfl (take_ofW HT_.out HW_.out (by kernel_rfl)) (fun _ _ _ h => h) (Or.inl ⟨by rfl, ?_⟩) hHeld ?_ ?_
                            rotate_left
                            · rintro w' ⟨s0, s1, s2, s3, s4, s5, s6, s7, s8, s9, s10, s11, s12, s13, s14, s15, s16, s17, s18, s19, s20⟩
                              go_simp
                              with_reducible rfl
                            rotate_left
                            · simp only [Act.put, List.setIfInBounds_toArray, List.set_cons_zero, List.set_cons_succ, i64_w, i32_w]
                              rfl
                            refine take_ (i := 16) (N := some 127) (v := ?_) (a' := ?_) #[true, true, true, true, true, true, true, true, true, true, true, true, true, true, true, false, true, false, false, false, false, false, false, false, false, false, false, false, false, false, false] rfl rfl (take_ofW HT_.out HW_.out (by kernel_rfl)) (fun _ _ _ h => h) (Or.inl ⟨by rfl, ?_⟩) hHeld ?_ ?_
                            rotate_left
                            · rintro w' ⟨s0, s1, s2, s3, s4, s5, s6, s7, s8, s9, s10, s11, s12, s13, s14, s15, s16, s17, s18, s19, s20⟩
                              go_simp
                              with_reducible rfl
                            rotate_left
                            · simp only [Act.put, List.setIfInBounds_toArray, List.set_cons_zero, List.set_cons_succ, i64_w, i32_w]
                              rfl
                            refine one_ (i := 15) (N := some 126) #[true, true, true, true, true, true, true, true, true, true, true, true, true, true, true, true, true, false, false, false, false, false, false, false, false, false, false, false, false, false, false] rfl rfl (one_of HT_.out (by kernel_rfl)) (by decide) (fun K hK => ?_)
                            refine goes_ Try.func18 (by kernel_rfl) rfl #[.agg #[.int .i64 t212, .int .i64 t213, .slice Ao24 t214.length co24]] (by rfl) rfl rfl (by (try simp only [List.map_toArray, List.map_cons, List.map_nil]); first | done | rfl | (simp only [List.length_drop, List.length_take]; rfl)) ?_
                            with_reducible refine (incunableref05_Blacks.calls kj85 t212 t213 _ _ t214 t274 _ ?side1 ?side2 A152.out).mono ?_
                            (case side1 => repeat (first | exact (Kd.R_reads' HO_219002.out).2.2 | (with_reducible refine Kd.C_alloc ?_ _) | (with_reducible refine Kd.C_drewN ?_ _) | (with_reducible refine Kd.C_drew ?_)))
                            (case side2 => exact (Kd.R_reads' HO_219002.out).2.1)
                            rintro e w163 ⟨rfl, hb⟩
                            refine ⟨_, rfl, ?_⟩
                            have n0_ := Aside0.mk (Kd.R_below (rU HO_219002.out) hb)
                            have n1_ := Aside0.mk (Kd.R_below (rU HO_226002.out) hb)
                            have n2_ := Aside0.mk (Kd.R_below (rU HO_233002.out) hb)
                            have n3_ := Aside0.mk (Kd.R_below (rU HO_240002.out) hb)
                            have n4_ := Aside0.mk (Kd.R_below (rU HO_250002.out) hb)
                            have n5_ := Aside0.mk (Kd.R_below (rU HO_257002.out) hb)
                            have n6_ := Aside0.mk (Kd.R_below (rU HO_264002.out) hb)
                            have n7_ := Aside0.mk (Kd.R_below (rU HO_271002.out) hb)
                            have n8_ := Aside0.mk (blk_below (bU BK209.out) hb)
                            have n9_ := Aside0.mk (blk_below (bU BK218.out) hb)
                            have n10_ := Aside0.mk (blk_below (bU BK225.out) hb)
                            have n11_ := Aside0.mk (blk_below (bU BK232.out) hb)
                            have n12_ := Aside0.mk (blk_below (bU BK239.out) hb)
                            have n13_ := Aside0.mk (blk_below (bU BK249.out) hb)
                            have n14_ := Aside0.mk (blk_below (bU BK256.out) hb)
                            have n15_ := Aside0.mk (blk_below (bU BK263.out) hb)
                            have n16_ := Aside0.mk (blk_below (bU BK270.out) hb)
                            have n17_ := Aside0.mk (below_step (by repeat (first | (with_reducible first | exact HB.out | apply below_alloc | apply pw_below_drewN | apply below_drew1 | refine below_set ?_ GE209.out | refine below_set ?_ GE218.out | refine below_set ?_ GE225.out | refine below_set ?_ GE232.out | refine below_set ?_ GE239.out | refine below_set ?_ GE249.out | refine below_set ?_ GE256.out | refine below_set ?_ GE263.out | refine below_set ?_ GE270.out) | exact HB.out)) hb)
                            clear HO_219002
                            clear HO_226002
                            clear HO_233002
                            clear HO_240002
                            clear HO_250002
                            clear HO_257002
                            clear HO_264002
                            clear HO_271002
                            clear BK209
                            clear BK218
                            clear BK225
                            clear BK232
                            clear BK239
                            clear BK249
                            clear BK256
                            clear BK263
                            clear BK270
                            clear HB
                            have HO_219002 := n0_
                            have HO_226002 := n1_
                            have HO_233002 := n2_
                            have HO_240002 := n3_
                            have HO_250002 := n4_
                            have HO_257002 := n5_
                            have HO_264002 := n6_
                            have HO_271002 := n7_
                            have BK209 := n8_
                            have BK218 := n9_
                            have BK225 := n10_
                            have BK232 := n11_
                            have BK239 := n12_
                            have BK249 := n13_
                            have BK256 := n14_
                            have BK263 := n15_
                            have BK270 := n16_
                            have HB := n17_
                            clear n0_ n1_ n2_ n3_ n4_ n5_ n6_ n7_ n8_ n9_ n10_ n11_ n12_ n13_ n14_ n15_ n16_ n17_
                            (try clear hb)
                            (try clear hb2)
                            (try clear hk)
                            (try clear hi)
                            refine hK.out _ _ ⟨(blk_cell BK249.out 0).trans rfl, (blk_cell BK249.out 1).trans rfl, (blk_cell BK249.out 2).trans rfl, (blk_cell BK256.out 0).trans rfl, (blk_cell BK256.out 1).trans rfl, (blk_cell BK256.out 2).trans rfl, (blk_cell BK263.out 0).trans rfl, (blk_cell BK263.out 1).trans rfl, (blk_cell BK263.out 2).trans rfl, (blk_cell BK209.out 0).trans rfl, (blk_cell BK209.out 1).trans rfl, (blk_cell BK209.out 2).trans rfl, (blk_cell BK270.out 0).trans rfl, (blk_cell BK270.out 1).trans rfl, (blk_cell BK270.out 2).trans rfl, (blk_cell BK218.out 0).trans rfl, (blk_cell BK218.out 1).trans rfl, (blk_cell BK218.out 2).trans rfl, (blk_cell BK232.out 0).trans rfl, (blk_cell BK232.out 1).trans rfl, (blk_cell BK232.out 2).trans rfl⟩ (fun hHeld => ?_)
                            clear hK K
                            refine norm_ (a' := ?_) ?_ ?_
                            rotate_left
                            · show Act.put _ (some 126) _ = _
                              simp only [Act.put, List.setIfInBounds_toArray, List.set_cons_zero, List.set_cons_succ, i64_w, i32_w]
                              rfl
                            refine one_ (i := 17) (N := some 128) #[true, true, true, true, true, true, true, true, true, true, true, true, true, true, true, true, true, true, false, false, false, false, false, false, false, false, false, false, false, false, false] rfl rfl (one_of HT_.out (by kernel_rfl)) (by decide) (fun K hK => ?_)
                            refine goes_ Try.func18 (by kernel_rfl) rfl #[.agg #[.int .i64 a0_0, .int .i64 a0_1, .slice A0_2 l0_2.length c0_2]] (by rfl) rfl rfl (by (try simp only [List.map_toArray, List.map_cons, List.map_nil]); first | done | rfl | (simp only [List.length_drop, List.length_take]; rfl)) ?_
                            with_reducible refine (incunableref05_Blacks.calls kj85 a0_0 a0_1 _ _ l0_2 t275 _ ?side1 ?side2 A153.out).mono ?_
                            (case side1 => repeat (first | exact (Kd.C_below HR0_2.out HB.out) | (with_reducible refine Kd.C_alloc ?_ _) | (with_reducible refine Kd.C_drewN ?_ _) | (with_reducible refine Kd.C_drew ?_)))
                            (case side2 => exact HC0_2.out)
                            rintro e w164 ⟨rfl, hb⟩
                            refine ⟨_, rfl, ?_⟩
                            have n0_ := Aside0.mk (Kd.R_below (rU HO_219002.out) hb)
                            have n1_ := Aside0.mk (Kd.R_below (rU HO_226002.out) hb)
                            have n2_ := Aside0.mk (Kd.R_below (rU HO_233002.out) hb)
                            have n3_ := Aside0.mk (Kd.R_below (rU HO_240002.out) hb)
                            have n4_ := Aside0.mk (Kd.R_below (rU HO_250002.out) hb)
                            have n5_ := Aside0.mk (Kd.R_below (rU HO_257002.out) hb)
                            have n6_ := Aside0.mk (Kd.R_below (rU HO_264002.out) hb)
                            have n7_ := Aside0.mk (Kd.R_below (rU HO_271002.out) hb)
                            have n8_ := Aside0.mk (blk_below (bU BK209.out) hb)
                            have n9_ := Aside0.mk (blk_below (bU BK218.out) hb)
                            have n10_ := Aside0.mk (blk_below (bU BK225.out) hb)
                            have n11_ := Aside0.mk (blk_below (bU BK232.out) hb)
                            have n12_ := Aside0.mk (blk_below (bU BK239.out) hb)
                            have n13_ := Aside0.mk (blk_below (bU BK249.out) hb)
                            have n14_ := Aside0.mk (blk_below (bU BK256.out) hb)
                            have n15_ := Aside0.mk (blk_below (bU BK263.out) hb)
                            have n16_ := Aside0.mk (blk_below (bU BK270.out) hb)
                            have n17_ := Aside0.mk (below_step (by repeat (first | (with_reducible first | exact HB.out | apply below_alloc | apply pw_below_drewN | apply below_drew1 | refine below_set ?_ GE209.out | refine below_set ?_ GE218.out | refine below_set ?_ GE225.out | refine below_set ?_ GE232.out | refine below_set ?_ GE239.out | refine below_set ?_ GE249.out | refine below_set ?_ GE256.out | refine below_set ?_ GE263.out | refine below_set ?_ GE270.out) | exact HB.out)) hb)
                            clear HO_219002
                            clear HO_226002
                            clear HO_233002
                            clear HO_240002
                            clear HO_250002
                            clear HO_257002
                            clear HO_264002
                            clear HO_271002
                            clear BK209
                            clear BK218
                            clear BK225
                            clear BK232
                            clear BK239
                            clear BK249
                            clear BK256
                            clear BK263
                            clear BK270
                            clear HB
                            have HO_219002 := n0_
                            have HO_226002 := n1_
                            have HO_233002 := n2_
                            have HO_240002 := n3_
                            have HO_250002 := n4_
                            have HO_257002 := n5_
                            have HO_264002 := n6_
                            have HO_271002 := n7_
                            have BK209 := n8_
                            have BK218 := n9_
                            have BK225 := n10_
                            have BK232 := n11_
                            have BK239 := n12_
                            have BK249 := n13_
                            have BK256 := n14_
                            have BK263 := n15_
                            have BK270 := n16_
                            have HB := n17_
                            clear n0_ n1_ n2_ n3_ n4_ n5_ n6_ n7_ n8_ n9_ n10_ n11_ n12_ n13_ n14_ n15_ n16_ n17_
                            (try clear hb)
                            (try clear hb2)
                            (try clear hk)
                            (try clear hi)
                            refine hK.out _ _ ⟨(blk_cell BK249.out 0).trans rfl, (blk_cell BK249.out 1).trans rfl, (blk_cell BK249.out 2).trans rfl, (blk_cell BK256.out 0).trans rfl, (blk_cell BK256.out 1).trans rfl, (blk_cell BK256.out 2).trans rfl, (blk_cell BK263.out 0).trans rfl, (blk_cell BK263.out 1).trans rfl, (blk_cell BK263.out 2).trans rfl, (blk_cell BK209.out 0).trans rfl, (blk_cell BK209.out 1).trans rfl, (blk_cell BK209.out 2).trans rfl, (blk_cell BK270.out 0).trans rfl, (blk_cell BK270.out 1).trans rfl, (blk_cell BK270.out 2).trans rfl, (blk_cell BK218.out 0).trans rfl, (blk_cell BK218.out 1).trans rfl, (blk_cell BK218.out 2).trans rfl, (blk_cell BK232.out 0).trans rfl, (blk_cell BK232.out 1).trans rfl, (blk_cell BK232.out 2).trans rfl⟩ (fun hHeld => ?_)
                            clear hK K
                            refine norm_ (a' := ?_) ?_ ?_
                            rotate_left
                            · show Act.put _ (some 128) _ = _
                              simp only [Act.put, List.setIfInBounds_toArray, List.set_cons_zero, List.set_cons_succ, i64_w, i32_w]
                              rfl
                            refine pure_ (i := 18) (N := some 129) (v := ?_) (a' := ?_) #[true, true, true, true, true, true, true, true, true, true, true, true, true, true, true, true, true, true, true, false, false, false, false, false, false, false, false, false, false, false, false] rfl rfl (any_of HT_.out (by kernel_rfl)) (fun _ _ _ h => h) (Or.inl ⟨by rfl, ?_⟩) ?_ ?_
                            rotate_left
                            · intro w'
                              go_simp
                              with_reducible rfl
                            rotate_left
                            · simp only [Act.put, List.setIfInBounds_toArray, List.set_cons_zero, List.set_cons_succ, i64_w, i32_w]
                              rfl
                            refine pure_ (i := 19) (N := some 130) (v := ?_) (a' := ?_) #[true, true, true, true, true, true, true, true, true, true, true, true, true, true, true, true, true, true, true, true, false, false, false, false, false, false, false, false, false, false, false] rfl rfl (any_of HT_.out (by kernel_rfl)) (fun _ _ _ h => h) (Or.inl ⟨by rfl, ?_⟩) ?_ ?_
                            rotate_left
                            · intro w'
                              go_simp
                              with_reducible rfl
                            rotate_left
                            · simp only [Act.put, List.setIfInBounds_toArray, List.set_cons_zero, List.set_cons_succ, i64_w, i32_w]
                              rfl
                            refine pure_ (i := 20) (N := some 131) (v := ?_) (a' := ?_) #[true, true, true, true, true, true, true, true, true, true, true, true, true, true, true, true, true, true, true, true, true, false, false, false, false, false, false, false, false, false, false] rfl rfl (any_of HT_.out (by kernel_rfl)) (fun _ _ _ h => h) (Or.inl ⟨by rfl, ?_⟩) ?_ ?_
                            rotate_left
                            · intro w'
                              go_simp
                              with_reducible rfl
                            rotate_left
                            · simp only [Act.put, List.setIfInBounds_toArray, List.set_cons_zero, List.set_cons_succ, i64_w, i32_w]
                              rfl
                            refine take_ (i := 21) (N := some 132) (v := ?_) (a' := ?_) #[true, true, true, true, true, true, true, true, true, true, true, true, true, true, true, true, true, true, true, true, true, true, false, false, false, false, false, false, false, false, false] rfl rfl (take_ofW HT_.out HW_.out (by kernel_rfl)) (fun _ _ _ h => h) (Or.inl ⟨by rfl, ?_⟩) hHeld ?_ ?_
                            rotate_left
                            · rintro w' ⟨s0, s1, s2, s3, s4, s5, s6, s7, s8, s9, s10, s11, s12, s13, s14, s15, s16, s17, s18, s19, s20⟩
                              go_simp
                              with_reducible rfl
                            rotate_left
                            · simp only [Act.put, List.setIfInBounds_toArray, List.set_cons_zero, List.set_cons_succ, i64_w, i32_w]
                              rfl
                            refine take_ (i := 23) (N := some 134) (v := ?_) (a' := ?_) #[true, true, true, true, true, true, true, true, true, true, true, true, true, true, true, true, true, true, true, true, true, true, false, true, false, false, false, false, false, false, false] rfl rfl (take_ofW HT_.out HW_.out (by kernel_rfl)) (fun _ _ _ h => h) (Or.inl ⟨by rfl, ?_⟩) hHeld ?_ ?_
                            rotate_left
                            · rintro w' ⟨s0, s1, s2, s3, s4, s5, s6, s7, s8, s9, s10, s11, s12, s13, s14, s15, s16, s17, s18, s19, s20⟩
                              go_simp
                              with_reducible rfl
                            rotate_left
                            · simp only [Act.put, List.setIfInBounds_toArray, List.set_cons_zero, List.set_cons_succ, i64_w, i32_w]
                              rfl
                            refine one_ (i := 22) (N := some 133) #[true, true, true, true, true, true, true, true, true, true, true, true, true, true, true, true, true, true, true, true, true, true, true, true, false, false, false, false, false, false, false] rfl rfl (one_of HT_.out (by kernel_rfl)) (by decide) (fun K hK => ?_)
                            refine goes_ Try.func18 (by kernel_rfl) rfl #[.agg #[.int .i64 t226, .int .i64 t227, .slice Ao39 t228.length co39]] (by rfl) rfl rfl (by (try simp only [List.map_toArray, List.map_cons, List.map_nil]); first | done | rfl | (simp only [List.length_drop, List.length_take]; rfl)) ?_
                            with_reducible refine (incunableref05_Blacks.calls kj85 t226 t227 _ _ t228 t276 _ ?side1 ?side2 A155.out).mono ?_
                            (case side1 => repeat (first | exact (Kd.R_reads' HO_233002.out).2.2 | (with_reducible refine Kd.C_alloc ?_ _) | (with_reducible refine Kd.C_drewN ?_ _) | (with_reducible refine Kd.C_drew ?_)))
                            (case side2 => exact (Kd.R_reads' HO_233002.out).2.1)
                            rintro e w165 ⟨rfl, hb⟩
                            refine ⟨_, rfl, ?_⟩
                            have n0_ := Aside0.mk (Kd.R_below (rU HO_219002.out) hb)
                            have n1_ := Aside0.mk (Kd.R_below (rU HO_226002.out) hb)
                            have n2_ := Aside0.mk (Kd.R_below (rU HO_233002.out) hb)
                            have n3_ := Aside0.mk (Kd.R_below (rU HO_240002.out) hb)
                            have n4_ := Aside0.mk (Kd.R_below (rU HO_250002.out) hb)
                            have n5_ := Aside0.mk (Kd.R_below (rU HO_257002.out) hb)
                            have n6_ := Aside0.mk (Kd.R_below (rU HO_264002.out) hb)
                            have n7_ := Aside0.mk (Kd.R_below (rU HO_271002.out) hb)
                            have n8_ := Aside0.mk (blk_below (bU BK209.out) hb)
                            have n9_ := Aside0.mk (blk_below (bU BK218.out) hb)
                            have n10_ := Aside0.mk (blk_below (bU BK225.out) hb)
                            have n11_ := Aside0.mk (blk_below (bU BK232.out) hb)
                            have n12_ := Aside0.mk (blk_below (bU BK239.out) hb)
                            have n13_ := Aside0.mk (blk_below (bU BK249.out) hb)
                            have n14_ := Aside0.mk (blk_below (bU BK256.out) hb)
                            have n15_ := Aside0.mk (blk_below (bU BK263.out) hb)
                            have n16_ := Aside0.mk (blk_below (bU BK270.out) hb)
                            have n17_ := Aside0.mk (below_step (by repeat (first | (with_reducible first | exact HB.out | apply below_alloc | apply pw_below_drewN | apply below_drew1 | refine below_set ?_ GE209.out | refine below_set ?_ GE218.out | refine below_set ?_ GE225.out | refine below_set ?_ GE232.out | refine below_set ?_ GE239.out | refine below_set ?_ GE249.out | refine below_set ?_ GE256.out | refine below_set ?_ GE263.out | refine below_set ?_ GE270.out) | exact HB.out)) hb)
                            clear HO_219002
                            clear HO_226002
                            clear HO_233002
                            clear HO_240002
                            clear HO_250002
                            clear HO_257002
                            clear HO_264002
                            clear HO_271002
                            clear BK209
                            clear BK218
                            clear BK225
                            clear BK232
                            clear BK239
                            clear BK249
                            clear BK256
                            clear BK263
                            clear BK270
                            clear HB
                            have HO_219002 := n0_
                            have HO_226002 := n1_
                            have HO_233002 := n2_
                            have HO_240002 := n3_
                            have HO_250002 := n4_
                            have HO_257002 := n5_
                            have HO_264002 := n6_
                            have HO_271002 := n7_
                            have BK209 := n8_
                            have BK218 := n9_
                            have BK225 := n10_
                            have BK232 := n11_
                            have BK239 := n12_
                            have BK249 := n13_
                            have BK256 := n14_
                            have BK263 := n15_
                            have BK270 := n16_
                            have HB := n17_
                            clear n0_ n1_ n2_ n3_ n4_ n5_ n6_ n7_ n8_ n9_ n10_ n11_ n12_ n13_ n14_ n15_ n16_ n17_
                            (try clear hb)
                            (try clear hb2)
                            (try clear hk)
                            (try clear hi)
                            refine hK.out _ _ ⟨(blk_cell BK249.out 0).trans rfl, (blk_cell BK249.out 1).trans rfl, (blk_cell BK249.out 2).trans rfl, (blk_cell BK256.out 0).trans rfl, (blk_cell BK256.out 1).trans rfl, (blk_cell BK256.out 2).trans rfl, (blk_cell BK263.out 0).trans rfl, (blk_cell BK263.out 1).trans rfl, (blk_cell BK263.out 2).trans rfl, (blk_cell BK209.out 0).trans rfl, (blk_cell BK209.out 1).trans rfl, (blk_cell BK209.out 2).trans rfl, (blk_cell BK270.out 0).trans rfl, (blk_cell BK270.out 1).trans rfl, (blk_cell BK270.out 2).trans rfl, (blk_cell BK218.out 0).trans rfl, (blk_cell BK218.out 1).trans rfl, (blk_cell BK218.out 2).trans rfl, (blk_cell BK232.out 0).trans rfl, (blk_cell BK232.out 1).trans rfl, (blk_cell BK232.out 2).trans rfl⟩ (fun hHeld => ?_)
                            clear hK K
                            refine norm_ (a' := ?_) ?_ ?_
                            rotate_left
                            · show Act.put _ (some 133) _ = _
                              simp only [Act.put, List.setIfInBounds_toArray, List.set_cons_zero, List.set_cons_succ, i64_w, i32_w]
                              rfl
                            refine one_ (i := 24) (N := some 135) #[true, true, true, true, true, true, true, true, true, true, true, true, true, true, true, true, true, true, true, true, true, true, true, true, true, false, false, false, false, false, false] rfl rfl (one_of HT_.out (by kernel_rfl)) (by decide) (fun K hK => ?_)
                            refine goes_ Try.func18 (by kernel_rfl) rfl #[.agg #[.int .i64 a0_0, .int .i64 a0_1, .slice A0_2 l0_2.length c0_2]] (by rfl) rfl rfl (by (try simp only [List.map_toArray, List.map_cons, List.map_nil]); first | done | rfl | (simp only [List.length_drop, List.length_take]; rfl)) ?_
                            with_reducible refine (incunableref05_Blacks.calls kj85 a0_0 a0_1 _ _ l0_2 t277 _ ?side1 ?side2 A156.out).mono ?_
                            (case side1 => repeat (first | exact (Kd.C_below HR0_2.out HB.out) | (with_reducible refine Kd.C_alloc ?_ _) | (with_reducible refine Kd.C_drewN ?_ _) | (with_reducible refine Kd.C_drew ?_)))
                            (case side2 => exact HC0_2.out)
                            rintro e w166 ⟨rfl, hb⟩
                            refine ⟨_, rfl, ?_⟩
                            have n0_ := Aside0.mk (Kd.R_below (rU HO_219002.out) hb)
                            have n1_ := Aside0.mk (Kd.R_below (rU HO_226002.out) hb)
                            have n2_ := Aside0.mk (Kd.R_below (rU HO_233002.out) hb)
                            have n3_ := Aside0.mk (Kd.R_below (rU HO_240002.out) hb)
                            have n4_ := Aside0.mk (Kd.R_below (rU HO_250002.out) hb)
                            have n5_ := Aside0.mk (Kd.R_below (rU HO_257002.out) hb)
                            have n6_ := Aside0.mk (Kd.R_below (rU HO_264002.out) hb)
                            have n7_ := Aside0.mk (Kd.R_below (rU HO_271002.out) hb)
                            have n8_ := Aside0.mk (blk_below (bU BK209.out) hb)
                            have n9_ := Aside0.mk (blk_below (bU BK218.out) hb)
                            have n10_ := Aside0.mk (blk_below (bU BK225.out) hb)
                            have n11_ := Aside0.mk (blk_below (bU BK232.out) hb)
                            have n12_ := Aside0.mk (blk_below (bU BK239.out) hb)
                            have n13_ := Aside0.mk (blk_below (bU BK249.out) hb)
                            have n14_ := Aside0.mk (blk_below (bU BK256.out) hb)
                            have n15_ := Aside0.mk (blk_below (bU BK263.out) hb)
                            have n16_ := Aside0.mk (blk_below (bU BK270.out) hb)
                            have n17_ := Aside0.mk (below_step (by repeat (first | (with_reducible first | exact HB.out | apply below_alloc | apply pw_below_drewN | apply below_drew1 | refine below_set ?_ GE209.out | refine below_set ?_ GE218.out | refine below_set ?_ GE225.out | refine below_set ?_ GE232.out | refine below_set ?_ GE239.out | refine below_set ?_ GE249.out | refine below_set ?_ GE256.out | refine below_set ?_ GE263.out | refine below_set ?_ GE270.out) | exact HB.out)) hb)
                            clear HO_219002
                            clear HO_226002
                            clear HO_233002
                            clear HO_240002
                            clear HO_250002
                            clear HO_257002
                            clear HO_264002
                            clear HO_271002
                            clear BK209
                            clear BK218
                            clear BK225
                            clear BK232
                            clear BK239
                            clear BK249
                            clear BK256
                            clear BK263
                            clear BK270
                            clear HB
                            have HO_219002 := n0_
                            have HO_226002 := n1_
                            have HO_233002 := n2_
                            have HO_240002 := n3_
                            have HO_250002 := n4_
                            have HO_257002 := n5_
                            have HO_264002 := n6_
                            have HO_271002 := n7_
                            have BK209 := n8_
                            have BK218 := n9_
                            have BK225 := n10_
                            have BK232 := n11_
                            have BK239 := n12_
                            have BK249 := n13_
                            have BK256 := n14_
                            have BK263 := n15_
                            have BK270 := n16_
                            have HB := n17_
                            clear n0_ n1_ n2_ n3_ n4_ n5_ n6_ n7_ n8_ n9_ n10_ n11_ n12_ n13_ n14_ n15_ n16_ n17_
                            (try clear hb)
                            (try clear hb2)
                            (try clear hk)
                            (try clear hi)
                            refine hK.out _ _ ⟨(blk_cell BK249.out 0).trans rfl, (blk_cell BK249.out 1).trans rfl, (blk_cell BK249.out 2).trans rfl, (blk_cell BK256.out 0).trans rfl, (blk_cell BK256.out 1).trans rfl, (blk_cell BK256.out 2).trans rfl, (blk_cell BK263.out 0).trans rfl, (blk_cell BK263.out 1).trans rfl, (blk_cell BK263.out 2).trans rfl, (blk_cell BK209.out 0).trans rfl, (blk_cell BK209.out 1).trans rfl, (blk_cell BK209.out 2).trans rfl, (blk_cell BK270.out 0).trans rfl, (blk_cell BK270.out 1).trans rfl, (blk_cell BK270.out 2).trans rfl, (blk_cell BK218.out 0).trans rfl, (blk_cell BK218.out 1).trans rfl, (blk_cell BK218.out 2).trans rfl, (blk_cell BK232.out 0).trans rfl, (blk_cell BK232.out 1).trans rfl, (blk_cell BK232.out 2).trans rfl⟩ (fun hHeld => ?_)
                            clear hK K
                            refine norm_ (a' := ?_) ?_ ?_
                            rotate_left
                            · show Act.put _ (some 135) _ = _
                              simp only [Act.put, List.setIfInBounds_toArray, List.set_cons_zero, List.set_cons_succ, i64_w, i32_w]
                              rfl
                            refine pure_ (i := 25) (N := some 136) (v := ?_) (a' := ?_) #[true, true, true, true, true, true, true, true, true, true, true, true, true, true, true, true, true, true, true, true, true, true, true, true, true, true, false, false, false, false, false] rfl rfl (any_of HT_.out (by kernel_rfl)) (fun _ _ _ h => h) (Or.inl ⟨by rfl, ?_⟩) ?_ ?_
                            rotate_left
                            · intro w'
                              go_simp
                              with_reducible rfl
                            rotate_left
                            · simp only [Act.put, List.setIfInBounds_toArray, List.set_cons_zero, List.set_cons_succ, i64_w, i32_w]
                              rfl
                            refine pure_ (i := 26) (N := some 137) (v := ?_) (a' := ?_) #[true, true, true, true, true, true, true, true, true, true, true, true, true, true, true, true, true, true, true, true, true, true, true, true, true, true, true, false, false, false, false] rfl rfl (any_of HT_.out (by kernel_rfl)) (fun _ _ _ h => h) (Or.inl ⟨by rfl, ?_⟩) ?_ ?_
                            rotate_left
                            · intro w'
                              go_simp
                              with_reducible rfl
                            rotate_left
                            · simp only [Act.put, List.setIfInBounds_toArray, List.set_cons_zero, List.set_cons_succ, i64_w, i32_w]
                              rfl
                            refine pure_ (i := 27) (N := some 138) (v := ?_) (a' := ?_) #[true, true, true, true, true, true, true, true, true, true, true, true, true, true, true, true, true, true, true, true, true, true, true, true, true, true, true, true, false, false, false] rfl rfl (any_of HT_.out (by kernel_rfl)) (fun _ _ _ h => h) (Or.inl ⟨by rfl, ?_⟩) ?_ ?_
                            rotate_left
                            · intro w'
                              go_simp
                              with_reducible rfl
                            rotate_left
                            · simp only [Act.put, List.setIfInBounds_toArray, List.set_cons_zero, List.set_cons_succ, i64_w, i32_w]
                              rfl
                            refine one_ (i := 28) (N := some 139) #[true, true, true, true, true, true, true, true, true, true, true, true, true, true, true, true, true, true, true, true, true, true, true, true, true, true, true, true, true, false, false] rfl rfl (one_of HT_.out (by kernel_rfl)) (by decide) (fun K hK => ?_)
                            refine goes_ Try.func12 (by kernel_rfl) rfl #[] (by rfl) rfl rfl (by (try simp only [List.map_toArray, List.map_cons, List.map_nil]); first | done | rfl | (simp only [List.length_drop, List.length_take]; rfl)) ?_
                            with_reducible refine (incunablelaw05_Sane.calls kj85  t278 _ A158.out).mono ?_
                            rintro e w167 ⟨rfl, hb⟩
                            refine ⟨_, rfl, ?_⟩
                            have n0_ := Aside0.mk (Kd.R_below (rU HO_219002.out) hb)
                            have n1_ := Aside0.mk (Kd.R_below (rU HO_226002.out) hb)
                            have n2_ := Aside0.mk (Kd.R_below (rU HO_233002.out) hb)
                            have n3_ := Aside0.mk (Kd.R_below (rU HO_240002.out) hb)
                            have n4_ := Aside0.mk (Kd.R_below (rU HO_250002.out) hb)
                            have n5_ := Aside0.mk (Kd.R_below (rU HO_257002.out) hb)
                            have n6_ := Aside0.mk (Kd.R_below (rU HO_264002.out) hb)
                            have n7_ := Aside0.mk (Kd.R_below (rU HO_271002.out) hb)
                            have n8_ := Aside0.mk (blk_below (bU BK209.out) hb)
                            have n9_ := Aside0.mk (blk_below (bU BK218.out) hb)
                            have n10_ := Aside0.mk (blk_below (bU BK225.out) hb)
                            have n11_ := Aside0.mk (blk_below (bU BK232.out) hb)
                            have n12_ := Aside0.mk (blk_below (bU BK239.out) hb)
                            have n13_ := Aside0.mk (blk_below (bU BK249.out) hb)
                            have n14_ := Aside0.mk (blk_below (bU BK256.out) hb)
                            have n15_ := Aside0.mk (blk_below (bU BK263.out) hb)
                            have n16_ := Aside0.mk (blk_below (bU BK270.out) hb)
                            have n17_ := Aside0.mk (below_step (by repeat (first | (with_reducible first | exact HB.out | apply below_alloc | apply pw_below_drewN | apply below_drew1 | refine below_set ?_ GE209.out | refine below_set ?_ GE218.out | refine below_set ?_ GE225.out | refine below_set ?_ GE232.out | refine below_set ?_ GE239.out | refine below_set ?_ GE249.out | refine below_set ?_ GE256.out | refine below_set ?_ GE263.out | refine below_set ?_ GE270.out) | exact HB.out)) hb)
                            clear HO_219002
                            clear HO_226002
                            clear HO_233002
                            clear HO_240002
                            clear HO_250002
                            clear HO_257002
                            clear HO_264002
                            clear HO_271002
                            clear BK209
                            clear BK218
                            clear BK225
                            clear BK232
                            clear BK239
                            clear BK249
                            clear BK256
                            clear BK263
                            clear BK270
                            clear HB
                            have HO_219002 := n0_
                            have HO_226002 := n1_
                            have HO_233002 := n2_
                            have HO_240002 := n3_
                            have HO_250002 := n4_
                            have HO_257002 := n5_
                            have HO_264002 := n6_
                            have HO_271002 := n7_
                            have BK209 := n8_
                            have BK218 := n9_
                            have BK225 := n10_
                            have BK232 := n11_
                            have BK239 := n12_
                            have BK249 := n13_
                            have BK256 := n14_
                            have BK263 := n15_
                            have BK270 := n16_
                            have HB := n17_
                            clear n0_ n1_ n2_ n3_ n4_ n5_ n6_ n7_ n8_ n9_ n10_ n11_ n12_ n13_ n14_ n15_ n16_ n17_
                            (try clear hb)
                            (try clear hb2)
                            (try clear hk)
                            (try clear hi)
                            refine hK.out _ _ ⟨(blk_cell BK249.out 0).trans rfl, (blk_cell BK249.out 1).trans rfl, (blk_cell BK249.out 2).trans rfl, (blk_cell BK256.out 0).trans rfl, (blk_cell BK256.out 1).trans rfl, (blk_cell BK256.out 2).trans rfl, (blk_cell BK263.out 0).trans rfl, (blk_cell BK263.out 1).trans rfl, (blk_cell BK263.out 2).trans rfl, (blk_cell BK209.out 0).trans rfl, (blk_cell BK209.out 1).trans rfl, (blk_cell BK209.out 2).trans rfl, (blk_cell BK270.out 0).trans rfl, (blk_cell BK270.out 1).trans rfl, (blk_cell BK270.out 2).trans rfl, (blk_cell BK218.out 0).trans rfl, (blk_cell BK218.out 1).trans rfl, (blk_cell BK218.out 2).trans rfl, (blk_cell BK232.out 0).trans rfl, (blk_cell BK232.out 1).trans rfl, (blk_cell BK232.out 2).trans rfl⟩ (fun hHeld => ?_)
                            clear hK K
                            refine norm_ (a' := ?_) ?_ ?_
                            rotate_left
                            · show Act.put _ (some 139) _ = _
                              simp only [Act.put, List.setIfInBounds_toArray, List.set_cons_zero, List.set_cons_succ, i64_w, i32_w]
                              rfl
                            refine pure_ (i := 29) (N := some 140) (v := ?_) (a' := ?_) #[true, true, true, true, true, true, true, true, true, true, true, true, true, true, true, true, true, true, true, true, true, true, true, true, true, true, true, true, true, true, false] rfl rfl (any_of HT_.out (by kernel_rfl)) (fun _ _ _ h => h) (Or.inl ⟨by rfl, ?_⟩) ?_ ?_
                            rotate_left
                            · intro w'
                              go_simp
                              with_reducible rfl
                            rotate_left
                            · simp only [Act.put, List.setIfInBounds_toArray, List.set_cons_zero, List.set_cons_succ, i64_w, i32_w]
                              rfl
                            refine pure_ (i := 30) (N := some 6) (v := ?_) (a' := ?_) #[true, true, true, true, true, true, true, true, true, true, true, true, true, true, true, true, true, true, true, true, true, true, true, true, true, true, true, true, true, true, true] rfl rfl (any_of HT_.out (by kernel_rfl)) (fun _ _ _ h => h) (Or.inl ⟨by rfl, ?_⟩) ?_ ?_
                            rotate_left
                            · intro w'
                              go_simp
                              with_reducible rfl
                            rotate_left
                            · simp only [Act.put, List.setIfInBounds_toArray, List.set_cons_zero, List.set_cons_succ, i64_w, i32_w]
                              rfl
                            refine done_ (done_of HT_.out (by kernel_rfl)) ?_
                            try go_wp2
                            go_ret
                            exact ⟨by first | rfl | (simp [errW_none, errW_some] <;> rfl) | (simp [*, errW_none, errW_some] <;> rfl), by repeat (first | (with_reducible first | exact HB.out | apply below_alloc | apply pw_below_drewN | apply below_drew1 | refine below_set ?_ GE209.out | refine below_set ?_ GE218.out | refine below_set ?_ GE225.out | refine below_set ?_ GE232.out | refine below_set ?_ GE239.out | refine below_set ?_ GE249.out | refine below_set ?_ GE256.out | refine below_set ?_ GE263.out | refine below_set ?_ GE270.out) | exact HB.out)⟩
                          · rw [if_neg c157] at H
                            have c157b0 : (t276 == t277) = false := beq_eq_false_iff_ne.mpr c157
                            have c157b1 : (t276 != t277) = true := bne_iff_ne.mpr c157
                            exact absurd ((Option.some.inj H).trans HR_.out) (by decide)
                        · rw [if_neg c154] at H
                          have c154b0 : (t274 == t275) = false := beq_eq_false_iff_ne.mpr c154
                          have c154b1 : (t274 != t275) = true := bne_iff_ne.mpr c154
                          exact absurd ((Option.some.inj H).trans HR_.out) (by decide)
                      · replace c151 := Bool.eq_false_iff.mpr c151
                        subst c151
                        have H1 : (some false) = some r := by rw [if_neg (show ¬ (false = true) by decide)] at H; exact H
                        clear H
                        have H := H1
                        clear H1
                        exact absurd ((Option.some.inj H).trans HR_.out) (by decide)
                    · replace c149 := Bool.eq_false_iff.mpr c149
                      subst c149
                      have H1 : (some false) = some r := by rw [if_neg (show ¬ (false = true) by decide)] at H; exact H
                      clear H
                      have H := H1
                      clear H1
                      exact absurd ((Option.some.inj H).trans HR_.out) (by decide)
                  · replace c147 := Bool.eq_false_iff.mpr c147
                    subst c147
                    have H1 : (some false) = some r := by rw [if_neg (show ¬ (false = true) by decide)] at H; exact H
                    clear H
                    have H := H1
                    clear H1
                    exact absurd ((Option.some.inj H).trans HR_.out) (by decide)
          · rw [if_neg c81] at H
            have c81b0 : (t217 == 0) = false := beq_eq_false_iff_ne.mpr c81
            have c81b1 : (t217 != 0) = true := bne_iff_ne.mpr c81
            replace H := Option.bind_eq_some_iff.mp H
            obtain ⟨t242, A1680, H⟩ := H
            replace H : (some t242) = some r := H
            have A168 := Aside0.mk A1680
            clear A1680
            obtain rfl := Option.some.inj H
            go_wp2_with (first | ((with_reducible refine gate_callee (f := 12) rfl ?_); refine goesL_ (some 66) rfl rfl Try.func12 (by kernel_rfl) rfl #[] rfl (by (try simp only [List.map_toArray, List.map_cons, List.map_nil]); first | done | rfl | (simp only [List.length_drop, List.length_take]; rfl)) ?_; (with_reducible refine (incunablelaw05_Sane.calls kj14  t242 _ A168.out).mono ?_); rintro e w169 ⟨rfl, hb⟩; refine ⟨_, rfl, ?_⟩; have n0_ := Aside0.mk (Kd.R_below (rU HO_219002.out) hb); have n1_ := Aside0.mk (Kd.R_below (rU HO_226002.out) hb); have n2_ := Aside0.mk (Kd.R_below (rU HO_233002.out) hb); have n3_ := Aside0.mk (Kd.R_below (rU HO_240002.out) hb); have n4_ := Aside0.mk (blk_below (bU BK209.out) hb); have n5_ := Aside0.mk (blk_below (bU BK218.out) hb); have n6_ := Aside0.mk (blk_below (bU BK225.out) hb); have n7_ := Aside0.mk (blk_below (bU BK232.out) hb); have n8_ := Aside0.mk (blk_below (bU BK239.out) hb); have n9_ := Aside0.mk (below_step (by repeat (first | (with_reducible first | exact HB.out | apply below_alloc | apply pw_below_drewN | apply below_drew1 | refine below_set ?_ GE209.out | refine below_set ?_ GE218.out | refine below_set ?_ GE225.out | refine below_set ?_ GE232.out | refine below_set ?_ GE239.out) | exact HB.out)) hb); clear HO_219002; clear HO_226002; clear HO_233002; clear HO_240002; clear BK209; clear BK218; clear BK225; clear BK232; clear BK239; clear HB; have HO_219002 := n0_; have HO_226002 := n1_; have HO_233002 := n2_; have HO_240002 := n3_; have BK209 := n4_; have BK218 := n5_; have BK225 := n6_; have BK232 := n7_; have BK239 := n8_; have HB := n9_; clear n0_ n1_ n2_ n3_ n4_ n5_ n6_ n7_ n8_ n9_; (try clear hb); (try clear hb2); (try clear hk); (try clear hi)))
            go_ret
            exact ⟨by first | rfl | (simp [errW_none, errW_some] <;> rfl) | (simp [*, errW_none, errW_some] <;> rfl), by repeat (first | (with_reducible first | exact HB.out | apply below_alloc | apply pw_below_drewN | apply below_drew1 | refine below_set ?_ GE209.out | refine below_set ?_ GE218.out | refine below_set ?_ GE225.out | refine below_set ?_ GE232.out | refine below_set ?_ GE239.out) | exact HB.out)⟩

/-- THE ONE PURE STATEMENT of incunablelaw05_BitmapTurns: yours. -/
def incunablelaw05_BitmapTurns.Pure : Prop := ∀ (a0_0 : Int) (a0_1 : Int) (l0_2 : List Int) (a1 : Int) (a2 : Int), ((Lit.int .i64 a0_0).wf = true) → ((Lit.int .i64 a0_1).wf = true) → (l0_2.length ≤ 9223372036854775807 ∧ l0_2.length * 1 ≤ 140737488351232 ∧ ∀ y0_ ∈ l0_2, (Lit.int .u8 y0_).wf = true) → ((Lit.int .i64 a1).wf = true) → ((Lit.int .i64 a2).wf = true) → ∃ k, incunablelaw05_BitmapTurns.f k a0_0 a0_1 l0_2 a1 a2 = some true
theorem incunablelaw05_BitmapTurns.walk (P : incunablelaw05_BitmapTurns.Pure) (a0_0 : Int) (a0_1 : Int) (A0_2 : Option Addr) (c0_2 : Nat) (l0_2 : List Int) (a1 : Int) (a2 : Int) (w : World) (hr0_2 : Kd.C (Kd.int .u8) w A0_2 l0_2.length l0_2) (hc0_2 : l0_2.length ≤ c0_2) (g0_0 : (Lit.int .i64 a0_0).wf = true) (g0_1 : (Lit.int .i64 a0_1).wf = true) (g0_2 : l0_2.length ≤ 9223372036854775807 ∧ l0_2.length * 1 ≤ 140737488351232 ∧ ∀ y0_ ∈ l0_2, (Lit.int .u8 y0_).wf = true) (g1 : (Lit.int .i64 a1).wf = true) (g2 : (Lit.int .i64 a2).wf = true) :
    Calls Try.prog 3 #[.agg #[.int .i64 a0_0, .int .i64 a0_1, .slice A0_2 l0_2.length c0_2], .int .i64 a1, .int .i64 a2] w fun e w' => e = .returned (.bool true) ∧ Below w.heap.size w w' := by
  obtain ⟨k, h⟩ := P a0_0 a0_1 l0_2 a1 a2 g0_0 g0_1 g0_2 g1 g2
  refine (incunablelaw05_BitmapTurns.calls k a0_0 a0_1 A0_2 c0_2 l0_2 a1 a2 true w hr0_2 hc0_2 h rfl).mono ?_
  rintro e w' ⟨rfl, hd⟩
  exact ⟨rfl, hd⟩

end Go.Proofs.Ytgcjhpcegmblgaa.PBitmapTurns
