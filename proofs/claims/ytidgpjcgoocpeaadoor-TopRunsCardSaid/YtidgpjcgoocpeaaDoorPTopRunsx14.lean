-- printed (wip/tools/myprint.py)
import Derived.Test.YtidgpjcgoocpeaaDoorPTopRunsx0
import Derived.Test.YtidgpjcgoocpeaaDoorPTopRunsx1
import Derived.Test.YtidgpjcgoocpeaaDoorPTopRunsx4
import Derived.Test.YtidgpjcgoocpeaaDoorPTopRunsx8
import Derived.Test.YtidgpjcgoocpeaaDoorPTopRunsx10
import Derived.Test.YtidgpjcgoocpeaaDoorPTopRunsx11
import Derived.Test.YtidgpjcgoocpeaaDoorPTopRunsx13
namespace Go.Proofs.YtidgpjcgoocpeaaDoor.PTopRuns
open Go.RowKit Go.Proofs.YtidgpjcgoocpeaaDoorW.PrintWords Go.Proofs.YtidgpjcgoocpeaaDoorW.PrintLast Go.Proofs.YtidgpjcgoocpeaaDoorW.PrintMore
attribute [local go_sem] max2_int min2_int max_two min_two max_three min_three max_four min_four
set_option linter.unusedVariables false
set_option linter.unusedSimpArgs false
def runs_reader_one.l0 : Nat → Int → List Int → Int → List Int → Int → Bool → Option (List Int × Int × Int × Bool)
 | 0, _, _, _, _, _, _ => none
 | k + 1, x1, x8, x9, x1000, x1001, x1002 => if (x8.length : Int) < x1 then ((runs_reader_run.f k x1000 x1001 x1002 (Int.tmod x9 2)).bind fun bt501 => (if bt501.2.1 = 0 then (if bt501.1 = 0 then (if x9 > 0 then (some (([] : List Int), 3, bt501.2.2.1, bt501.2.2.2)) else (if bt501.1 > (wrap64 (x1 - (x8.length : Int))) then (some (([] : List Int), 3, bt501.2.2.1, bt501.2.2.2)) else ((slices_Repeat_byte_byte.f k (([(Int.tmod x9 2) % 256] : List Int)) bt501.1).bind fun t508 => (if x8.length + t508.length < 140737488355328 then (runs_reader_one.l0 k x1 (x8 ++ t508) (wrap64 (x9 + 1)) x1000 bt501.2.2.1 bt501.2.2.2) else (none))))) else (if bt501.1 > (wrap64 (x1 - (x8.length : Int))) then (some (([] : List Int), 3, bt501.2.2.1, bt501.2.2.2)) else ((slices_Repeat_byte_byte.f k (([(Int.tmod x9 2) % 256] : List Int)) bt501.1).bind fun t517 => (if x8.length + t517.length < 140737488355328 then (runs_reader_one.l0 k x1 (x8 ++ t517) (wrap64 (x9 + 1)) x1000 bt501.2.2.1 bt501.2.2.2) else (none))))) else (some (([] : List Int), bt501.2.1, bt501.2.2.1, bt501.2.2.2)))) else (some (x8, 0, x1001, x1002))
def runs_reader_one.f (k : Nat) (s0_0 : List Int) (s0_1 : Int) (s0_2 : Bool) (a1 : Int) (l2 : List Int) : Option (List Int × Int × Int × Bool) := runs_reader_one.l0 k a1 ([] : List Int) 0 s0_0 s0_1 s0_2
theorem runs_reader_one.mono_l : ∀ k, (∀ y0 y1 y2 y3 y4 y5, LeO (runs_reader_one.l0 k y0 y1 y2 y3 y4 y5) (runs_reader_one.l0 (k + 1) y0 y1 y2 y3 y4 y5))
 | 0 => fun _ _ _ _ _ _ r h => by simp [runs_reader_one.l0] at h
 | k + 1 => by
  have ih0 := runs_reader_one.mono_l k
  ·intro y0 y1 y2 y3 y4 y5
   unfold runs_reader_one.l0
   repeat' first
   | (with_reducible exact ih0 _ _ _ _ _ _)
   | (with_reducible exact runs_reader_run.mono _ _ _ _ _)
   | (with_reducible exact slices_Repeat_byte_byte.mono _ _ _)
   | (with_reducible first | exact LeO.refl _ | exact LeO.none _ | refine LeO.ite ?_ ?_ | refine LeO.bind ?_ (fun _ => ?_))
theorem runs_reader_one.mono : ∀ a0 a1 a2 a3 a4 k, LeO (runs_reader_one.f k a0 a1 a2 a3 a4) (runs_reader_one.f (k + 1) a0 a1 a2 a3 a4) := by
 intro a0 a1 a2 a3 a4 k
 have ih0 := runs_reader_one.mono_l k
 unfold runs_reader_one.f
 repeat' first
   | (with_reducible exact ih0 _ _ _ _ _ _)
   | (with_reducible exact runs_reader_run.mono _ _ _ _ _)
   | (with_reducible exact slices_Repeat_byte_byte.mono _ _ _)
   | (with_reducible first | exact LeO.refl _ | exact LeO.none _ | refine LeO.ite ?_ ?_ | refine LeO.bind ?_ (fun _ => ?_))
set_option maxHeartbeats 8000000 in
set_option maxRecDepth 100000 in
theorem runs_reader_one.calls (k : Nat) (g : Nat) (s0_0 : List Int) (s0_1 : Int) (s0_2 : Bool) (a1 : Int) (A2 : Option Addr) (c2 : Nat) (l2 : List Int) (r1 : List Int) (r2 : Int) (r3 : Int) (r4 : Bool) (w0 w : World) (hI : IsS107 w0 w g s0_0 s0_1 s0_2) (hB : Below w0.heap.size w0 w) (hr2 : Kd.C (Kd.int .u8) w A2 l2.length l2) (hc2 : l2.length ≤ c2) (hf2 : ∀ ad, A2 = some ad → 0 < l2.length → ad.block ≠ g) (gx : Nat) (hX : Xok g gx tU tC0 tC1 tW w) (h : runs_reader_one.f k s0_0 s0_1 s0_2 a1 l2 = some (r1, r2, r3, r4)) :
  Calls Tryd.prog 31 #[.pointer (some ⟨gx, 0, none⟩), .int .i64 a1, .slice A2 l2.length c2] w fun e w' => ∃ v0_ : Value, e = .returned (.tuple #[v0_, .int .i64 r2]) ∧ Kd.R (Kd.int .u8) 5 w' w.heap.size (fun _ => True) v0_ r1 ∧ IsS107 w0 w' g s0_0 r3 r4 ∧ Below w0.heap.size w0 w' ∧ KeepBut w w' g none := by
 have HR2 := Aside0.mk hr2
 have HC2 := Aside0.mk hc2
 clear hr2 hc2
 have HI0 := Aside0.mk hI
 have HK := Aside0.mk (KeepBut.refl w g none)
 have HL := Aside0.mk hB.size
 clear hI
 have HW0 := Aside0.mk hB.size
 have HB := Aside0.mk hB
 clear hB
 have H : (runs_reader_one.l0 k a1 ([] : List Int) 0 s0_0 s0_1 s0_2) = some (r1, r2, r3, r4) := h
 clear h
 have H' := Aside0.mk H
 clear H
 go_enter Tryd.func31, Tryd.ntmps31
 go_wp2
 go_loopg [8, 9] k (fun kq v8 v9 w' => ∃ (x8_1 : List Int) (x9_1 : Int) (x1001_1 : Int) (x1002_1 : Bool), v9 = .int .i64 x9_1 ∧ Aside0 (runs_reader_one.l0 kq a1 x8_1 x9_1 s0_0 x1001_1 x1002_1 = some (r1, r2, r3, r4)) ∧ Aside0 (kq ≤ k) ∧ Aside0 (Kd.R (Kd.int .u8) 5 w' w.heap.size (fun _ => True) v8 x8_1) ∧ Aside0 (IsS107 w0 w' g s0_0 x1001_1 x1002_1) ∧ Aside0 (KeepBut w w' g none) ∧ Aside0 (Below w0.heap.size w0 w'))
 case atStart => exact ⟨(([] : List Int)), (0), (s0_1), (s0_2), rq, H', ⟨Nat.le_refl _⟩, ⟨by first | exact Kd.R_nil _ _ _ _ _ | exact Kd.N_nil _ _ _ _ _ | exact Kd.V_nil _ _ _ _ _ | exact Kd.Q_nil _ _ _ _ _ | exact Kd.S_nil _ _ _ _ _⟩, ⟨by repeat (first | (with_reducible first | exact HI0.out | apply IsS107.alloc | apply IsS107.drewN | apply IsS107.drew | apply IsS107.set_1 | apply IsS107.set_2) | exact HI0.out)⟩, ⟨by repeat (first | (with_reducible first | exact HK.out | apply KeepBut.set_ | apply keep_drewN | apply keep_drew | apply keep_alloc) | exact HK.out)⟩, ⟨by repeat (first | (with_reducible first | exact HB.out | apply below_alloc | apply pw_below_drewN | apply below_drew1 | refine below_set ?_ (IsS107.ge HI0.out)) | exact HB.out)⟩⟩
 case round =>
  clear H'
  try clear c2
  obtain ⟨x8_1, x9_1, x1001_1, x1002_1, rfl, HA, HK1, HO_8, HI0, HK, HB⟩ := hrel
  cases gk with
  | zero => exact absurd HA.out (by simp [runs_reader_one.l0])
  | succ k1 =>
   have H := HA.out
   clear HA
   simp only [runs_reader_one.l0] at H
   rcases iL H with H1 | H1 <;> clear H <;> obtain ⟨H, c4b0⟩ := H1
   ·obtain ⟨⟨t501, t502, t503, t504⟩, A5, H⟩ := oB H
    try dsimp only at H
    rcases iE H with H1 | H1 <;> clear H <;> obtain ⟨H, c6b0, c6b1, c6⟩ := H1
    ·rcases iE H with H1 | H1 <;> clear H <;> obtain ⟨H, c7b0, c7b1, c7⟩ := H1
     ·rcases iL H with H1 | H1 <;> clear H <;> obtain ⟨H, c8b0⟩ := H1
      ·simp only [Option.some.injEq, Prod.mk.injEq] at H
       obtain ⟨rfl, rfl, rfl, rfl⟩ := H
       obtain ⟨Ao9, co9, eo9⟩ := Kd.R_slice HO_8.out
       subst eo9
       go_wp2_with (first | (refine gF 47 22 Tryd.func47 #[.pointer (some ⟨gx, 0, none⟩), .int .i64 (Int.tmod x9_1 2)] rfl rfl ?_; (with_reducible refine (runs_reader_run.calls k1 g s0_0 x1001_1 x1002_1 (Int.tmod x9_1 2) t501 t502 t503 t504 w0 _ ?side1 ?side2 gx (hX.keep (by repeat (first | (with_reducible first | exact HK.out | apply KeepBut.set_ | apply keep_drewN | apply keep_drew | apply keep_alloc) | exact HK.out))) A5.out).mono ?_); (case side1 => repeat (first | (with_reducible first | exact HI0.out | apply IsS107.alloc | apply IsS107.drewN | apply IsS107.drew | apply IsS107.set_1 | apply IsS107.set_2) | exact HI0.out)); (case side2 => repeat (first | (with_reducible first | exact HB.out | apply below_alloc | apply pw_below_drewN | apply below_drew1 | refine below_set ?_ (IsS107.ge HI0.out)) | exact HB.out)); rintro e w10 ⟨rfl, hi, hb, hk⟩; refine ⟨_, rfl, ?_⟩; have n_ := aC (Kd.R_mono (Kd.R_keep (IsS107.apart (show IsS107 w0 _ g s0_0 x1001_1 x1002_1 from by repeat (first | (with_reducible first | exact HI0.out | apply IsS107.alloc | apply IsS107.drewN | apply IsS107.drew | apply IsS107.set_1 | apply IsS107.set_2) | exact HI0.out)) (rU HO_8.out) (by decide)) hk (fun _ h => h.2)) (fun _ h => h.1)) (aC (KeepBut.trans (by repeat (first | (with_reducible first | exact HK.out | apply KeepBut.set_ | apply keep_drewN | apply keep_drew | apply keep_alloc) | exact HK.out)) hk (.inl rfl)) (aC hb (aE hi))); clear HO_8 HK HB HI0; obtain ⟨HO_8, HK, HB, HI0⟩ := n_))
       go_ret2
       exact ⟨_, re, by first | exact Kd.R_nil _ _ _ _ _ | exact Kd.N_nil _ _ _ _ _ | exact Kd.V_nil _ _ _ _ _ | exact Kd.Q_nil _ _ _ _ _ | exact Kd.S_nil _ _ _ _ _, by repeat (first | (with_reducible first | exact HI0.out | apply IsS107.alloc | apply IsS107.drewN | apply IsS107.drew | apply IsS107.set_1 | apply IsS107.set_2) | exact HI0.out), by repeat (first | (with_reducible first | exact HB.out | apply below_alloc | apply pw_below_drewN | apply below_drew1 | refine below_set ?_ (IsS107.ge HI0.out)) | exact HB.out), by repeat (first | (with_reducible first | exact HK.out | apply KeepBut.set_ | apply keep_drewN | apply keep_drew | apply keep_alloc) | exact HK.out)⟩
      ·rcases iL H with H1 | H1 <;> clear H <;> obtain ⟨H, c11b0⟩ := H1
       ·simp only [Option.some.injEq, Prod.mk.injEq] at H
        obtain ⟨rfl, rfl, rfl, rfl⟩ := H
        obtain ⟨Ao12, co12, eo12⟩ := Kd.R_slice HO_8.out
        subst eo12
        go_wp2_with (first | (refine gF 47 22 Tryd.func47 #[.pointer (some ⟨gx, 0, none⟩), .int .i64 (Int.tmod x9_1 2)] rfl rfl ?_; (with_reducible refine (runs_reader_run.calls k1 g s0_0 x1001_1 x1002_1 (Int.tmod x9_1 2) t501 t502 t503 t504 w0 _ ?side1 ?side2 gx (hX.keep (by repeat (first | (with_reducible first | exact HK.out | apply KeepBut.set_ | apply keep_drewN | apply keep_drew | apply keep_alloc) | exact HK.out))) A5.out).mono ?_); (case side1 => repeat (first | (with_reducible first | exact HI0.out | apply IsS107.alloc | apply IsS107.drewN | apply IsS107.drew | apply IsS107.set_1 | apply IsS107.set_2) | exact HI0.out)); (case side2 => repeat (first | (with_reducible first | exact HB.out | apply below_alloc | apply pw_below_drewN | apply below_drew1 | refine below_set ?_ (IsS107.ge HI0.out)) | exact HB.out)); rintro e w13 ⟨rfl, hi, hb, hk⟩; refine ⟨_, rfl, ?_⟩; have n_ := aC (Kd.R_mono (Kd.R_keep (IsS107.apart (show IsS107 w0 _ g s0_0 x1001_1 x1002_1 from by repeat (first | (with_reducible first | exact HI0.out | apply IsS107.alloc | apply IsS107.drewN | apply IsS107.drew | apply IsS107.set_1 | apply IsS107.set_2) | exact HI0.out)) (rU HO_8.out) (by decide)) hk (fun _ h => h.2)) (fun _ h => h.1)) (aC (KeepBut.trans (by repeat (first | (with_reducible first | exact HK.out | apply KeepBut.set_ | apply keep_drewN | apply keep_drew | apply keep_alloc) | exact HK.out)) hk (.inl rfl)) (aC hb (aE hi))); clear HO_8 HK HB HI0; obtain ⟨HO_8, HK, HB, HI0⟩ := n_))
        go_ret2
        exact ⟨_, re, by first | exact Kd.R_nil _ _ _ _ _ | exact Kd.N_nil _ _ _ _ _ | exact Kd.V_nil _ _ _ _ _ | exact Kd.Q_nil _ _ _ _ _ | exact Kd.S_nil _ _ _ _ _, by repeat (first | (with_reducible first | exact HI0.out | apply IsS107.alloc | apply IsS107.drewN | apply IsS107.drew | apply IsS107.set_1 | apply IsS107.set_2) | exact HI0.out), by repeat (first | (with_reducible first | exact HB.out | apply below_alloc | apply pw_below_drewN | apply below_drew1 | refine below_set ?_ (IsS107.ge HI0.out)) | exact HB.out), by repeat (first | (with_reducible first | exact HK.out | apply KeepBut.set_ | apply keep_drewN | apply keep_drew | apply keep_alloc) | exact HK.out)⟩
       ·obtain ⟨y505, hy_⟩ : ∃ y_ : List Int, y_ = (([(Int.tmod x9_1 2) % 256] : List Int)) := ⟨_, rfl⟩
        replace H : ((slices_Repeat_byte_byte.f k1 y505 t501).bind fun t508 => (if x8_1.length + t508.length < 140737488355328 then (runs_reader_one.l0 k1 a1 (x8_1 ++ t508) (wrap64 (x9_1 + 1)) s0_0 t503 t504) else (none))) = some (r1, r2, r3, r4) := rh
        have Ny505 := aE hy_
        clear hy_
        obtain ⟨t508, A14, H⟩ := oB H
        try dsimp only at H
        by_cases c15 : x8_1.length + t508.length < 140737488355328
        ·rw [if_pos c15] at H
         have LMc15 := Aside0.mk c15
         clear c15
         obtain ⟨y511, hy_⟩ : ∃ y_ : List Int, y_ = (x8_1 ++ t508) := ⟨_, rfl⟩
         replace H : (runs_reader_one.l0 k1 a1 y511 (wrap64 (x9_1 + 1)) s0_0 t503 t504) = some (r1, r2, r3, r4) := rh
         have Ny511 := aE hy_
         clear hy_
         have H' := Aside0.mk H
         clear H
         obtain ⟨Ao16, co16, eo16⟩ := Kd.R_slice HO_8.out
         subst eo16
         go_wp2_with (first | (refine gF 47 22 Tryd.func47 #[.pointer (some ⟨gx, 0, none⟩), .int .i64 (Int.tmod x9_1 2)] rfl rfl ?_; (with_reducible refine (runs_reader_run.calls k1 g s0_0 x1001_1 x1002_1 (Int.tmod x9_1 2) t501 t502 t503 t504 w0 _ ?side1 ?side2 gx (hX.keep (by repeat (first | (with_reducible first | exact HK.out | apply KeepBut.set_ | apply keep_drewN | apply keep_drew | apply keep_alloc) | exact HK.out))) A5.out).mono ?_); (case side1 => repeat (first | (with_reducible first | exact HI0.out | apply IsS107.alloc | apply IsS107.drewN | apply IsS107.drew | apply IsS107.set_1 | apply IsS107.set_2) | exact HI0.out)); (case side2 => repeat (first | (with_reducible first | exact HB.out | apply below_alloc | apply pw_below_drewN | apply below_drew1 | refine below_set ?_ (IsS107.ge HI0.out)) | exact HB.out)); rintro e w17 ⟨rfl, hi, hb, hk⟩; refine ⟨_, rfl, ?_⟩; have n_ := aC (Kd.R_mono (Kd.R_keep (IsS107.apart (show IsS107 w0 _ g s0_0 x1001_1 x1002_1 from by repeat (first | (with_reducible first | exact HI0.out | apply IsS107.alloc | apply IsS107.drewN | apply IsS107.drew | apply IsS107.set_1 | apply IsS107.set_2) | exact HI0.out)) (rU HO_8.out) (by decide)) hk (fun _ h => h.2)) (fun _ h => h.1)) (aC (KeepBut.trans (by repeat (first | (with_reducible first | exact HK.out | apply KeepBut.set_ | apply keep_drewN | apply keep_drew | apply keep_alloc) | exact HK.out)) hk (.inl rfl)) (aC hb (aE hi))); clear HO_8 HK HB HI0; obtain ⟨HO_8, HK, HB, HI0⟩ := n_) | ((with_reducible refine gd 46 rfl ?_); (try (refine gate_guard (by rfl) ?_; dsimp only)); refine Kd.R_lit (Kd.int .u8) _ 5 ?hg (N := 46) ?hd (xs := ([(Int.tmod x9_1 2) % 256] : List Int)) (inner := [.int .u8 ((Int.tmod x9_1 2) % 256)]) (ok := fun _ => True) (okp := fun _ => True) ?hr ?hp (fun _ hk => hk) trivial (Below.refl _ _) (Nat.le_refl _) (by simp) ?_; (case hd => rfl); (case hg => rfl); (case hr => first | (go_simp; done) | (go_simp; rfl)); (case hp => exact (Reps.one (show Kd.M (Kd.int .u8) _ _ _ ((Int.tmod x9_1 2) % 256) [.int .u8 ((Int.tmod x9_1 2) % 256)] from rfl) (Reps.none _ _))); intro v506 w18 ho19 hb hg_ hnew_; clear hg_ hnew_; (first | rw [← Ny505.out] at ho19 | (simp only [Int.reduceToNat] at ho19; rw [← Ny505.out] at ho19)); have n_ := aC (Kd.R_elder' (rU HO_8.out) (Kd.R_base ho19) hb) (aC (Kd.R_lower (Kd.R_new' ho19 (Kd.R_lt (rU HO_8.out))) (keep_size (w := w) (g := g) (row := none) (by repeat (first | (with_reducible first | exact HK.out | apply KeepBut.set_ | apply keep_drewN | apply keep_drew | apply keep_alloc) | exact HK.out)))) (aC (IsS107.below (by repeat (first | (with_reducible first | exact HI0.out | apply IsS107.alloc | apply IsS107.drewN | apply IsS107.drew | apply IsS107.set_1 | apply IsS107.set_2) | exact HI0.out)) hb) (aC (KeepBut.trans (by repeat (first | (with_reducible first | exact HK.out | apply KeepBut.set_ | apply keep_drewN | apply keep_drew | apply keep_alloc) | exact HK.out)) (KeepBut.of_below hb g none) (.inl rfl)) (aE (below_step (by repeat (first | (with_reducible first | exact HB.out | apply below_alloc | apply pw_below_drewN | apply below_drew1 | refine below_set ?_ (IsS107.ge HI0.out)) | exact HB.out)) hb))))); clear HO_8 HI0 HK HB; obtain ⟨HO_8, HO507, HI0, HK, HB⟩ := n_; clear hb ho19; obtain ⟨Ao20, co20, eo20⟩ := Kd.R_slice HO507.out; subst eo20) | (refine gF 48 48 Tryd.func48 #[.slice Ao20 y505.length co20, .int .i64 t501] rfl rfl ?_; (with_reducible refine (slices_Repeat_byte_byte.calls k1 _ _ y505 t501 t508 _ ?side1 ?side2 A14.out).mono ?_); (case side1 => exact cU (Kd.R_reads' HO507.out).2.2); (case side2 => exact (Kd.R_reads' HO507.out).2.1); rintro e w21 ⟨v509, rfl, ho0, hb⟩; refine ⟨_, rfl, ?_⟩; have n_ := aC (Kd.R_elder' (rU HO_8.out) (Kd.R_base ho0) hb) (aC (Kd.R_elder' (rU HO507.out) (Kd.R_base ho0) hb) (aC (Kd.R_lower (Kd.R_new' (Kd.R_new' ho0 (Kd.R_lt (rU HO_8.out))) (Kd.R_lt (rU HO507.out))) (keep_size (w := w) (g := g) (row := none) (by repeat (first | (with_reducible first | exact HK.out | apply KeepBut.set_ | apply keep_drewN | apply keep_drew | apply keep_alloc) | exact HK.out)))) (aC (IsS107.below (by repeat (first | (with_reducible first | exact HI0.out | apply IsS107.alloc | apply IsS107.drewN | apply IsS107.drew | apply IsS107.set_1 | apply IsS107.set_2) | exact HI0.out)) hb) (aC (KeepBut.trans (by repeat (first | (with_reducible first | exact HK.out | apply KeepBut.set_ | apply keep_drewN | apply keep_drew | apply keep_alloc) | exact HK.out)) (KeepBut.of_below hb g none) (.inl rfl)) (aE (below_step (by repeat (first | (with_reducible first | exact HB.out | apply below_alloc | apply pw_below_drewN | apply below_drew1 | refine below_set ?_ (IsS107.ge HI0.out)) | exact HB.out)) hb)))))); clear HO_8 HO507 HI0 HK HB; obtain ⟨HO_8, HO507, HO510, HI0, HK, HB⟩ := n_; obtain ⟨Ao23, co23, eo23⟩ := Kd.R_slice HO510.out; subst eo23) | ((with_reducible refine gate_builtin (b := .append) (xs := #[.tmp 42, .tmp 48]) rfl ?_); (try (refine gate_guard (by rfl) ?_; dsimp only)); at_builtin; refine Kd.R_append_rows (Kd.int .u8) w.heap.size rfl (.tmp 42) (.tmp 48) 22 5 (.int .u8 0) 1 rfl Tryd.underlying22 info5 rfl (by decide) (by omega) (.slice Ao16 x8_1.length co16) x8_1 t508 _ _ _ (fun k_ => some k_ ≠ (.slice Ao20 y505.length co20 : Value).ownBlock ∧ some k_ ≠ (.slice Ao23 t508.length co23 : Value).ownBlock) (fun _ => False) rfl rfl ?aO ?aR (fun _ _ h => h) (fun _ h => h.elim) ?aF (Below.refl _ _) ?aS ?aL ?_; (case aR => repeat (first | exact (Kd.R_reads' HO510.out).2.2 | (with_reducible refine Kd.C_alloc ?_ _) | (with_reducible refine Kd.C_drewN ?_ _) | (with_reducible refine Kd.C_drew ?_))); (case aF => exact (fun k_ hk => ⟨Kd.fresh' (Kd.R_lt (rU HO507.out)) k_ hk, Kd.fresh' (Kd.R_lt (rU HO510.out)) k_ hk⟩)); (case aO => exact (rU (Kd.R_mono HO_8.out (fun _ hk => ⟨hk.1.2, hk.2⟩)))); (case aS => exact (keep_size (w := w) (g := g) (row := none) (by repeat (first | (with_reducible first | exact HK.out | apply KeepBut.set_ | apply keep_drewN | apply keep_drew | apply keep_alloc) | exact HK.out)))); (case aL => have := LMc15.out; omega); intro v512 w22 ho hb hg hat; rw [← Ny511.out] at ho; have n_ := aC (IsS107.grown (by repeat (first | (with_reducible first | exact HI0.out | apply IsS107.alloc | apply IsS107.drewN | apply IsS107.drew | apply IsS107.set_1 | apply IsS107.set_2) | exact HI0.out)) hg (IsS107.own_ne HI0.out HO_8.out (by decide))) (aC (Kd.R_after (ok := (fun k_ => some k_ ≠ (.slice Ao23 t508.length co23 : Value).ownBlock)) (rU (Kd.R_mono HO507.out (fun _ hk => ⟨hk.2, hk.1.2⟩))) hg hat) (aC (Kd.R_after (ok := (fun k_ => some k_ ≠ (.slice Ao20 y505.length co20 : Value).ownBlock)) (rU (Kd.R_mono HO510.out (fun _ hk => ⟨hk.2, hk.1.2⟩))) hg hat) (aC (below_weaken (by repeat (first | (with_reducible first | exact HB.out | apply below_alloc | apply pw_below_drewN | apply below_drew1 | refine below_set ?_ (IsS107.ge HI0.out)) | exact HB.out)) HL.out hb) (aC (KeepBut.trans (by repeat (first | (with_reducible first | exact HK.out | apply KeepBut.set_ | apply keep_drewN | apply keep_drew | apply keep_alloc) | exact HK.out)) (KeepBut.of_grown hg g) (Kd.R_base2 HO_8.out)) (aE ho))))); clear HI0 HO507 HO510 HB HK HO_8; obtain ⟨HI0, HO507, HO510, HB, HK, HO513⟩ := n_; clear ho hb hg hat))
         go_roundg k1
         case measure => have := HK1.out; omega
         case rel => exact ⟨(y511), (wrap64 (x9_1 + 1)), (t503), (t504), rq, H', ⟨by have := HK1.out; omega⟩, ⟨rU (Kd.R_mono HO513.out (fun _ hk => trivial))⟩, ⟨by repeat (first | (with_reducible first | exact HI0.out | apply IsS107.alloc | apply IsS107.drewN | apply IsS107.drew | apply IsS107.set_1 | apply IsS107.set_2) | exact HI0.out)⟩, ⟨by repeat (first | (with_reducible first | exact HK.out | apply KeepBut.set_ | apply keep_drewN | apply keep_drew | apply keep_alloc) | exact HK.out)⟩, ⟨by repeat (first | (with_reducible first | exact HB.out | apply below_alloc | apply pw_below_drewN | apply below_drew1 | refine below_set ?_ (IsS107.ge HI0.out)) | exact HB.out)⟩⟩
        ·rw [if_neg c15] at H
         exact absurd H (by simp)
     ·rcases iL H with H1 | H1 <;> clear H <;> obtain ⟨H, c24b0⟩ := H1
      ·simp only [Option.some.injEq, Prod.mk.injEq] at H
       obtain ⟨rfl, rfl, rfl, rfl⟩ := H
       obtain ⟨Ao25, co25, eo25⟩ := Kd.R_slice HO_8.out
       subst eo25
       go_wp2_with (first | (refine gF 47 22 Tryd.func47 #[.pointer (some ⟨gx, 0, none⟩), .int .i64 (Int.tmod x9_1 2)] rfl rfl ?_; (with_reducible refine (runs_reader_run.calls k1 g s0_0 x1001_1 x1002_1 (Int.tmod x9_1 2) t501 t502 t503 t504 w0 _ ?side1 ?side2 gx (hX.keep (by repeat (first | (with_reducible first | exact HK.out | apply KeepBut.set_ | apply keep_drewN | apply keep_drew | apply keep_alloc) | exact HK.out))) A5.out).mono ?_); (case side1 => repeat (first | (with_reducible first | exact HI0.out | apply IsS107.alloc | apply IsS107.drewN | apply IsS107.drew | apply IsS107.set_1 | apply IsS107.set_2) | exact HI0.out)); (case side2 => repeat (first | (with_reducible first | exact HB.out | apply below_alloc | apply pw_below_drewN | apply below_drew1 | refine below_set ?_ (IsS107.ge HI0.out)) | exact HB.out)); rintro e w26 ⟨rfl, hi, hb, hk⟩; refine ⟨_, rfl, ?_⟩; have n_ := aC (Kd.R_mono (Kd.R_keep (IsS107.apart (show IsS107 w0 _ g s0_0 x1001_1 x1002_1 from by repeat (first | (with_reducible first | exact HI0.out | apply IsS107.alloc | apply IsS107.drewN | apply IsS107.drew | apply IsS107.set_1 | apply IsS107.set_2) | exact HI0.out)) (rU HO_8.out) (by decide)) hk (fun _ h => h.2)) (fun _ h => h.1)) (aC (KeepBut.trans (by repeat (first | (with_reducible first | exact HK.out | apply KeepBut.set_ | apply keep_drewN | apply keep_drew | apply keep_alloc) | exact HK.out)) hk (.inl rfl)) (aC hb (aE hi))); clear HO_8 HK HB HI0; obtain ⟨HO_8, HK, HB, HI0⟩ := n_))
       go_ret2
       exact ⟨_, re, by first | exact Kd.R_nil _ _ _ _ _ | exact Kd.N_nil _ _ _ _ _ | exact Kd.V_nil _ _ _ _ _ | exact Kd.Q_nil _ _ _ _ _ | exact Kd.S_nil _ _ _ _ _, by repeat (first | (with_reducible first | exact HI0.out | apply IsS107.alloc | apply IsS107.drewN | apply IsS107.drew | apply IsS107.set_1 | apply IsS107.set_2) | exact HI0.out), by repeat (first | (with_reducible first | exact HB.out | apply below_alloc | apply pw_below_drewN | apply below_drew1 | refine below_set ?_ (IsS107.ge HI0.out)) | exact HB.out), by repeat (first | (with_reducible first | exact HK.out | apply KeepBut.set_ | apply keep_drewN | apply keep_drew | apply keep_alloc) | exact HK.out)⟩
      ·obtain ⟨y514, hy_⟩ : ∃ y_ : List Int, y_ = (([(Int.tmod x9_1 2) % 256] : List Int)) := ⟨_, rfl⟩
       replace H : ((slices_Repeat_byte_byte.f k1 y514 t501).bind fun t517 => (if x8_1.length + t517.length < 140737488355328 then (runs_reader_one.l0 k1 a1 (x8_1 ++ t517) (wrap64 (x9_1 + 1)) s0_0 t503 t504) else (none))) = some (r1, r2, r3, r4) := rh
       have Ny514 := aE hy_
       clear hy_
       obtain ⟨t517, A27, H⟩ := oB H
       try dsimp only at H
       by_cases c28 : x8_1.length + t517.length < 140737488355328
       ·rw [if_pos c28] at H
        have LMc28 := Aside0.mk c28
        clear c28
        obtain ⟨y520, hy_⟩ : ∃ y_ : List Int, y_ = (x8_1 ++ t517) := ⟨_, rfl⟩
        replace H : (runs_reader_one.l0 k1 a1 y520 (wrap64 (x9_1 + 1)) s0_0 t503 t504) = some (r1, r2, r3, r4) := rh
        have Ny520 := aE hy_
        clear hy_
        have H' := Aside0.mk H
        clear H
        obtain ⟨Ao29, co29, eo29⟩ := Kd.R_slice HO_8.out
        subst eo29
        go_wp2_with (first | (refine gF 47 22 Tryd.func47 #[.pointer (some ⟨gx, 0, none⟩), .int .i64 (Int.tmod x9_1 2)] rfl rfl ?_; (with_reducible refine (runs_reader_run.calls k1 g s0_0 x1001_1 x1002_1 (Int.tmod x9_1 2) t501 t502 t503 t504 w0 _ ?side1 ?side2 gx (hX.keep (by repeat (first | (with_reducible first | exact HK.out | apply KeepBut.set_ | apply keep_drewN | apply keep_drew | apply keep_alloc) | exact HK.out))) A5.out).mono ?_); (case side1 => repeat (first | (with_reducible first | exact HI0.out | apply IsS107.alloc | apply IsS107.drewN | apply IsS107.drew | apply IsS107.set_1 | apply IsS107.set_2) | exact HI0.out)); (case side2 => repeat (first | (with_reducible first | exact HB.out | apply below_alloc | apply pw_below_drewN | apply below_drew1 | refine below_set ?_ (IsS107.ge HI0.out)) | exact HB.out)); rintro e w30 ⟨rfl, hi, hb, hk⟩; refine ⟨_, rfl, ?_⟩; have n_ := aC (Kd.R_mono (Kd.R_keep (IsS107.apart (show IsS107 w0 _ g s0_0 x1001_1 x1002_1 from by repeat (first | (with_reducible first | exact HI0.out | apply IsS107.alloc | apply IsS107.drewN | apply IsS107.drew | apply IsS107.set_1 | apply IsS107.set_2) | exact HI0.out)) (rU HO_8.out) (by decide)) hk (fun _ h => h.2)) (fun _ h => h.1)) (aC (KeepBut.trans (by repeat (first | (with_reducible first | exact HK.out | apply KeepBut.set_ | apply keep_drewN | apply keep_drew | apply keep_alloc) | exact HK.out)) hk (.inl rfl)) (aC hb (aE hi))); clear HO_8 HK HB HI0; obtain ⟨HO_8, HK, HB, HI0⟩ := n_) | ((with_reducible refine gd 46 rfl ?_); (try (refine gate_guard (by rfl) ?_; dsimp only)); refine Kd.R_lit (Kd.int .u8) _ 5 ?hg (N := 46) ?hd (xs := ([(Int.tmod x9_1 2) % 256] : List Int)) (inner := [.int .u8 ((Int.tmod x9_1 2) % 256)]) (ok := fun _ => True) (okp := fun _ => True) ?hr ?hp (fun _ hk => hk) trivial (Below.refl _ _) (Nat.le_refl _) (by simp) ?_; (case hd => rfl); (case hg => rfl); (case hr => first | (go_simp; done) | (go_simp; rfl)); (case hp => exact (Reps.one (show Kd.M (Kd.int .u8) _ _ _ ((Int.tmod x9_1 2) % 256) [.int .u8 ((Int.tmod x9_1 2) % 256)] from rfl) (Reps.none _ _))); intro v515 w31 ho32 hb hg_ hnew_; clear hg_ hnew_; (first | rw [← Ny514.out] at ho32 | (simp only [Int.reduceToNat] at ho32; rw [← Ny514.out] at ho32)); have n_ := aC (Kd.R_elder' (rU HO_8.out) (Kd.R_base ho32) hb) (aC (Kd.R_lower (Kd.R_new' ho32 (Kd.R_lt (rU HO_8.out))) (keep_size (w := w) (g := g) (row := none) (by repeat (first | (with_reducible first | exact HK.out | apply KeepBut.set_ | apply keep_drewN | apply keep_drew | apply keep_alloc) | exact HK.out)))) (aC (IsS107.below (by repeat (first | (with_reducible first | exact HI0.out | apply IsS107.alloc | apply IsS107.drewN | apply IsS107.drew | apply IsS107.set_1 | apply IsS107.set_2) | exact HI0.out)) hb) (aC (KeepBut.trans (by repeat (first | (with_reducible first | exact HK.out | apply KeepBut.set_ | apply keep_drewN | apply keep_drew | apply keep_alloc) | exact HK.out)) (KeepBut.of_below hb g none) (.inl rfl)) (aE (below_step (by repeat (first | (with_reducible first | exact HB.out | apply below_alloc | apply pw_below_drewN | apply below_drew1 | refine below_set ?_ (IsS107.ge HI0.out)) | exact HB.out)) hb))))); clear HO_8 HI0 HK HB; obtain ⟨HO_8, HO516, HI0, HK, HB⟩ := n_; clear hb ho32; obtain ⟨Ao33, co33, eo33⟩ := Kd.R_slice HO516.out; subst eo33) | (refine gF 48 48 Tryd.func48 #[.slice Ao33 y514.length co33, .int .i64 t501] rfl rfl ?_; (with_reducible refine (slices_Repeat_byte_byte.calls k1 _ _ y514 t501 t517 _ ?side1 ?side2 A27.out).mono ?_); (case side1 => exact cU (Kd.R_reads' HO516.out).2.2); (case side2 => exact (Kd.R_reads' HO516.out).2.1); rintro e w34 ⟨v518, rfl, ho0, hb⟩; refine ⟨_, rfl, ?_⟩; have n_ := aC (Kd.R_elder' (rU HO_8.out) (Kd.R_base ho0) hb) (aC (Kd.R_elder' (rU HO516.out) (Kd.R_base ho0) hb) (aC (Kd.R_lower (Kd.R_new' (Kd.R_new' ho0 (Kd.R_lt (rU HO_8.out))) (Kd.R_lt (rU HO516.out))) (keep_size (w := w) (g := g) (row := none) (by repeat (first | (with_reducible first | exact HK.out | apply KeepBut.set_ | apply keep_drewN | apply keep_drew | apply keep_alloc) | exact HK.out)))) (aC (IsS107.below (by repeat (first | (with_reducible first | exact HI0.out | apply IsS107.alloc | apply IsS107.drewN | apply IsS107.drew | apply IsS107.set_1 | apply IsS107.set_2) | exact HI0.out)) hb) (aC (KeepBut.trans (by repeat (first | (with_reducible first | exact HK.out | apply KeepBut.set_ | apply keep_drewN | apply keep_drew | apply keep_alloc) | exact HK.out)) (KeepBut.of_below hb g none) (.inl rfl)) (aE (below_step (by repeat (first | (with_reducible first | exact HB.out | apply below_alloc | apply pw_below_drewN | apply below_drew1 | refine below_set ?_ (IsS107.ge HI0.out)) | exact HB.out)) hb)))))); clear HO_8 HO516 HI0 HK HB; obtain ⟨HO_8, HO516, HO519, HI0, HK, HB⟩ := n_; obtain ⟨Ao36, co36, eo36⟩ := Kd.R_slice HO519.out; subst eo36) | ((with_reducible refine gate_builtin (b := .append) (xs := #[.tmp 42, .tmp 48]) rfl ?_); (try (refine gate_guard (by rfl) ?_; dsimp only)); at_builtin; refine Kd.R_append_rows (Kd.int .u8) w.heap.size rfl (.tmp 42) (.tmp 48) 22 5 (.int .u8 0) 1 rfl Tryd.underlying22 info5 rfl (by decide) (by omega) (.slice Ao29 x8_1.length co29) x8_1 t517 _ _ _ (fun k_ => some k_ ≠ (.slice Ao33 y514.length co33 : Value).ownBlock ∧ some k_ ≠ (.slice Ao36 t517.length co36 : Value).ownBlock) (fun _ => False) rfl rfl ?aO ?aR (fun _ _ h => h) (fun _ h => h.elim) ?aF (Below.refl _ _) ?aS ?aL ?_; (case aR => repeat (first | exact (Kd.R_reads' HO519.out).2.2 | (with_reducible refine Kd.C_alloc ?_ _) | (with_reducible refine Kd.C_drewN ?_ _) | (with_reducible refine Kd.C_drew ?_))); (case aF => exact (fun k_ hk => ⟨Kd.fresh' (Kd.R_lt (rU HO516.out)) k_ hk, Kd.fresh' (Kd.R_lt (rU HO519.out)) k_ hk⟩)); (case aO => exact (rU (Kd.R_mono HO_8.out (fun _ hk => ⟨hk.1.2, hk.2⟩)))); (case aS => exact (keep_size (w := w) (g := g) (row := none) (by repeat (first | (with_reducible first | exact HK.out | apply KeepBut.set_ | apply keep_drewN | apply keep_drew | apply keep_alloc) | exact HK.out)))); (case aL => have := LMc28.out; omega); intro v521 w35 ho hb hg hat; rw [← Ny520.out] at ho; have n_ := aC (IsS107.grown (by repeat (first | (with_reducible first | exact HI0.out | apply IsS107.alloc | apply IsS107.drewN | apply IsS107.drew | apply IsS107.set_1 | apply IsS107.set_2) | exact HI0.out)) hg (IsS107.own_ne HI0.out HO_8.out (by decide))) (aC (Kd.R_after (ok := (fun k_ => some k_ ≠ (.slice Ao36 t517.length co36 : Value).ownBlock)) (rU (Kd.R_mono HO516.out (fun _ hk => ⟨hk.2, hk.1.2⟩))) hg hat) (aC (Kd.R_after (ok := (fun k_ => some k_ ≠ (.slice Ao33 y514.length co33 : Value).ownBlock)) (rU (Kd.R_mono HO519.out (fun _ hk => ⟨hk.2, hk.1.2⟩))) hg hat) (aC (below_weaken (by repeat (first | (with_reducible first | exact HB.out | apply below_alloc | apply pw_below_drewN | apply below_drew1 | refine below_set ?_ (IsS107.ge HI0.out)) | exact HB.out)) HL.out hb) (aC (KeepBut.trans (by repeat (first | (with_reducible first | exact HK.out | apply KeepBut.set_ | apply keep_drewN | apply keep_drew | apply keep_alloc) | exact HK.out)) (KeepBut.of_grown hg g) (Kd.R_base2 HO_8.out)) (aE ho))))); clear HI0 HO516 HO519 HB HK HO_8; obtain ⟨HI0, HO516, HO519, HB, HK, HO522⟩ := n_; clear ho hb hg hat))
        go_roundg k1
        case measure => have := HK1.out; omega
        case rel => exact ⟨(y520), (wrap64 (x9_1 + 1)), (t503), (t504), rq, H', ⟨by have := HK1.out; omega⟩, ⟨rU (Kd.R_mono HO522.out (fun _ hk => trivial))⟩, ⟨by repeat (first | (with_reducible first | exact HI0.out | apply IsS107.alloc | apply IsS107.drewN | apply IsS107.drew | apply IsS107.set_1 | apply IsS107.set_2) | exact HI0.out)⟩, ⟨by repeat (first | (with_reducible first | exact HK.out | apply KeepBut.set_ | apply keep_drewN | apply keep_drew | apply keep_alloc) | exact HK.out)⟩, ⟨by repeat (first | (with_reducible first | exact HB.out | apply below_alloc | apply pw_below_drewN | apply below_drew1 | refine below_set ?_ (IsS107.ge HI0.out)) | exact HB.out)⟩⟩
       ·rw [if_neg c28] at H
        exact absurd H (by simp)
    ·simp only [Option.some.injEq, Prod.mk.injEq] at H
     obtain ⟨rfl, rfl, rfl, rfl⟩ := H
     obtain ⟨Ao37, co37, eo37⟩ := Kd.R_slice HO_8.out
     subst eo37
     go_wp2_with (first | (refine gF 47 22 Tryd.func47 #[.pointer (some ⟨gx, 0, none⟩), .int .i64 (Int.tmod x9_1 2)] rfl rfl ?_; (with_reducible refine (runs_reader_run.calls k1 g s0_0 x1001_1 x1002_1 (Int.tmod x9_1 2) t501 t502 t503 t504 w0 _ ?side1 ?side2 gx (hX.keep (by repeat (first | (with_reducible first | exact HK.out | apply KeepBut.set_ | apply keep_drewN | apply keep_drew | apply keep_alloc) | exact HK.out))) A5.out).mono ?_); (case side1 => repeat (first | (with_reducible first | exact HI0.out | apply IsS107.alloc | apply IsS107.drewN | apply IsS107.drew | apply IsS107.set_1 | apply IsS107.set_2) | exact HI0.out)); (case side2 => repeat (first | (with_reducible first | exact HB.out | apply below_alloc | apply pw_below_drewN | apply below_drew1 | refine below_set ?_ (IsS107.ge HI0.out)) | exact HB.out)); rintro e w38 ⟨rfl, hi, hb, hk⟩; refine ⟨_, rfl, ?_⟩; have n_ := aC (Kd.R_mono (Kd.R_keep (IsS107.apart (show IsS107 w0 _ g s0_0 x1001_1 x1002_1 from by repeat (first | (with_reducible first | exact HI0.out | apply IsS107.alloc | apply IsS107.drewN | apply IsS107.drew | apply IsS107.set_1 | apply IsS107.set_2) | exact HI0.out)) (rU HO_8.out) (by decide)) hk (fun _ h => h.2)) (fun _ h => h.1)) (aC (KeepBut.trans (by repeat (first | (with_reducible first | exact HK.out | apply KeepBut.set_ | apply keep_drewN | apply keep_drew | apply keep_alloc) | exact HK.out)) hk (.inl rfl)) (aC hb (aE hi))); clear HO_8 HK HB HI0; obtain ⟨HO_8, HK, HB, HI0⟩ := n_))
     go_ret2
     exact ⟨_, re, by first | exact Kd.R_nil _ _ _ _ _ | exact Kd.N_nil _ _ _ _ _ | exact Kd.V_nil _ _ _ _ _ | exact Kd.Q_nil _ _ _ _ _ | exact Kd.S_nil _ _ _ _ _, by repeat (first | (with_reducible first | exact HI0.out | apply IsS107.alloc | apply IsS107.drewN | apply IsS107.drew | apply IsS107.set_1 | apply IsS107.set_2) | exact HI0.out), by repeat (first | (with_reducible first | exact HB.out | apply below_alloc | apply pw_below_drewN | apply below_drew1 | refine below_set ?_ (IsS107.ge HI0.out)) | exact HB.out), by repeat (first | (with_reducible first | exact HK.out | apply KeepBut.set_ | apply keep_drewN | apply keep_drew | apply keep_alloc) | exact HK.out)⟩
   ·simp only [Option.some.injEq, Prod.mk.injEq] at H
    obtain ⟨rfl, rfl, rfl, rfl⟩ := H
    obtain ⟨Ao39, co39, eo39⟩ := Kd.R_slice HO_8.out
    subst eo39
    go_wp2
    go_ret2
    exact ⟨_, re, rU HO_8.out, by repeat (first | (with_reducible first | exact HI0.out | apply IsS107.alloc | apply IsS107.drewN | apply IsS107.drew | apply IsS107.set_1 | apply IsS107.set_2) | exact HI0.out), by repeat (first | (with_reducible first | exact HB.out | apply below_alloc | apply pw_below_drewN | apply below_drew1 | refine below_set ?_ (IsS107.ge HI0.out)) | exact HB.out), by repeat (first | (with_reducible first | exact HK.out | apply KeepBut.set_ | apply keep_drewN | apply keep_drew | apply keep_alloc) | exact HK.out)⟩
set_option maxHeartbeats 8000000 in
set_option maxRecDepth 100000 in
theorem bits_NewReader.calls (A0 : Option Addr) (c0 : Nat) (l0 : List Int) (w : World) (hr0 : Kd.C (Kd.int .u8) w A0 l0.length l0) (hc0 : l0.length ≤ c0) (hl : l0.length < 140737488355328) :
 Calls Tryd.prog 56 #[.slice A0 l0.length c0] w fun e w' => ∃ (gr : Nat) (A : Option Addr) (c : Nat), e = .returned (.pointer (some ⟨gr, 0, none⟩)) ∧ w'.heap[gr]? = some (.cells #[.slice A l0.length c, .int .i64 0, .bool true] 107 (0, 0)) ∧ Kd.R (Kd.int .u8) 5 w' w.heap.size (fun k_ => k_ < gr) (.slice A l0.length c) l0 ∧ w.heap.size ≤ gr ∧ Below w.heap.size w w' := by
 have hu107 := Tryd.underlying107
 have HR0 := Aside0.mk hr0
 have HC0 := Aside0.mk hc0
 clear hr0 hc0
 have HB := Aside0.mk (Below.refl w.heap.size w)
 obtain ⟨y408, hy_⟩ : ∃ y_ : List Int, y_ = (([] : List Int)) := ⟨_, rfl⟩
 have Ny408 := aE hy_
 have hl' : y408.length + l0.length < 140737488355328 := by rw [hy_]; simpa using hl
 have e0 : y408 ++ l0 = l0 := by rw [hy_]; rfl
 clear hy_
 go_enter Tryd.func56, Tryd.ntmps56
 go_wp2_with (first | ((with_reducible refine gd 3 rfl ?_); refine Kd.R_lit (Kd.int .u8) _ 5 ?hg (N := 3) ?hd (xs := ([] : List Int)) (inner := []) (ok := fun _ => True) (okp := fun _ => True) ?hr ?hp (fun _ hk => hk) trivial (Below.refl _ _) (Nat.le_refl _) (by simp) ?_; (case hd => rfl); (case hg => rfl); (case hr => first | (go_simp; done) | (go_simp; rfl)); (case hp => exact (Reps.none _ _)); intro v409 w5 ho6 hb hg_ hnew_; clear hg_ hnew_; (first | rw [← Ny408.out] at ho6 | (simp only [Int.reduceToNat] at ho6; rw [← Ny408.out] at ho6)); have n_ := aC (Kd.R_lower ho6 bz) (aE (bs hb)); clear HB; obtain ⟨HO410, HB⟩ := n_; clear hb ho6) | ((with_reducible refine gate_builtin (b := .append) (xs := #[.tmp 3, .tmp 4]) rfl ?_); at_builtin; refine Kd.R_append_rows (Kd.int .u8) (w0 := w) w.heap.size rfl (.tmp 3) (.tmp 4) 22 5 (.int .u8 0) 1 rfl Tryd.underlying22 info5 rfl (by decide) (by omega) v409 y408 l0 _ _ _ (fun _ => True) (fun _ => False) rfl rfl ?aO ?aR (fun _ _ h => h) (fun _ h => h.elim) ?aF ?aB ?aS ?aL ?_; (case aR => repeat (first | exact (Kd.C_below HR0.out HB.out) | (with_reducible refine Kd.C_alloc ?_ _) | (with_reducible refine Kd.C_drewN ?_ _) | (with_reducible refine Kd.C_drew ?_))); (case aB => exact bl); (case aF => exact (fun _ _ => trivial)); (case aO => exact (rU HO410.out)); (case aS => exact bz); (case aL => omega); intro v412 w7 ho hb hg hat; rw [e0] at ho; have n_ := aC hb (aE ho); clear HB HO410; obtain ⟨HB, HO413⟩ := n_; clear ho hb hg hat; obtain ⟨Ao8, co8, eo8⟩ := Kd.R_slice HO413.out; subst eo8) | ((with_reducible refine gd 7 rfl ?_); refine bx 7 #[.slice Ao8 l0.length co8, .int .i64 0, .bool true] 107 rfl rfl ?_; intro gr hg w9 hbox hb; have n_ := aC hbox (aC (Kd.R_mono (Kd.R_below (Kd.R_bound HO413.out) hb) (fun k_ hk => show k_ < gr by rw [hg]; exact hk.2.2.1)) (aC (show w.heap.size ≤ gr by rw [hg]; exact bz) (aE (bs hb)))); obtain ⟨IS, HR, HG, HB2⟩ := n_; clear hbox))
 go_ret
 exact ⟨gr, Ao8, co8, by rw [hg]; rfl, IS.out, HR.out, HG.out, HB2.out⟩
def Kb (B g : Nat) (w W_ : World) : Prop := w.heap.size ≤ W_.heap.size ∧ ∀ i, B ≤ i → i < w.heap.size → i ≠ g → W_.heap[i]? = w.heap[i]?
theorem Kb.refl (B g : Nat) (w : World) : Kb B g w w := ⟨Nat.le_refl _, fun _ _ _ _ => rfl⟩
theorem Kb.trans {B g : Nat} {w w1 w2 : World} (h : Kb B g w w1) (k : Kb B g w1 w2) : Kb B g w w2 := ⟨Nat.le_trans h.1 k.1, fun i h1 h2 h3 => (k.2 i h1 (Nat.lt_of_lt_of_le h2 h.1) h3).trans (h.2 i h1 h2 h3)⟩
theorem Kb.of_keep {B g : Nat} {w w1 : World} (k : KeepBut w w1 g none) : Kb B g w w1 := ⟨k.1, fun i _ h2 h3 => k.2 i h2 h3 (by simp)⟩
theorem Kb.of_below {B g : Nat} {w w1 : World} (k : Below w.heap.size w w1) : Kb B g w w1 := Kb.of_keep (KeepBut.of_below k g none)
def XokB (B g gx : Nat) (U C0 C1 : List S103 × List ByteArray) (ws : List ByteArray) (w : World) : Prop :=
 ∃ (a1 a2 a3 a4 a5 a6 a7 : Option Addr) (c1 c2 c3 c4 c5 c6 c7 : Nat),
  (U.1.length ≤ c1 ∧ U.2.length ≤ c2 ∧ C0.1.length ≤ c3 ∧ C0.2.length ≤ c4 ∧ C1.1.length ≤ c5 ∧ C1.2.length ≤ c6 ∧ ws.length ≤ c7) ∧
  ((∀ ad, a2 = some ad → 0 < U.2.length → ad.block ≠ g) ∧ (∀ ad, a4 = some ad → 0 < C0.2.length → ad.block ≠ g) ∧ (∀ ad, a6 = some ad → 0 < C1.2.length → ad.block ≠ g) ∧ (∀ ad, a7 = some ad → 0 < ws.length → ad.block ≠ g)) ∧
  ∀ W_ : World, Kb B g w W_ →
   W_.heap[gx]? = some (.cells #[.pointer (some ⟨g, 0, none⟩), .slice a1 U.1.length c1, .slice a2 U.2.length c2, .slice a3 C0.1.length c3, .slice a4 C0.2.length c4, .slice a5 C1.1.length c5, .slice a6 C1.2.length c6, .slice a7 ws.length c7] 86 (0, 0)) ∧
   Kd.C k103 W_ a1 U.1.length U.1 ∧ Kd.C Kd.string W_ a2 U.2.length U.2 ∧ Kd.C k103 W_ a3 C0.1.length C0.1 ∧ Kd.C Kd.string W_ a4 C0.2.length C0.2 ∧ Kd.C k103 W_ a5 C1.1.length C1.1 ∧ Kd.C Kd.string W_ a6 C1.2.length C1.2 ∧ Kd.C Kd.string W_ a7 ws.length ws
theorem XokB.old {B g gx : Nat} {U C0 C1 : List S103 × List ByteArray} {ws : List ByteArray} {w : World} (h : XokB B g gx U C0 C1 ws w) : Xok g gx U C0 C1 ws w := by
 obtain ⟨a1, a2, a3, a4, a5, a6, a7, c1, c2, c3, c4, c5, c6, c7, hl, hf, hW⟩ := h
 exact ⟨a1, a2, a3, a4, a5, a6, a7, c1, c2, c3, c4, c5, c6, c7, hl, hf, fun W_ q => hW W_ (Kb.of_keep q)⟩
theorem XokB.kb {B g gx : Nat} {U C0 C1 : List S103 × List ByteArray} {ws : List ByteArray} {w w' : World} (h : XokB B g gx U C0 C1 ws w) (k : Kb B g w w') : XokB B g gx U C0 C1 ws w' := by
 obtain ⟨a1, a2, a3, a4, a5, a6, a7, c1, c2, c3, c4, c5, c6, c7, hl, hf, hW⟩ := h
 exact ⟨a1, a2, a3, a4, a5, a6, a7, c1, c2, c3, c4, c5, c6, c7, hl, hf, fun W_ q => hW W_ (k.trans q)⟩
theorem XokB.cell0 {B g gx : Nat} {U C0 C1 : List S103 × List ByteArray} {ws : List ByteArray} {w : World} (h : XokB B g gx U C0 C1 ws w) : ∀ W_, Kb B g w W_ → W_.cell? ⟨gx, 0, none⟩ = some (.pointer (some ⟨g, 0, none⟩)) := by
 obtain ⟨a1, a2, a3, a4, a5, a6, a7, c1, c2, c3, c4, c5, c6, c7, hl, hf, hW⟩ := h
 exact fun W_ q => (cz8 (hW W_ q).1).1
def St (w : World) (g : Nat) (l0 : List Int) (p : Int) (o : Bool) : Prop := ∃ A c, w.heap[g]? = some (.cells #[.slice A l0.length c, .int .i64 p, .bool o] 107 (0, 0)) ∧ Kd.C (Kd.int .u8) w A l0.length l0 ∧ ∀ ad, A = some ad → 0 < l0.length → ad.block < g
def runs_newReader.f (k : Nat) : Option ((List S103 × List ByteArray) × (List S103 × List ByteArray) × (List S103 × List ByteArray) × List ByteArray) :=
 (prefix_Standard.f k 0).bind fun t => (runs_newTable.f k t.1).bind fun U => (runs_remains.f 0).bind fun a => (runs_newTable.f k a).bind fun C0 => (runs_remains.f 1).bind fun b => (runs_newTable.f k b).bind fun C1 => (runs_uprights.f).bind fun u => some (U, C0, C1, ([(⟨#[48, 48, 48, 49]⟩ : ByteArray), (⟨#[48, 48, 49]⟩ : ByteArray)] ++ u))
def cutAt (w : World) (g : Nat) : World := { w with heap := w.heap.extract 0 g }
theorem cutAt_size {w : World} {g : Nat} (h : g ≤ w.heap.size) : (cutAt w g).heap.size = g := by
 show (w.heap.extract 0 g).size = g
 simp; omega
theorem cutAt_get {w : World} {g i : Nat} (h : g ≤ w.heap.size) (hi : i < g) : (cutAt w g).heap[i]? = w.heap[i]? := by
 show (w.heap.extract 0 g)[i]? = w.heap[i]?
 rw [Array.getElem?_extract]; simp [hi]; omega
theorem cutAt_below {w : World} {g : Nat} (h : g ≤ w.heap.size) : Below (cutAt w g).heap.size (cutAt w g) w := by
 refine ⟨rfl, rfl, rfl, by rw [cutAt_size h]; exact h, fun k hk => ?_⟩
 rw [cutAt_size h] at hk
 exact (cutAt_get h hk).symm
theorem C_by {α : Type} {d : Kd α} {W W' : World} {A : Option Addr} {n : Nat} {xs : List α} (hd : ∀ {W W' : World} {x : α} {cs : List Value}, d.K W x cs → d.K W' x cs) (h : d.C W A n xs) (hs : ∀ ad, A = some ad → 0 < n → W'.heap[ad.block]? = W.heap[ad.block]?) : d.C W' A n xs := by
 refine ⟨h.1, h.2.1, fun hn => ?_⟩
 obtain ⟨ad, he, hc⟩ := h.2.2 hn
 refine ⟨ad, he, fun j p hj => ?_⟩
 obtain ⟨cs, h1, h2, h3⟩ := hc j p hj
 refine ⟨cs, h1, hd h2, fun i u hu => ?_⟩
 rw [← h3 i u hu]
 have hb : ∀ m, (ad.add m).block = ad.block := fun m => by rw [add_block]
 simp only [World.cell?, hb, add_block, hs ad he hn]
theorem u8K {W W' : World} {x : Int} {cs : List Value} (h : (Kd.int .u8).K W x cs) : (Kd.int .u8).K W' x cs := h
theorem St.lt {w : World} {g : Nat} {l0 : List Int} {p : Int} {o : Bool} (h : St w g l0 p o) : g < w.heap.size := by
 obtain ⟨A, c, hb, _, _⟩ := h
 exact blk_lt hb
theorem St.to {w : World} {g : Nat} {l0 : List Int} {p : Int} {o : Bool} (h : St w g l0 p o) : IsS107 (cutAt w g) w g l0 p o ∧ Below (cutAt w g).heap.size (cutAt w g) w ∧ (cutAt w g).heap.size = g := by
 have hlt := Nat.le_of_lt h.lt
 obtain ⟨A, c, hb, hc, hg⟩ := h
 exact ⟨⟨A, c, hb, Nat.le_of_eq (cutAt_size hlt), C_by u8K hc (fun ad e hn => cutAt_get hlt (hg ad e hn))⟩, cutAt_below hlt, cutAt_size hlt⟩
theorem St.of {w0 w : World} {g : Nat} {l0 : List Int} {p : Int} {o : Bool} (h : IsS107 w0 w g l0 p o) (hB : Below w0.heap.size w0 w) (hs : w0.heap.size = g) : St w g l0 p o := by
 obtain ⟨A, c, hb, _, hc⟩ := h
 exact ⟨A, c, hb, Kd.C_below hc hB, fun ad e hn => hs ▸ Kd.C_lt (e ▸ hc) hn (by decide)⟩
theorem St.same {w w' : World} {g : Nat} {l0 : List Int} {p : Int} {o : Bool} (h : St w g l0 p o) (hs : ∀ i, i ≤ g → w'.heap[i]? = w.heap[i]?) : St w' g l0 p o := by
 obtain ⟨A, c, hb, hc, hg⟩ := h
 exact ⟨A, c, (hs g (Nat.le_refl _)).trans hb, C_by u8K hc (fun ad e hn => hs _ (Nat.le_of_lt (hg ad e hn))), hg⟩
theorem St.below {w w' : World} {g : Nat} {l0 : List Int} {p : Int} {o : Bool} (h : St w g l0 p o) (hB : Below w.heap.size w w') : St w' g l0 p o := h.same (fun i hi => hB.block i (Nat.lt_of_le_of_lt hi h.lt))
theorem St.put {w : World} {g gb : Nat} {l0 : List Int} {p : Int} {o : Bool} {cs : Array Value} {t : TypeId} (h : St w g l0 p o) (hb : w.heap[gb]? = some (.cells cs t (0, 0))) (hn : noInt .u8 cs = true) (hne : g ≠ gb) (j : Nat) (v : Value) : St (w.setCell ⟨gb, j, none⟩ v) g l0 p o := by
 obtain ⟨A, c, h1, hc, hg⟩ := h
 exact ⟨A, c, (Below.heap_setCell w ⟨gb, j, none⟩ v g hne).trans h1, cO hb hn hc, hg⟩
set_option maxHeartbeats 8000000 in
set_option maxRecDepth 100000 in
theorem runs_newReader.calls (k : Nat) (A0 : Option Addr) (c0 : Nat) (l0 : List Int) (U C0 C1 : List S103 × List ByteArray) (ws : List ByteArray) (w : World) (hr0 : Kd.C (Kd.int .u8) w A0 l0.length l0) (hc0 : l0.length ≤ c0) (hl : l0.length < 140737488355328) (h : runs_newReader.f k = some (U, C0, C1, ws)) :
 Calls Tryd.prog 45 #[.slice A0 l0.length c0] w fun e w' => ∃ (g gx : Nat) (w0 : World), e = .returned (.pointer (some ⟨gx, 0, none⟩)) ∧ IsS107 w0 w' g l0 0 true ∧ XokB w.heap.size g gx U C0 C1 ws w' ∧ Below w0.heap.size w0 w' ∧ w0.heap.size = g ∧ Below w.heap.size w w' ∧ w.heap.size ≤ g ∧ g < gx ∧ gx < w'.heap.size := by
 have hu86 := Tryd.underlying86
 have hu83 := Tryd.underlying83
 have hu84 := Tryd.underlying84
 unfold runs_newReader.f at h
 obtain ⟨⟨t, te⟩, A1, h⟩ := Option.bind_eq_some_iff.mp h
 obtain ⟨⟨U1, U2⟩, A2, h⟩ := Option.bind_eq_some_iff.mp h
 obtain ⟨t2, A3, h⟩ := Option.bind_eq_some_iff.mp h
 obtain ⟨⟨D1, D2⟩, A4, h⟩ := Option.bind_eq_some_iff.mp h
 obtain ⟨t3, A5, h⟩ := Option.bind_eq_some_iff.mp h
 obtain ⟨⟨E1, E2⟩, A6, h⟩ := Option.bind_eq_some_iff.mp h
 obtain ⟨u, A7, h⟩ := Option.bind_eq_some_iff.mp h
 obtain ⟨yy, hyy⟩ : ∃ yy : List ByteArray, yy = [(⟨#[48, 48, 48, 49]⟩ : ByteArray), (⟨#[48, 48, 49]⟩ : ByteArray)] := ⟨_, rfl⟩
 rw [← hyy] at h
 simp only [Option.some.injEq, Prod.mk.injEq] at h
 obtain ⟨rfl, rfl, rfl, rfl⟩ := h
 have hul : u.length = 7 := by
  have := Option.some.inj A7
  rw [← this]; rfl
 have hll : yy.length = 2 := by rw [hyy]; rfl
 have Nyy := Aside0.mk hyy
 clear hyy
 have n_ := aC hr0 (aC hc0 (aC hl (aC A1 (aC A2 (aC A3 (aC A4 (aC A5 (aC A6 (aC A7 (aC hul (aC hll (aE (Below.refl w.heap.size w)))))))))))))
 clear hr0 hc0 hl A1 A2 A3 A4 A5 A6 A7 hul hll
 obtain ⟨HR0, HC0, HL0, A1, A2, A3, A4, A5, A6, A7, HUL, HLL, HB⟩ := n_
 go_enter Tryd.func45, Tryd.ntmps45
 go_wp2_with (first
  | (refine gF 36 6 Tryd.func36 #[.int .i64 0] rfl rfl ?_; (with_reducible refine (prefix_Standard.calls k 0 t te _ A1.out).mono ?_); rintro e w1 ⟨v1, rfl, ho, hb⟩; refine ⟨_, rfl, ?_⟩; have n_ := aC (Kd.R_lower (Kd.R_mono (Kd.R_bound ho) (fun k_ hk => show k_ < w1.heap.size from hk.2.2.1)) bz) (aC (show w.heap.size ≤ w1.heap.size from (bs hb).size) (aE (bs hb))); clear HB; obtain ⟨HT, HGE0, HB⟩ := n_; clear ho hb; obtain ⟨At, ct, et⟩ := Kd.R_slice HT.out; subst et)
  | (refine gF 56 10 Tryd.func56 #[.slice A0 l0.length c0] rfl rfl ?_; (with_reducible refine (bits_NewReader.calls A0 c0 l0 _ (Kd.C_below HR0.out HB.out) HC0.out HL0.out).mono ?_); rintro e w3 ⟨gr, A3r, c3r, rfl, hcell, hrow, hge, hb⟩; refine ⟨_, rfl, ?_⟩; have n_ := aC hcell (aC (Kd.R_mono (Kd.R_bound hrow) (fun k_ hk => show k_ < gr ∧ w1.heap.size ≤ k_ from ⟨hk.1, hk.2.1⟩)) (aC hge (aC (blk_lt hcell) (aC (Kd.R_below HT.out hb) (aE (bs hb)))))); clear HB HT; obtain ⟨HCELL, HROW, HGE, HLT, HT, HB⟩ := n_; clear hcell hrow hge hb)
  | (refine gF 57 12 Tryd.func57 #[.slice At t.length ct] rfl rfl ?_; (with_reducible refine (runs_newTable.calls k (fun k_ => k_ < w1.heap.size) _ t U1 U2 w _ HB.out HT.out A2.out).mono ?_); rintro e w4 ⟨v2, v3, rfl, ho2, ho3, hb, hk⟩; refine ⟨_, rfl, ?_⟩; have n_ := aC ((hk.2 gr HLT.out (Nat.not_lt.mpr HGE.out)).trans HCELL.out) (aC (Kd.R_kept HROW.out hk (fun k_ h_ => Nat.not_lt.mpr h_.2)) (aC (Nat.lt_of_lt_of_le HLT.out hk.1) (aC (Kd.R_mono ho2 (fun k_ h_ => show k_ ≠ gr from h_.elim (fun q => Nat.ne_of_lt (Nat.lt_of_lt_of_le q HGE.out)) (fun q => Nat.ne_of_gt (Nat.lt_of_lt_of_le HLT.out q)))) (aC (Kd.R_mono ho3 (fun k_ h_ => show k_ ≠ gr from h_.elim (fun q => Nat.ne_of_lt (Nat.lt_of_lt_of_le q HGE.out)) (fun q => Nat.ne_of_gt (Nat.lt_of_lt_of_le HLT.out q)))) (aE hb))))); clear HB HT HCELL HROW HLT ho2 ho3 hb hk; obtain ⟨HCELL, HROW, HLT, HU1, HU2, HB⟩ := n_; obtain ⟨Au, cu, eu⟩ := Kd.R_slice HU1.out; subst eu; obtain ⟨Av, cv, ev⟩ := Kd.R_slice HU2.out; subst ev)
  | (refine gF 38 13 Tryd.func38 #[.int .i64 0] rfl rfl ?_; (with_reducible refine (runs_remains.calls 0 t2 _ A3.out).mono ?_); rintro e w5 ⟨v4, rfl, ho, hb5⟩; refine ⟨_, rfl, ?_⟩; have HB5 := Aside0.mk hb5; have HO5 := Aside0.mk ho; clear ho hb5)
  | (refine gF 57 14 Tryd.func57 #[v4] rfl rfl ?_; (with_reducible refine (runs_newTable.calls k (fun _ => True) v4 t2 D1 D2 w4 _ HB5.out HO5.out A4.out).mono ?_); rintro e w6 ⟨v5, v6, rfl, ho2, ho3, hb, hk⟩; refine ⟨_, rfl, ?_⟩; have n_ := aC (blk_below HCELL.out hb) (aC (Kd.R_below HROW.out hb) (aC (Nat.lt_of_lt_of_le HLT.out hb.size) (aC (Kd.R_below HU1.out hb) (aC (Kd.R_below HU2.out hb) (aC (Kd.R_lower (Kd.R_mono (Kd.R_bound ho2) (fun k_ h_ => show k_ ≠ gr from Nat.ne_of_gt (Nat.lt_of_lt_of_le HLT.out h_.2.1))) HB.out.size) (aC (Kd.R_lower (Kd.R_mono (Kd.R_bound ho3) (fun k_ h_ => show k_ ≠ gr from Nat.ne_of_gt (Nat.lt_of_lt_of_le HLT.out h_.2.1))) HB.out.size) (aE (bs hb)))))))); clear HB HCELL HROW HLT HU1 HU2 ho2 ho3 hb hk HB5 HO5; obtain ⟨HCELL, HROW, HLT, HU1, HU2, HD1, HD2, HB⟩ := n_; obtain ⟨Ad, cd, ed⟩ := Kd.R_slice HD1.out; subst ed; obtain ⟨Af, cf, ef⟩ := Kd.R_slice HD2.out; subst ef)
  | (refine gF 38 15 Tryd.func38 #[.int .i64 1] rfl rfl ?_; (with_reducible refine (runs_remains.calls 1 t3 _ A5.out).mono ?_); rintro e w7 ⟨v7, rfl, ho, hb7⟩; refine ⟨_, rfl, ?_⟩; have HB7 := Aside0.mk hb7; have HO7 := Aside0.mk ho; clear ho hb7)
  | (refine gF 57 16 Tryd.func57 #[v7] rfl rfl ?_; (with_reducible refine (runs_newTable.calls k (fun _ => True) v7 t3 E1 E2 w6 _ HB7.out HO7.out A6.out).mono ?_); rintro e w8 ⟨v8, v9, rfl, ho2, ho3, hb, hk⟩; refine ⟨_, rfl, ?_⟩; have n_ := aC (blk_below HCELL.out hb) (aC (Kd.R_below HROW.out hb) (aC (Nat.lt_of_lt_of_le HLT.out hb.size) (aC (Kd.R_below HU1.out hb) (aC (Kd.R_below HU2.out hb) (aC (Kd.R_below HD1.out hb) (aC (Kd.R_below HD2.out hb) (aC (Kd.R_lower (Kd.R_mono (Kd.R_bound ho2) (fun k_ h_ => show k_ ≠ gr from Nat.ne_of_gt (Nat.lt_of_lt_of_le HLT.out h_.2.1))) HB.out.size) (aC (Kd.R_lower (Kd.R_mono (Kd.R_bound ho3) (fun k_ h_ => show k_ ≠ gr from Nat.ne_of_gt (Nat.lt_of_lt_of_le HLT.out h_.2.1))) HB.out.size) (aE (bs hb)))))))))); clear HB HCELL HROW HLT HU1 HU2 HD1 HD2 ho2 ho3 hb hk HB7 HO7; obtain ⟨HCELL, HROW, HLT, HU1, HU2, HD1, HD2, HE1, HE2, HB⟩ := n_; obtain ⟨Ae, ce, ee⟩ := Kd.R_slice HE1.out; subst ee; obtain ⟨Ah, ch, eh⟩ := Kd.R_slice HE2.out; subst eh)
  | ((with_reducible refine gd 18 rfl ?_); refine Kd.R_lit Kd.string _ 9 ?hg (N := 18) ?hd (xs := ([(⟨#[48, 48, 48, 49]⟩ : ByteArray), (⟨#[48, 48, 49]⟩ : ByteArray)] : List ByteArray)) (inner := [.string (⟨#[48, 48, 48, 49]⟩ : ByteArray), .string (⟨#[48, 48, 49]⟩ : ByteArray)]) (ok := fun _ => True) (okp := fun _ => True) ?hr ?hp (fun _ hk => hk) trivial (Below.refl _ _) (Nat.le_refl _) (by simp) ?_; (case hd => rfl); (case hg => rfl); (case hr => first | (go_simp; done) | (go_simp; rfl)); (case hp => exact (Reps.one (show Kd.M Kd.string _ _ _ (⟨#[48, 48, 48, 49]⟩ : ByteArray) [.string (⟨#[48, 48, 48, 49]⟩ : ByteArray)] from rfl) (Reps.one (show Kd.M Kd.string _ _ _ (⟨#[48, 48, 49]⟩ : ByteArray) [.string (⟨#[48, 48, 49]⟩ : ByteArray)] from rfl) (Reps.none _ _)))); intro v18 w9 ho2 hb hg_ hnew_; clear hg_ hnew_; (first | rw [← Nyy.out] at ho2 | (simp only [Int.reduceToNat] at ho2; rw [← Nyy.out] at ho2)); have HO18 := Aside0.mk ho2; have HB9 := Aside0.mk hb; clear ho2 hb)
  | (refine gF 43 19 Tryd.func43 #[] rfl rfl ?_; (with_reducible refine (runs_uprights.calls u _ A7.out).mono ?_); rintro e w10 ⟨v19, rfl, ho, hb⟩; refine ⟨_, rfl, ?_⟩; have n_ := aC ho (aC (Kd.R_below HO18.out hb) (aE (below_step HB9.out hb))); clear HO18 HB9 ho hb; obtain ⟨HO19, HO18, HB9⟩ := n_; obtain ⟨Ai, ci, ei⟩ := Kd.R_slice HO19.out; subst ei)
  | ((with_reducible refine gate_builtin (b := .append) (xs := #[.tmp 18, .tmp 19]) rfl ?_); at_builtin; refine Kd.R_append_rows Kd.string (w0 := w8) w8.heap.size rfl (.tmp 18) (.tmp 19) 45 9 (.string ⟨#[]⟩) 16 rfl Tryd.underlying45 info9 rfl (by decide) (by omega) v18 yy u _ _ _ (fun _ => True) (fun _ => False) rfl rfl ?aO ?aR (fun _ _ h => h) (fun _ h => h.elim) ?aF ?aB ?aS ?aL ?_; (case aR => exact (Kd.R_reads' HO19.out).2.2); (case aB => exact HB9.out); (case aF => exact (fun _ _ => trivial)); (case aO => exact HO18.out); (case aS => exact HB9.out.size); (case aL => have e1_ := HUL.out; have e2_ := HLL.out; omega); intro v20 w11 ho hb hg hat; have n_ := aC (blk_below HCELL.out hb) (aC (Kd.R_below HROW.out hb) (aC (Nat.lt_of_lt_of_le HLT.out hb.size) (aC (Kd.R_below HU1.out hb) (aC (Kd.R_below HU2.out hb) (aC (Kd.R_below HD1.out hb) (aC (Kd.R_below HD2.out hb) (aC (Kd.R_below HE1.out hb) (aC (Kd.R_below HE2.out hb) (aC (Kd.R_lower (Kd.R_mono (Kd.R_bound ho) (fun k_ h_ => show k_ ≠ gr from Nat.ne_of_gt (Nat.lt_of_lt_of_le HLT.out h_.2.1))) HB.out.size) (aE (bs hb))))))))))); clear HB HCELL HROW HLT HU1 HU2 HD1 HD2 HE1 HE2 ho hb hg hat HO18 HO19 HB9; obtain ⟨HCELL, HROW, HLT, HU1, HU2, HD1, HD2, HE1, HE2, HW, HB⟩ := n_; obtain ⟨Aj, cj, ej⟩ := Kd.R_slice HW.out; subst ej)
  | ((with_reducible refine gd 22 rfl ?_); refine bx 22 #[.pointer (some ⟨gr, 0, none⟩), .slice Au U1.length cu, .slice Av U2.length cv, .slice Ad D1.length cd, .slice Af D2.length cf, .slice Ae E1.length ce, .slice Ah E2.length ch, .slice Aj (yy ++ u).length cj] 86 rfl rfl ?_; intro gx hg w12 hbox hb; have n_ := aC hbox (aC (show gx = _ from hg) (aE hb)); clear hbox hb; obtain ⟨HBOX, HGX, HB12⟩ := n_))
 go_ret
 have hB := HB12.out
 have hlt : gr < gx := by rw [HGX.out]; exact HLT.out
 have hsz : gx < w12.heap.size := blk_lt HBOX.out
 have hne : gx ≠ gr := Nat.ne_of_gt hlt
 have hle : gr ≤ w12.heap.size := by omega
 have hge0 : w.heap.size ≤ gr := Nat.le_trans HGE0.out HGE.out
 refine ⟨gr, gx, by rw [HGX.out]; rfl, cutAt w12 gr, ⟨A3r, c3r, blk_below HCELL.out hB, Nat.le_of_eq (cutAt_size hle), ?_⟩, ⟨Au, Av, Ad, Af, Ae, Ah, Aj, cu, cv, cd, cf, ce, ch, cj, ⟨?_, ?_, ?_, ?_, ?_, ?_, ?_⟩, ⟨?_, ?_, ?_, ?_⟩, fun W_ hk => ⟨(hk.2 gx (Nat.le_trans hge0 (Nat.le_of_lt hlt)) hsz hne).trans HBOX.out, ?_, ?_, ?_, ?_, ?_, ?_, ?_⟩⟩, cutAt_below hle, cutAt_size hle, bs hB, ?_, hlt, hsz⟩
 ·exact (Kd.R_reads' (Kd.R_move (Kd.R_below HROW.out hB) (fun k_ h_ => cutAt_get hle h_.1))).2.2
 ·exact (Kd.R_reads' HU1.out).2.1
 ·exact (Kd.R_reads' HU2.out).2.1
 ·exact (Kd.R_reads' HD1.out).2.1
 ·exact (Kd.R_reads' HD2.out).2.1
 ·exact (Kd.R_reads' HE1.out).2.1
 ·exact (Kd.R_reads' HE2.out).2.1
 ·exact (Kd.R_reads' HW.out).2.1
 ·intro ad ha _; exact HU2.out.1 _ (by rw [ha]; rfl)
 ·intro ad ha _; exact HD2.out.1 _ (by rw [ha]; rfl)
 ·intro ad ha _; exact HE2.out.1 _ (by rw [ha]; rfl)
 ·intro ad ha _; exact HW.out.1 _ (by rw [ha]; rfl)
 ·exact (Kd.R_reads' (Kd.R_step (Kd.R_bound (Kd.R_below HU1.out hB)) (fun k_ ho hl_ => hk.2 k_ ho.2.1 hl_ ho.1))).2.2
 ·exact (Kd.R_reads' (Kd.R_step (Kd.R_bound (Kd.R_below HU2.out hB)) (fun k_ ho hl_ => hk.2 k_ ho.2.1 hl_ ho.1))).2.2
 ·exact (Kd.R_reads' (Kd.R_step (Kd.R_bound (Kd.R_below HD1.out hB)) (fun k_ ho hl_ => hk.2 k_ ho.2.1 hl_ ho.1))).2.2
 ·exact (Kd.R_reads' (Kd.R_step (Kd.R_bound (Kd.R_below HD2.out hB)) (fun k_ ho hl_ => hk.2 k_ ho.2.1 hl_ ho.1))).2.2
 ·exact (Kd.R_reads' (Kd.R_step (Kd.R_bound (Kd.R_below HE1.out hB)) (fun k_ ho hl_ => hk.2 k_ ho.2.1 hl_ ho.1))).2.2
 ·exact (Kd.R_reads' (Kd.R_step (Kd.R_bound (Kd.R_below HE2.out hB)) (fun k_ ho hl_ => hk.2 k_ ho.2.1 hl_ ho.1))).2.2
 ·exact (Kd.R_reads' (Kd.R_step (Kd.R_bound (Kd.R_below HW.out hB)) (fun k_ ho hl_ => hk.2 k_ ho.2.1 hl_ ho.1))).2.2
 ·exact hge0
theorem newReader_tabs : runs_newReader.f 200 = some (tU, tC0, tC1, tW) := by kernel_rfl
theorem XokB.mono {B B' g gx : Nat} {U C0 C1 : List S103 × List ByteArray} {ws : List ByteArray} {w : World} (h : XokB B g gx U C0 C1 ws w) (hB : B' ≤ B) : XokB B' g gx U C0 C1 ws w := by
 obtain ⟨a1, a2, a3, a4, a5, a6, a7, c1, c2, c3, c4, c5, c6, c7, hl, hf, hW⟩ := h
 exact ⟨a1, a2, a3, a4, a5, a6, a7, c1, c2, c3, c4, c5, c6, c7, hl, hf, fun W_ q => hW W_ ⟨q.1, fun i h1 h2 h3 => q.2 i (Nat.le_trans hB h1) h2 h3⟩⟩
theorem St.off {w w' : World} {g gb : Nat} {l0 : List Int} {p : Int} {o : Bool} {cs : Array Value} {t : TypeId} (h : St w g l0 p o) (hb : w.heap[gb]? = some (.cells cs t (0, 0))) (hn : noInt .u8 cs = true) (hne : gb ≠ g) [u : WOff gb w w'] : St w' g l0 p o := by
 have hlt := h.lt
 obtain ⟨A, c, h1, hc, hg⟩ := h
 exact ⟨A, c, (u.off.2 g hlt hne.symm).trans h1, cO hb hn hc, hg⟩
theorem Kb.off {w w' : World} {g gb : Nat} [u : WOff gb w w'] : Kb (gb + 1) g w w' := ⟨u.off.1, fun i h1 h2 _ => u.off.2 i h2 (by omega)⟩
theorem Kb.grown {B g : Nat} {w W W2 : World} {row : Option Nat} (h : Kb B g w W) (hg : W.grownBy W2 row) (hr : ∀ k, row = some k → w.heap.size ≤ k) : Kb B g w W2 :=
 ⟨Nat.le_trans h.1 hg.size, fun i h1 h2 h3 => (hg.block i (Nat.lt_of_lt_of_le h2 h.1) (fun e => absurd (hr i e.symm) (Nat.not_le.mpr h2))).trans (h.2 i h1 h2 h3)⟩
theorem St.grown {w W2 : World} {g : Nat} {l0 : List Int} {p : Int} {o : Bool} {row : Option Nat} (h : St w g l0 p o) (hg : w.grownBy W2 row) (hr : ∀ k, row = some k → g < k) : St W2 g l0 p o :=
 h.same (fun i hi => hg.block i (Nat.lt_of_le_of_lt hi h.lt) (fun e => absurd (hr i e.symm) (Nat.not_lt.mpr hi)))
theorem below_keep {B g : Nat} {w W W2 : World} {n : Nat} (h : Below B w W) (hB : B ≤ w.heap.size) (hb : Below n (cutAt W g) W2) (hk : KeepBut W W2 g none) (hg : B ≤ g) : Below B w W2 :=
 ⟨hb.os.trans h.os, hb.tape.trans h.tape, hb.output.trans h.output, Nat.le_trans h.size hk.1, fun i hi => (hk.2 i (Nat.lt_of_lt_of_le hi (Nat.le_trans hB h.size)) (Nat.ne_of_lt (Nat.lt_of_lt_of_le hi hg)) (by simp)).trans (h.block i hi)⟩
theorem below_via {B n : Nat} {w W W2 : World} (h : Below B w W) (hb : Below n W W2) (hn : B ≤ n) : Below B w W2 :=
 ⟨hb.os.trans h.os, hb.tape.trans h.tape, hb.output.trans h.output, Nat.le_trans h.size hb.size, fun i hi => (hb.block i (Nat.lt_of_lt_of_le hi hn)).trans (h.block i hi)⟩
theorem want_ {c : Bool} {A B : Prop} (hc : c = true) (h : A) : if c = true then A else B := by rw [if_pos hc]; exact h
theorem below_put {B : Nat} {w W : World} {p : Addr} {v : Value} (h : Below B w W) (hp : B ≤ p.block) : Below B w (W.setCell p v) :=
 ⟨h.os, h.tape, h.output, by simpa [World.setCell] using h.size, fun k hk => (Below.heap_setCell W p v k (Nat.ne_of_lt (Nat.lt_of_lt_of_le hk hp))).trans (h.block k hk)⟩
def runs_read31.l0 : Nat → List Int → Int → Int → Int → Bool → List Int → Int → List Int → Option (Int × Int × List Int × Int × Int)
 | 0, _, _, _, _, _, _, _, _ => none
 | k + 1, l0, a1, a2, p, o, ab, y, pix => if y < a2 then ((runs_reader_one.f k l0 p o a1 ab).bind fun t => (if t.2.1 = 0 then (if pix.length + t.1.length < 140737488355328 then runs_read31.l0 k l0 a1 a2 t.2.2.1 t.2.2.2 t.1 (wrap64 (y + 1)) (pix ++ t.1) else none) else some (0, 0, [], 0, t.2.1))) else ((bits_Reader_At.f l0 p o).bind fun t => some (a1, a2, pix, t.1, 0))
def runs_read31.f (k : Nat) (l0 : List Int) (a1 a2 : Int) : Option (Int × Int × List Int × Int × Int) :=
  (bitmap_New.f k a1 a2 0).bind fun t => (if t.2.2.2 = 0 then (if 0 ≤ a1 then (if a1.toNat ≤ 281474976710656 then (if l0.length < 140737488355328 then runs_read31.l0 k l0 a1 a2 0 true (List.replicate a1.toNat 0) 0 [] else none) else none) else none) else some (0, 0, [], 0, 2))
theorem runs_read31.mono_l : ∀ k, (∀ y0 y1 y2 y3 y4 y5 y6 y7, LeO (runs_read31.l0 k y0 y1 y2 y3 y4 y5 y6 y7) (runs_read31.l0 (k + 1) y0 y1 y2 y3 y4 y5 y6 y7))
 | 0 => fun _ _ _ _ _ _ _ _ r h => by simp [runs_read31.l0] at h
 | k + 1 => by
  have ih0 := runs_read31.mono_l k
  intro y0 y1 y2 y3 y4 y5 y6 y7
  unfold runs_read31.l0
  refine LeO.ite (LeO.bind (runs_reader_one.mono _ _ _ _ _ k) (fun t => LeO.ite (LeO.ite (ih0 _ _ _ _ _ _ _ _) (LeO.refl _)) (LeO.refl _))) (LeO.refl _)
theorem runs_read31.mono : ∀ a0 a1 a2 k, LeO (runs_read31.f k a0 a1 a2) (runs_read31.f (k + 1) a0 a1 a2) := by
  intro a0 a1 a2 k
  unfold runs_read31.f
  exact LeO.bind (bitmap_New.mono _ _ _ k) (fun t => LeO.ite (LeO.ite (LeO.ite (LeO.ite (runs_read31.mono_l k _ _ _ _ _ _ _ _) (LeO.refl _)) (LeO.refl _)) (LeO.refl _)) (LeO.refl _))
def runs_read31.T14 : Bool × List (List Nat × List Nat) := (true, [([], []), ([], []), ([1], [1]), ([2], [2]), ([3], [3]), ([4], [4]), ([0, 5, 0], [0]), ([5, 6, 0, 1, 2, 3, 4, 5, 6], [5]), ([7, 0, 1, 2, 3, 4, 5, 6, 7], [])])
def runs_read31.B14 : List Nat := [0, 0, 2, 6, 14, 30, 63, 127, 255]
theorem runs_read31.tab14 : rtab .any (opsOf Tryd.f30 14) = runs_read31.T14 := by kernel_rfl
theorem runs_read31.bits14 : waitsOk runs_read31.T14.2 runs_read31.B14 = true := by kernel_rfl
set_option maxHeartbeats 16000000 in
set_option maxRecDepth 100000 in
theorem runs_read31.calls (k : Nat) (A0 : Option Addr) (c0 : Nat) (l0 : List Int) (a1 a2 : Int) (r1 r2 : Int) (r3 : List Int) (r4 r5 : Int) (w : World) (hr0 : Kd.C (Kd.int .u8) w A0 l0.length l0) (hc0 : l0.length ≤ c0) (h : runs_read31.f k l0 a1 a2 = some (r1, r2, r3, r4, r5)) :
  Calls Tryd.prog 30 #[.slice A0 l0.length c0, .int .i64 a1, .int .i64 a2, .func (.func 31) #[] #[]] w fun e w' => ∃ v2_ : Value, e = .returned (.tuple #[.agg #[.int .i64 r1, .int .i64 r2, v2_], .int .i64 r4, .int .i64 r5]) ∧ Kd.R (Kd.int .u8) 5 w' w.heap.size (fun _ => True) v2_ r3 ∧ Below w.heap.size w w' := by
 have hu24 := Tryd.underlying24
 have hu86 := Tryd.underlying86
 have HR0 := Aside0.mk hr0
 have HC0 := Aside0.mk hc0
 clear hr0 hc0
 have HB := Aside0.mk (Below.refl w.heap.size w)
 unfold runs_read31.f at h
 obtain ⟨⟨t1, t2, t3, t4⟩, A1, H⟩ := Option.bind_eq_some_iff.mp h
 clear h
 have A1 := Aside0.mk A1
 try dsimp only at H
 by_cases c2 : t4 = 0
 ·rw [if_pos c2] at H
  subst c2
  by_cases c3 : 0 ≤ a1
  ·rw [if_pos c3] at H
   have c3b0 := eq_true c3
   have c3b1 := decide_eq_true c3
   clear c3
   by_cases c4 : a1.toNat ≤ 281474976710656
   ·rw [if_pos c4] at H
    have c4b0 := eq_true c4
    have c4b1 := decide_eq_true c4
    clear c4
    by_cases c5 : l0.length < 140737488355328
    ·rw [if_pos c5] at H
     have HL0 := Aside0.mk c5
     clear c5
     obtain ⟨y532, hy_⟩ : ∃ y_ : List Int, y_ = (List.replicate (a1 : Int).toNat 0) := ⟨_, rfl⟩
     rw [← hy_] at H
     have Ny532 := aE hy_
     clear hy_
     have H' := Aside0.mk H
     clear H
     go_enter Tryd.func30, Tryd.ntmps30
     go_wp2_with (first
      | ((with_reducible refine gd 8 rfl ?_); refine bx 8 #[.int .i64 0, .int .i64 0, .slice none 0 0] 24 rfl rfl ?_; intro gb8 hg wA hbox hb; have n_ := aC (bs hb) (aC hbox (aE (gz hg))); clear HB; obtain ⟨HB, BK8, GW8⟩ := n_; clear hb hbox hg)
      | (refine gF 44 18 Tryd.func44 #[.int .i64 a1, .int .i64 a2, .int .i64 0] rfl rfl ?_; (with_reducible refine (bitmap_New.calls k a1 a2 0 t1 t2 t3 0 _ A1.out).mono ?_); rintro e wB ⟨v18, rfl, ho, hb⟩; refine ⟨_, rfl, ?_⟩; have n_ := aC (blk_below (bU BK8.out) hb) (aC ho (aE (bs hb))); clear BK8 HB ho hb; obtain ⟨BK8, HO18, HB⟩ := n_; obtain ⟨Ao18, co18, eo18⟩ := Kd.R_slice HO18.out; subst eo18; clear HO18)
      | ((with_reducible refine gd 11 rfl ?_); refine bx 11 #[.int .i64 0, .int .i64 0, .slice none 0 0] 24 rfl rfl ?_; intro gb11 hg wC hbox hb; have n_ := aC (blk_below (bU BK8.out) hb) (aC (bs hb) (aC hbox (aC (gz hg) (aC (gn hg (bU BK8.out)) (aE (gm hg (bU BK8.out))))))); clear BK8 HB; obtain ⟨BK8, HB, BK11, GW11, NB8_11, NB11_8⟩ := n_; clear hb hbox hg; have hnb11 := NB11_8.out; have hnc11 := NB8_11.out; obtain ⟨hcz12_0, hcz12_1, hcz12_2, hfz12_0, hfz12_1, hfz12_2⟩ := cz3f BK11.out)
      | (refine gF 45 25 Tryd.func45 #[.slice A0 l0.length c0] rfl rfl ?_; (with_reducible refine (runs_newReader.calls 200 A0 c0 l0 tU tC0 tC1 tW _ (Kd.C_below HR0.out bl) HC0.out HL0.out newReader_tabs).mono ?_); rintro e wD ⟨gr, gx, w0, rfl, hI, hX, hB0, hs, hb, hge, hlt, hsz⟩; refine ⟨_, rfl, ?_⟩; have n_ := aC (blk_below (show _ = some (.cells #[.int .i64 0, .int .i64 0, .slice none 0 0] 24 (0, 0)) from by (repeat refine blk_far ?_ NB8_11.out _); exact BK8.out) hb) (aC (XokB.mono hX (B' := gb8 + 1) (blk_lt (o := .cells #[.int .i64 0, .int .i64 0, .slice none 0 0] 24 (0, 0)) (by (repeat refine blk_far ?_ NB8_11.out _); exact BK8.out))) (aC (St.of hI hB0 hs) (aC (Kb.refl (gb8 + 1) gr wD) (aC (Nat.lt_of_lt_of_le (blk_lt (o := .cells #[.int .i64 0, .int .i64 0, .slice none 0 0] 24 (0, 0)) (by (repeat refine blk_far ?_ NB8_11.out _); exact BK8.out)) hge : gb8 < gr) (aC hsz (aC (Nat.lt_trans hlt hsz : gr < wD.heap.size) (aE (bs hb)))))))); clear BK8 HB hI hX hB0 hs hb hge; obtain ⟨BK8, XB, ST, KB, LT8, LTX, LTG, HB⟩ := n_; obtain ⟨hcz20_0, hcz20_1, hcz20_2, hfz20_0, hfz20_1, hfz20_2⟩ := cz3f BK8.out)
      | ((with_reducible refine gd 30 rfl ?_); refine Kd.R_make (Kd.int .u8) _ 5 rfl (N := 30) rfl 22 _ _ rfl a1 rfl rfl Tryd.underlying22 (.int .u8 0) 1 info5 rfl (by decide) (by omega) 0 (ok := fun _ => True) (okp := fun _ => True) rfl (fun _ hk => hk) trivial (dt) (Nat.le_trans (Nat.mul_le_mul_right _ (dt : a1.toNat ≤ 281474976710656)) (by omega)) (Below.refl _ _) (Nat.le_refl _) ?_; intro v533 wE ho14 hb hg_ hnew_; clear hg_ hnew_; (first | rw [← Ny532.out] at ho14 | (simp only [Int.reduceToNat] at ho14; rw [← Ny532.out] at ho14)); have n_ := aC (Kd.R_lower ho14 (Kb.trans KB.out (Kb.off (gb := gb8) (g := gr) (w := wD))).1) (aC (blk_below (show _ = some (.cells #[.int .i64 a1, .int .i64 a2, .slice none 0 0] 24 (0, 0)) from by refine blk_put (cs := #[.int .i64 a1, .int .i64 a2, .slice none 0 0]) ?_ 2 _ rfl; refine blk_put (cs := #[.int .i64 a1, .int .i64 0, .slice none 0 0]) ?_ 1 _ rfl; refine blk_put (cs := #[.int .i64 0, .int .i64 0, .slice none 0 0]) ?_ 0 _ rfl; exact BK8.out) hb) (aC (St.below (St.off ST.out BK8.out rfl (Nat.ne_of_lt LT8.out)) hb) (aC (Kb.trans (Kb.trans KB.out (Kb.off (gb := gb8) (g := gr) (w := wD))) (Kb.of_below hb)) (aE (bs hb))))); clear BK8 ST KB HB; obtain ⟨HO14, BK8, ST, KB, HB⟩ := n_; clear hb ho14))
     go_loopg [14, 32] k (fun kq v14 v32 w' => ∃ (ab : List Int) (y : Int) (p : Int) (o : Bool) (pix : List Int) (u : Value), v32 = .int .i64 y ∧ Aside0 (runs_read31.l0 kq l0 a1 a2 p o ab y pix = some (r1, r2, r3, r4, r5)) ∧ Aside0 (kq ≤ k) ∧ Aside0 (Kd.R (Kd.int .u8) 5 w' wD.heap.size (fun k_ => some k_ ≠ (u : Value).ownBlock) v14 ab) ∧ Aside0 (Kd.R (Kd.int .u8) 5 w' wD.heap.size (fun k_ => some k_ ≠ (v14 : Value).ownBlock) u pix) ∧ Aside0 (w'.heap[gb8]? = some (.cells #[.int .i64 a1, .int .i64 a2, u] 24 (0, 0))) ∧ Aside0 (St w' gr l0 p o) ∧ Aside0 (Kb (gb8 + 1) gr wD w') ∧ Aside0 (Below w.heap.size w w'))
     case atStart => exact ⟨y532, (0), (0), true, ([] : List Int), (.slice none 0 0), rq, H', ⟨Nat.le_refl _⟩, ⟨rU (Kd.R_mono HO14.out (fun _ hk => (by simp [Value.ownBlock])))⟩, ⟨Kd.R_nil _ _ _ _ _⟩, ⟨bU BK8.out⟩, ⟨by exact ST.out⟩, ⟨by exact KB.out⟩, ⟨bl⟩⟩
     case round =>
      clear H' HO14 ST KB HB BK8
      obtain ⟨ab, y, p, o, pix, u, rfl, HA, HK1, HO_14, HO_p, BK8, ST, KB, HB⟩ := hrel
      cases gk with
      | zero => exact absurd HA.out (by simp [runs_read31.l0])
      | succ k1 =>
       have H := HA.out
       clear HA
       simp only [runs_read31.l0] at H
       obtain ⟨Aou, cou, eou⟩ := Kd.R_slice HO_p.out
       subst eou
       rcases iL H with H1 | H1 <;> clear H <;> obtain ⟨H, c15b0⟩ := H1
       ·obtain ⟨⟨q1, q2, q3, q4⟩, A170, H⟩ := Option.bind_eq_some_iff.mp H
        try dsimp only at H
        have A17 := Aside0.mk A170
        clear A170
        obtain ⟨Ao20, co20, eo20⟩ := Kd.R_slice HO_14.out
        subst eo20
        rcases iE H with H1 | H1 <;> clear H <;> obtain ⟨H, c18b0, c18b1, c18⟩ := H1
        ·by_cases c19 : pix.length + q1.length < 140737488355328
         ·rw [if_pos c19] at H
          have LMc19 := Aside0.mk c19
          clear c19
          obtain ⟨y540, hy_⟩ : ∃ y_ : List Int, y_ = (pix ++ q1) := ⟨_, rfl⟩
          rw [← hy_] at H
          have Ny540 := aE hy_
          clear hy_
          have H' := Aside0.mk H
          clear H
          go_wp2_with (first | ((with_reducible refine gate_value rfl ?_); refine goesV_ (some 39) rfl rfl Tryd.func31 (by kernel_rfl) rfl #[.pointer (some ⟨gx, 0, none⟩), .int .i64 a1, .slice Ao20 ab.length co20] rfl rfl (by (try simp only [List.map_toArray, List.map_cons, List.map_nil]); first | done | rfl) ?_; (with_reducible refine (runs_reader_one.calls k1 gr l0 p o a1 _ _ ab q1 q2 q3 q4 (cutAt _ gr) _ (St.to ST.out).1 (St.to ST.out).2.1 (Kd.R_reads' HO_14.out).2.2 (Kd.R_reads' HO_14.out).2.1 (fun ad e_ _ => Nat.ne_of_gt (Nat.lt_of_lt_of_le LTG.out (Kd.R_base HO_14.out _ (by rw [e_]; simp [Value.ownBlock])))) gx (XB.out.kb KB.out).old A17.out).mono ?_); rintro e wF ⟨v39, rfl, ho, hi, hb, hk⟩; refine ⟨_, rfl, ?_⟩; have n_ := aC (Kd.R_lower (Kd.R_new' (Kd.R_new' ho (Kd.R_lt HO_14.out)) (Kd.R_lt HO_p.out)) KB.out.1) (aC (Kd.R_mono (Kd.R_step (Kd.R_bound HO_p.out) (fun k_ h_ hl_ => hk.2 k_ hl_ (Nat.ne_of_gt (Nat.lt_of_lt_of_le LTG.out h_.2.1)) (by simp))) (fun k_ h_ => show some k_ ≠ v39.ownBlock from fun e_ => absurd (Kd.R_base ho k_ e_.symm) (Nat.not_le.mpr h_.2.2.1))) (aC (KeepBut.blk hk BK8.out (Nat.ne_of_lt LT8.out) (by simp)) (aC (St.of hi hb (St.to ST.out).2.2) (aC (Kb.trans KB.out (Kb.of_keep hk)) (aE (below_keep HB.out (Nat.le_refl _) hb hk (Nat.le_trans GW8.out (Nat.le_of_lt LT8.out)))))))); clear HO_14 HO_p BK8 ST KB HB ho hi hb hk; obtain ⟨HO39, HO_p, BK8, ST, KB, HB⟩ := n_; obtain ⟨hcz23_0, hcz23_1, hcz23_2, hfz23_0, hfz23_1, hfz23_2⟩ := cz3f BK8.out; obtain ⟨Ao25, co25, eo25⟩ := Kd.R_slice HO39.out; subst eo25) | ((with_reducible refine gate_builtin (b := .append) (xs := #[.tmp 47, .tmp 48]) rfl ?_); at_builtin; refine Kd.R_append_rows (Kd.int .u8) (w0 := wF) wD.heap.size rfl (.tmp 47) (.tmp 48) 22 5 (.int .u8 0) 1 rfl Tryd.underlying22 info5 rfl (by decide) (by omega) (.slice Aou pix.length cou) pix q1 _ _ _ (fun k_ => some k_ ≠ (.slice Ao25 q1.length co25 : Value).ownBlock) (fun _ => False) rfl rfl ?aO ?aR (fun _ _ h => h) (fun _ h => h.elim) ?aF ?aB ?aS ?aL ?_; (case aR => exact (Kd.R_reads' HO39.out).2.2); (case aB => exact Below.refl _ _); (case aF => exact (fun k_ hk => Kd.fresh' (Kd.R_lt HO39.out) k_ hk)); (case aO => exact HO_p.out); (case aS => exact KB.out.1); (case aL => have := LMc19.out; omega); intro v49 wG ho hb hg hat; rw [← Ny540.out] at ho; have n_ := aC (Kd.R_after HO39.out hg hat) (aC ho (aC (blk_grown (g := gb8) BK8.out hg (fun e_ => absurd (Kd.R_base HO_p.out gb8 e_.symm) (Nat.not_le.mpr (Nat.lt_trans LT8.out LTG.out)))) (aC (St.grown ST.out hg (fun k_ e_ => Nat.lt_of_lt_of_le LTG.out (Kd.R_base HO_p.out k_ e_))) (aC (Kb.grown KB.out hg (fun k_ e_ => Kd.R_base HO_p.out k_ e_)) (aE (below_via HB.out hb (Nat.le_trans GW8.out (Nat.le_of_lt (Nat.lt_trans LT8.out LTG.out))))))))); clear HO39 HO_p BK8 ST KB HB ho hb hg hat; obtain ⟨HO39, HO_p, BK8, ST, KB, HB⟩ := n_; obtain ⟨hcz24_0, hcz24_1, hcz24_2, hfz24_0, hfz24_1, hfz24_2⟩ := cz3f BK8.out; obtain ⟨Ao26, co26, eo26⟩ := Kd.R_slice HO_p.out; subst eo26))
          go_roundg k1
          case measure => have := HK1.out; omega
          case rel => exact ⟨q1, (wrap64 (y + 1)), q3, q4, y540, (.slice Ao26 y540.length co26), rq, H', ⟨by have := HK1.out; omega⟩, ⟨(Kd.R_mono (Kd.R_far (p := ⟨gb8, 2, none⟩) (Kd.R_bound HO39.out) (fun k_ h_ => Nat.ne_of_gt (Nat.lt_of_lt_of_le (Nat.lt_trans LT8.out LTG.out) h_.2.1)) (.slice Ao26 y540.length co26)) (fun _ h_ => h_.1.2))⟩, ⟨(Kd.R_mono (Kd.R_far (p := ⟨gb8, 2, none⟩) (Kd.R_bound HO_p.out) (fun k_ h_ => Nat.ne_of_gt (Nat.lt_of_lt_of_le (Nat.lt_trans LT8.out LTG.out) h_.2.1)) (.slice Ao26 y540.length co26)) (fun _ h_ => h_.1))⟩, ⟨by refine blk_put (cs := #[.int .i64 a1, .int .i64 a2, .slice Aou pix.length cou]) ?_ 2 _ rfl; exact BK8.out⟩, ⟨St.off ST.out BK8.out rfl (Nat.ne_of_lt LT8.out)⟩, ⟨Kb.trans KB.out Kb.off⟩, ⟨bl⟩⟩
         ·rw [if_neg c19] at H
          exact absurd H (by simp)
        ·simp only [Option.some.injEq, Prod.mk.injEq] at H
         obtain ⟨rfl, rfl, rfl, rfl, rfl⟩ := H
         go_wp2_with (first | ((with_reducible refine gate_value rfl ?_); refine goesV_ (some 39) rfl rfl Tryd.func31 (by kernel_rfl) rfl #[.pointer (some ⟨gx, 0, none⟩), .int .i64 a1, .slice Ao20 ab.length co20] rfl rfl (by (try simp only [List.map_toArray, List.map_cons, List.map_nil]); first | done | rfl) ?_; (with_reducible refine (runs_reader_one.calls k1 gr l0 p o a1 _ _ ab q1 q2 q3 q4 (cutAt _ gr) _ (St.to ST.out).1 (St.to ST.out).2.1 (Kd.R_reads' HO_14.out).2.2 (Kd.R_reads' HO_14.out).2.1 (fun ad e_ _ => Nat.ne_of_gt (Nat.lt_of_lt_of_le LTG.out (Kd.R_base HO_14.out _ (by rw [e_]; simp [Value.ownBlock])))) gx (XB.out.kb KB.out).old A17.out).mono ?_); rintro e wF ⟨v39, rfl, ho, hi, hb, hk⟩; refine ⟨_, rfl, ?_⟩; have n_ := aC (Kd.R_lower (Kd.R_new' (Kd.R_new' ho (Kd.R_lt HO_14.out)) (Kd.R_lt HO_p.out)) KB.out.1) (aC (Kd.R_mono (Kd.R_step (Kd.R_bound HO_p.out) (fun k_ h_ hl_ => hk.2 k_ hl_ (Nat.ne_of_gt (Nat.lt_of_lt_of_le LTG.out h_.2.1)) (by simp))) (fun k_ h_ => show some k_ ≠ v39.ownBlock from fun e_ => absurd (Kd.R_base ho k_ e_.symm) (Nat.not_le.mpr h_.2.2.1))) (aC (KeepBut.blk hk BK8.out (Nat.ne_of_lt LT8.out) (by simp)) (aC (St.of hi hb (St.to ST.out).2.2) (aC (Kb.trans KB.out (Kb.of_keep hk)) (aE (below_keep HB.out (Nat.le_refl _) hb hk (Nat.le_trans GW8.out (Nat.le_of_lt LT8.out)))))))); clear HO_14 HO_p BK8 ST KB HB ho hi hb hk; obtain ⟨HO39, HO_p, BK8, ST, KB, HB⟩ := n_; obtain ⟨hcz23_0, hcz23_1, hcz23_2, hfz23_0, hfz23_1, hfz23_2⟩ := cz3f BK8.out; obtain ⟨Ao25, co25, eo25⟩ := Kd.R_slice HO39.out; subst eo25))
         refine bodyPost_ret (results_ctt rfl _ _ gb8 24 #[.int .i64 0, .int .i64 0, .slice none 0 0] (0, 0) _ rfl (by (with_reducible repeat (first | refine blk_drewN ?_ _ | refine blk_drew ?_ | refine blk_alloc ?_ _)); refine blk_put (cs := #[.int .i64 0, .int .i64 0, .slice Aou pix.length cou]) ?_ 2 _ rfl; (with_reducible repeat (first | refine blk_drewN ?_ _ | refine blk_drew ?_ | refine blk_alloc ?_ _)); refine blk_put (cs := #[.int .i64 0, .int .i64 a2, .slice Aou pix.length cou]) ?_ 1 _ rfl; (with_reducible repeat (first | refine blk_drewN ?_ _ | refine blk_drew ?_ | refine blk_alloc ?_ _)); refine blk_put (cs := #[.int .i64 a1, .int .i64 a2, .slice Aou pix.length cou]) ?_ 0 _ rfl; exact BK8.out) Tryd.underlying24 rfl (by kernel_rfl)) rfl ?_
         exact ⟨_, re, Kd.R_nil _ _ _ _ _, bl⟩
       ·obtain ⟨⟨q1, q2, q3⟩, A170, H⟩ := Option.bind_eq_some_iff.mp H
        try dsimp only at H
        have A17 := Aside0.mk A170
        clear A170
        simp only [Option.some.injEq, Prod.mk.injEq] at H
        obtain ⟨rfl, rfl, rfl, rfl, rfl⟩ := H
        obtain ⟨hcz30_0, hcz30_1, hcz30_2, hfz30_0, hfz30_1, hfz30_2⟩ := cz3f BK8.out
        go_wp2
        have n_ := aC (blk_drew BK8.out) (aC (show St wr.drew gr l0 p o from St.same ST.out (fun _ _ => rfl)) (aC (show Kb (gb8 + 1) gr wD wr.drew from KB.out) (aC (below_drew1 HB.out) (aC (Kd.R_drew HO_p.out) (aE (show wr.drew.cell? ⟨gx, 0, none⟩ = _ from XB.out.cell0 wr KB.out))))))
        clear BK8 ST KB HB HO_p HO_14
        obtain ⟨BK8, ST, KB, HB, HO_p, HX0⟩ := n_
        refine st 9 (fun w' => w'.cell? ⟨gb8, 0, none⟩ = some (.int .i64 a1) ∧ w'.cell? ⟨gb8, 1, none⟩ = some (.int .i64 a2) ∧ w'.cell? ⟨gb8, 2, none⟩ = some (.slice Aou pix.length cou) ∧ w'.cell? ⟨gx, 0, none⟩ = some (.pointer (some ⟨gr, 0, none⟩))) [6] (bv 9 0) runs_read31.tab14 runs_read31.bits14 ⟨kc0 BK8.out, kc1 BK8.out, kc2 BK8.out, HX0.out⟩ (fun hHeld HT_ HW_ => ?_)
        generalize wr.drew = w12 at BK8 ST KB HB HO_p HX0 hHeld ⊢
        refine tk 0 52 (bv 9 1) HT_ HW_ hHeld rfl rfl (by rintro w' ⟨s0, s1, s2, s3⟩; exact yl) ?_
        refine pu 1 53 (bv 9 3) HT_ rfl rfl ?_
        refine pu 2 54 (bv 9 7) HT_ rfl rfl ?_
        refine pu 3 55 (bv 9 15) HT_ rfl rfl ?_
        refine tk 4 56 (bv 9 31) HT_ HW_ hHeld rfl rfl (by rintro w' ⟨s0, s1, s2, s3⟩; exact yl) ?_
        refine one_ (i := 5) (N := some 57) (bv 9 63) rfl rfl (one_of HT_.out (by kernel_rfl)) (by decide) (fun K hK => ?_)
        refine gK Tryd.func46 rfl #[.pointer (some ⟨gr, 0, none⟩)] rfl rfl ?_
        with_reducible refine (bits_Reader_At.calls gr l0 p o q1 q2 q3 (cutAt w12 gr) _ (St.to ST.out).1 (St.to ST.out).2.1 A17.out).mono ?_
        rintro e w13 ⟨rfl, hi, hb, hk⟩
        refine ⟨_, rfl, ?_⟩
        have n_ := aC (KeepBut.blk hk BK8.out (Nat.ne_of_lt LT8.out) (by simp)) (aC (Kd.R_step (Kd.R_bound HO_p.out) (fun k_ h_ hl_ => hk.2 k_ hl_ (Nat.ne_of_gt (Nat.lt_of_lt_of_le LTG.out h_.2.1)) (by simp))) (aC (XB.out.cell0 _ (Kb.trans KB.out (Kb.of_keep hk))) (aE (below_keep HB.out (Nat.le_refl _) hb hk (Nat.le_trans GW8.out (Nat.le_of_lt LT8.out))))))
        clear BK8 HO_p HB HX0 hi hb hk ST KB
        obtain ⟨BK8, HO_p, HX0, HB⟩ := n_
        refine hK.out _ _ ⟨kc0 BK8.out, kc1 BK8.out, kc2 BK8.out, HX0.out⟩ (fun hHeld => ?_)
        clear hK K
        refine nm (some 57) ?_
        refine last_ (i := 6) (N := none) (bv 9 127) rfl rfl (one_of HT_.out (by kernel_rfl)) (by decide) (fun K hK => ?_)
        refine want_ (by rfl) ?_
        obtain ⟨hcz30_0, hcz30_1, hcz30_2, hfz30_0, hfz30_1, hfz30_2⟩ := cz3f BK8.out
        unfold Oper.wp
        go_simp
        refine hK.out _ _ ?_
        clear hK K
        refine pu 7 9 (bv 9 255) HT_ rfl rfl ?_
        refine pu 8 10 (bv 9 511) HT_ rfl rfl ?_
        refine done_ (done_of HT_.out (by kernel_rfl)) ?_
        go_wp2
        refine bodyPost_ret (results_ctt rfl _ _ gb8 24 #[.int .i64 a1, .int .i64 a2, .slice Aou pix.length cou] (0, 0) _ rfl (by refine blk_put (cs := #[.int .i64 a1, .int .i64 a2, .slice Aou pix.length cou]) ?_ 2 _ rfl; refine blk_put (cs := #[.int .i64 a1, .int .i64 a2, .slice Aou pix.length cou]) ?_ 1 _ rfl; refine blk_put (cs := #[.int .i64 a1, .int .i64 a2, .slice Aou pix.length cou]) ?_ 0 _ rfl; exact BK8.out) Tryd.underlying24 rfl (by kernel_rfl)) rfl ?_
        exact ⟨_, re, Kd.R_lower (Kd.R_mono (Kd.R_far (p := ⟨gb8, 2, none⟩) (Kd.R_far (p := ⟨gb8, 1, none⟩) (Kd.R_far (p := ⟨gb8, 0, none⟩) (Kd.R_bound HO_p.out) (fun k_ h_ => Nat.ne_of_gt (Nat.lt_of_lt_of_le (Nat.lt_trans LT8.out LTG.out) h_.2.1)) _) (fun k_ h_ => Nat.ne_of_gt (Nat.lt_of_lt_of_le (Nat.lt_trans LT8.out LTG.out) h_.2.1)) _) (fun k_ h_ => Nat.ne_of_gt (Nat.lt_of_lt_of_le (Nat.lt_trans LT8.out LTG.out) h_.2.1)) _) (fun _ _ => trivial)) (Nat.le_trans GW8.out (Nat.le_of_lt (Nat.lt_trans LT8.out LTG.out))), bl⟩
    ·rw [if_neg c5] at H
     exact absurd H (by simp)
   ·rw [if_neg c4] at H
    exact absurd H (by simp)
  ·rw [if_neg c3] at H
   exact absurd H (by simp)
 ·rw [if_neg c2] at H
  have c2b0 := beq_eq_false_iff_ne.mpr c2
  have c2b1 := bne_iff_ne.mpr c2
  simp only [Option.some.injEq, Prod.mk.injEq] at H
  obtain ⟨rfl, rfl, rfl, rfl, rfl⟩ := H
  go_enter Tryd.func30, Tryd.ntmps30
  go_wp2_with (first | ((with_reducible refine gd 8 rfl ?_); refine bx 8 #[.int .i64 0, .int .i64 0, .slice none 0 0] 24 rfl rfl ?_; intro gb8 hg wA hbox hb; have n_ := aC (bs hb) (aC hbox (aE (gz hg))); clear HB; obtain ⟨HB, BK8, GW8⟩ := n_; clear hb hbox hg) | (refine gF 44 18 Tryd.func44 #[.int .i64 a1, .int .i64 a2, .int .i64 0] rfl rfl ?_; (with_reducible refine (bitmap_New.calls k a1 a2 0 t1 t2 t3 t4 _ A1.out).mono ?_); rintro e wB ⟨v18, rfl, ho, hb⟩; refine ⟨_, rfl, ?_⟩; have n_ := aC (blk_below (bU BK8.out) hb) (aC ho (aE (bs hb))); clear BK8 HB ho hb; obtain ⟨BK8, HO18, HB⟩ := n_; obtain ⟨Ao18, co18, eo18⟩ := Kd.R_slice HO18.out; subst eo18; clear HO18) | ((with_reducible refine gd 11 rfl ?_); refine bx 11 #[.int .i64 0, .int .i64 0, .slice none 0 0] 24 rfl rfl ?_; intro gb11 hg wC hbox hb; have n_ := aC (blk_below (bU BK8.out) hb) (aC (bs hb) (aC hbox (aC (gz hg) (aC (gn hg (bU BK8.out)) (aE (gm hg (bU BK8.out))))))); clear BK8 HB; obtain ⟨BK8, HB, BK11, GW11, NB8_11, NB11_8⟩ := n_; clear hb hbox hg; have hnb11 := NB11_8.out; have hnc11 := NB8_11.out; obtain ⟨hcz12_0, hcz12_1, hcz12_2, hfz12_0, hfz12_1, hfz12_2⟩ := cz3f BK11.out; have BKo := BK8; obtain ⟨hcz13_0, hcz13_1, hcz13_2, hfz13_0, hfz13_1, hfz13_2⟩ := cz3f BK8.out))
  refine bodyPost_ret (results_ctt rfl _ _ gb8 24 #[.int .i64 0, .int .i64 0, .slice none 0 0] (0, 0) _ rfl (by (with_reducible repeat (first | refine blk_drewN ?_ _ | refine blk_drew ?_ | refine blk_alloc ?_ _)); refine blk_put (cs := #[.int .i64 0, .int .i64 0, .slice none 0 0]) ?_ 2 _ rfl; (with_reducible repeat (first | refine blk_drewN ?_ _ | refine blk_drew ?_ | refine blk_alloc ?_ _)); refine blk_put (cs := #[.int .i64 0, .int .i64 0, .slice none 0 0]) ?_ 1 _ rfl; (with_reducible repeat (first | refine blk_drewN ?_ _ | refine blk_drew ?_ | refine blk_alloc ?_ _)); refine blk_put (cs := #[.int .i64 0, .int .i64 0, .slice none 0 0]) ?_ 0 _ rfl; (repeat refine blk_far ?_ NB8_11.out _); exact BK8.out) Tryd.underlying24 rfl (by kernel_rfl)) rfl ?_
  exact ⟨_, re, Kd.R_nil _ _ _ _ _, bl⟩
def runs_GetOne.f (k : Nat) (l0 : List Int) (a1 a2 : Int) : Option (Int × Int × List Int × Int × Int) := runs_read31.f k l0 a1 a2
theorem runs_GetOne.mono : ∀ a0 a1 a2 k, LeO (runs_GetOne.f k a0 a1 a2) (runs_GetOne.f (k + 1) a0 a1 a2) := runs_read31.mono
set_option maxHeartbeats 8000000 in
set_option maxRecDepth 100000 in
theorem runs_GetOne.calls (k : Nat) (A0 : Option Addr) (c0 : Nat) (l0 : List Int) (a1 : Int) (a2 : Int) (r1 : Int) (r2 : Int) (r3 : List Int) (r4 : Int) (r5 : Int) (w : World) (hr0 : Kd.C (Kd.int .u8) w A0 l0.length l0) (hc0 : l0.length ≤ c0) (h : runs_GetOne.f k l0 a1 a2 = some (r1, r2, r3, r4, r5)) :
  Calls Tryd.prog 13 #[.slice A0 l0.length c0, .int .i64 a1, .int .i64 a2] w fun e w' => ∃ v2_ : Value, e = .returned (.tuple #[.agg #[.int .i64 r1, .int .i64 r2, v2_], .int .i64 r4, .int .i64 r5]) ∧ Kd.R (Kd.int .u8) 5 w' w.heap.size (fun _ => True) v2_ r3 ∧ Below w.heap.size w w' := by
 have hu24 := Tryd.underlying24
 have HR0 := Aside0.mk hr0
 have HC0 := Aside0.mk hc0
 have A1 := Aside0.mk (show runs_read31.f k l0 a1 a2 = some (r1, r2, r3, r4, r5) from h)
 clear hr0 hc0 h
 have HB := Aside0.mk (Below.refl w.heap.size w)
 go_enter Tryd.func13, Tryd.ntmps13
 go_wp2_with (first
  | ((with_reducible refine gd 6 rfl ?_); refine bx 6 #[.int .i64 0, .int .i64 0, .slice none 0 0] 24 rfl rfl ?_; intro gb8 hg wA hbox hb; have n_ := aC (bs hb) (aC hbox (aE (gz hg))); clear HB; obtain ⟨HB, BK8, GW8⟩ := n_; clear hb hbox hg)
  | (refine gF 30 12 Tryd.func30 #[.slice A0 l0.length c0, .int .i64 a1, .int .i64 a2, .func (.func 31) #[] #[]] rfl rfl ?_; (with_reducible refine (runs_read31.calls k A0 c0 l0 a1 a2 r1 r2 r3 r4 r5 _ (Kd.C_below HR0.out bl) HC0.out A1.out).mono ?_); rintro e wB ⟨v18, rfl, ho, hb⟩; refine ⟨_, rfl, ?_⟩; have n_ := aC (blk_below (bU BK8.out) hb) (aC ho (aC (blk_lt BK8.out) (aE (bs hb)))); clear BK8 HB ho hb; obtain ⟨BK8, HO18, LT8, HB⟩ := n_; obtain ⟨Ao18, co18, eo18⟩ := Kd.R_slice HO18.out; subst eo18; obtain ⟨hcz20_0, hcz20_1, hcz20_2, hfz20_0, hfz20_1, hfz20_2⟩ := cz3f BK8.out))
 refine bodyPost_ret (results_ctt rfl _ _ gb8 24 #[.int .i64 r1, .int .i64 r2, .slice Ao18 r3.length co18] (0, 0) _ rfl (by refine blk_put (cs := #[.int .i64 r1, .int .i64 r2, .slice none 0 0]) ?_ 2 _ rfl; refine blk_put (cs := #[.int .i64 r1, .int .i64 0, .slice none 0 0]) ?_ 1 _ rfl; refine blk_put (cs := #[.int .i64 0, .int .i64 0, .slice none 0 0]) ?_ 0 _ rfl; exact BK8.out) Tryd.underlying24 rfl (by kernel_rfl)) rfl ?_
 exact ⟨_, re, Kd.R_lower (Kd.R_mono (Kd.R_far (p := ⟨gb8, 2, none⟩) (Kd.R_far (p := ⟨gb8, 1, none⟩) (Kd.R_far (p := ⟨gb8, 0, none⟩) (Kd.R_bound HO18.out) (fun k_ h_ => Nat.ne_of_gt (Nat.lt_of_lt_of_le LT8.out h_.2.1)) _) (fun k_ h_ => Nat.ne_of_gt (Nat.lt_of_lt_of_le LT8.out h_.2.1)) _) (fun k_ h_ => Nat.ne_of_gt (Nat.lt_of_lt_of_le LT8.out h_.2.1)) _) (fun _ _ => trivial)) (Nat.le_trans GW8.out (Nat.le_of_lt LT8.out)), bl⟩
end Go.Proofs.YtidgpjcgoocpeaaDoor.PTopRuns
