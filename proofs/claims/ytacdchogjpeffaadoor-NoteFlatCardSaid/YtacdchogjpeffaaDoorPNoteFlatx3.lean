-- printed (wip/tools/myprint.py)
import Derived.Test.YtacdchogjpeffaaDoorPNoteFlatx0
import Derived.Test.YtacdchogjpeffaaDoorPNoteFlatx2
namespace Go.Proofs.YtacdchogjpeffaaDoor.PNoteFlat
open Go.RowKit Go.Proofs.YtacdchogjpeffaaDoorW.PrintWords Go.Proofs.YtacdchogjpeffaaDoorW.PrintLast Go.Proofs.YtacdchogjpeffaaDoorW.PrintMore
attribute [local go_sem] max2_int min2_int max_two min_two max_three min_three max_four min_four
set_option linter.unusedVariables false
set_option linter.unusedSimpArgs false
theorem at_T61f {w W : World} {g : Nat} {A : Option Addr} {n : Nat} {xs : List S61} (h : ∀ W_, KeepBut w W_ g none → Kd.C k61 W_ A n xs) (hk : KeepBut w W g none) (i : Int) (h0 : 0 ≤ i) (h1 : i < n) : ∃ ad A2 c2, A = some ad ∧ W.cell? (ad.add (i.toNat * 3)) = some (.string (rd_T61 xs i).f0) ∧ W.cell? ⟨(ad.add (i.toNat * 3)).block, (ad.add (i.toNat * 3)).off + 1, none⟩ = some (.int .i64 (rd_T61 xs i).f1) ∧ W.cell? ⟨(ad.add (i.toNat * 3)).block, (ad.add (i.toNat * 3)).off + 2, none⟩ = some (.slice A2 (rd_T61 xs i).f2.length c2) ∧ (rd_T61 xs i).f2.length ≤ c2 ∧ k61.C W A2 (rd_T61 xs i).f2.length (rd_T61 xs i).f2 ∧ (∀ W_, KeepBut w W_ g none → k61.C W_ A2 (rd_T61 xs i).f2.length (rd_T61 xs i).f2) := by
 obtain ⟨ad, A2, c2, rfl, x0, x1, x2, hl, hi⟩ := at_T61 (h W hk) i h0 h1
 refine ⟨ad, A2, c2, rfl, x0, x1, x2, hl, hi, fun W_ k_ => ?_⟩
 have ne := Kd.foot_ne h (by omega) (show 0 < k61.sz by decide)
 have lt := Kd.foot_lt h (by omega) (show 0 < k61.sz by decide)
 obtain ⟨ad', B2, d2, e', y0, y1, y2, hl', hj⟩ := at_T61 (h W_ k_) i h0 h1
 obtain rfl := Option.some.inj e'
 have e1 := (k_.2 ad.block lt ne (by simp)).trans (hk.2 ad.block lt ne (by simp)).symm
 have e2 : W_.cell? ⟨(ad.add (i.toNat * 3)).block, (ad.add (i.toNat * 3)).off + 2, none⟩ = W.cell? ⟨(ad.add (i.toNat * 3)).block, (ad.add (i.toNat * 3)).off + 2, none⟩ := by
  unfold World.cell?
  rw [add_block, e1]
 rw [e2, x2] at y2
 injection y2 with y
 injection y with z1 z2 z3
 rw [z1]
 exact hj
mutual
def note_looks_outlines.l0 : Nat → Int → List (S61) → Int → Int → Int → Option (Bool × Int)
 | 0, _, _, _, _, _ => none
 | k + 1, x2, x9, x10, x11, x1000 => if x11 < x10 then (if 0 ≤ x11 then (if x11 < (x9.length : Int) then (if (wrap64 (x1000 + 1)) > 400 then (some (false, wrap64 (x1000 + 1))) else (if x2 > 20 then (some (false, wrap64 (x1000 + 1))) else (if (((rd_T61 x9 x11).f0).size : Int) > 200 then (some (false, wrap64 (x1000 + 1))) else (if ((rd_T61 x9 x11).f1) < 1 then (some (false, wrap64 (x1000 + 1))) else (if ((rd_T61 x9 x11).f1) > 1000 then (some (false, wrap64 (x1000 + 1))) else ((note_looks_outlines.f k (wrap64 (x1000 + 1)) ((rd_T61 x9 x11).f2) (wrap64 (x2 + 1))).bind fun bt121 => (if bt121.1 = true then (note_looks_outlines.l0 k x2 x9 x10 (wrap64 (x11 + 1)) bt121.2) else (some (false, bt121.2))))))))) else (none)) else (none)) else (some (true, x1000))
def note_looks_outlines.f : Nat → Int → List (S61) → Int → Option (Bool × Int)
 | 0, _, _, _ => none
 | k + 1, s0_0, l1, a2 => note_looks_outlines.l0 k a2 l1 (l1.length : Int) 0 s0_0
end
theorem note_looks_outlines.mono_l : ∀ k, (∀ y0 y1 y2, LeO (note_looks_outlines.f k y0 y1 y2) (note_looks_outlines.f (k + 1) y0 y1 y2)) ∧ (∀ y0 y1 y2 y3 y4, LeO (note_looks_outlines.l0 k y0 y1 y2 y3 y4) (note_looks_outlines.l0 (k + 1) y0 y1 y2 y3 y4))
 | 0 => ⟨fun _ _ _ r h => by simp [note_looks_outlines.f] at h, fun _ _ _ _ _ r h => by simp [note_looks_outlines.l0] at h⟩
 | k + 1 => by
  obtain ⟨ih0, ih1⟩ := note_looks_outlines.mono_l k
  refine ⟨?_, ?_⟩
  ·intro y0 y1 y2
   unfold note_looks_outlines.f
   repeat' first
   | (with_reducible exact ih0 _ _ _)
   | (with_reducible exact ih1 _ _ _ _ _)
   | (with_reducible first | exact LeO.refl _ | exact LeO.none _ | refine LeO.ite ?_ ?_ | refine LeO.bind ?_ (fun _ => ?_))
  ·intro y0 y1 y2 y3 y4
   unfold note_looks_outlines.l0
   repeat' first
   | (with_reducible exact ih0 _ _ _)
   | (with_reducible exact ih1 _ _ _ _ _)
   | (with_reducible first | exact LeO.refl _ | exact LeO.none _ | refine LeO.ite ?_ ?_ | refine LeO.bind ?_ (fun _ => ?_))
theorem note_looks_outlines.mono : ∀ a0 a1 a2 k, LeO (note_looks_outlines.f k a0 a1 a2) (note_looks_outlines.f (k + 1) a0 a1 a2) := by
 intro a0 a1 a2 k
 obtain ⟨ih0, ih1⟩ := note_looks_outlines.mono_l k
 exact ih0 a0 a1 a2
set_option maxHeartbeats 8000000 in
set_option maxRecDepth 100000 in
theorem note_looks_outlines.calls (k : Nat) : ∀ (g : Nat) (s0_0 : Int) (A1 : Option Addr) (c1 : Nat) (l1 : List (S61)) (a2 : Int) (r1 : Bool) (r2 : Int) (w0 w : World) (hI : IsS73 w0 w g s0_0) (hB : Below w0.heap.size w0 w) (hr1 : ∀ W_, KeepBut w W_ g none → Kd.C k61 W_ A1 l1.length l1) (hc1 : l1.length ≤ c1) (h : note_looks_outlines.f k s0_0 l1 a2 = some (r1, r2)),
  Calls Tryd.prog 52 #[.pointer (some ⟨g, 0, none⟩), .slice A1 l1.length c1, .int .i64 a2] w fun e w' => e = .returned (.bool r1) ∧ IsS73 w0 w' g r2 ∧ Below w0.heap.size w0 w' ∧ KeepBut w w' g none := by
 induction k using Nat.strongRecOn with
 | _ k ih =>
 intro g s0_0 A1 c1 l1 a2 r1 r2 w0 w hI hB hr1 hc1 h
 cases k with
 | zero => exact absurd h (by simp [note_looks_outlines.f])
 | succ k =>
 simp only [note_looks_outlines.f] at h
 have hu61 := Tryd.underlying61
 have HR1 := Aside0.mk hr1
 have HC1 := Aside0.mk hc1
 clear hr1 hc1
 have HI0 := Aside0.mk hI
 have HK := Aside0.mk (KeepBut.refl w g none)
 have HL := Aside0.mk hB.size
 clear hI
 have HW0 := Aside0.mk hB.size
 have HB := Aside0.mk hB
 clear hB
 have H : (note_looks_outlines.l0 k a2 l1 (l1.length : Int) 0 s0_0) = some (r1, r2) := h
 clear h
 have H' := Aside0.mk H
 clear H
 go_enter Tryd.func52, Tryd.ntmps52
 go_wp2
 go_loopg [11] k (fun kq v11 w' => ∃ (x11_1 : Int) (x1000_1 : Int), v11 = .int .i64 x11_1 ∧ Aside0 (note_looks_outlines.l0 kq a2 l1 (l1.length : Int) x11_1 x1000_1 = some (r1, r2)) ∧ Aside0 (kq ≤ k) ∧ Aside0 (IsS73 w0 w' g x1000_1) ∧ Aside0 (KeepBut w w' g none) ∧ Aside0 (Below w0.heap.size w0 w'))
 case atStart => exact ⟨(0), (s0_0), rq, H', ⟨Nat.le_refl _⟩, ⟨by repeat (first | (with_reducible first | exact HI0.out | apply IsS73.alloc | apply IsS73.drewN | apply IsS73.drew | apply IsS73.set_0) | exact HI0.out)⟩, ⟨by repeat (first | (with_reducible first | exact HK.out | apply KeepBut.set_ | apply keep_drewN | apply keep_drew | apply keep_alloc) | exact HK.out)⟩, ⟨by repeat (first | (with_reducible first | exact HB.out | apply below_alloc | apply pw_below_drewN | apply below_drew1 | refine below_set ?_ (IsS73.ge HI0.out)) | exact HB.out)⟩⟩
 case round =>
  clear H'
  try clear c1
  obtain ⟨x11_1, x1000_1, rfl, HA, HK1, HI0, HK, HB⟩ := hrel
  cases gk with
  | zero => exact absurd HA.out (by simp [note_looks_outlines.l0])
  | succ k1 =>
   have H := HA.out
   clear HA
   simp only [note_looks_outlines.l0] at H
   rcases iL H with H1 | H1 <;> clear H <;> obtain ⟨H, c4b0⟩ := H1
   ·by_cases c5 : 0 ≤ x11_1
    ·rw [if_pos c5] at H
     have c5b0 := decide_eq_true c5
     clear c5
     by_cases c6 : x11_1 < (l1.length : Int)
     ·rw [if_pos c6] at H
      have c6b0 := decide_eq_true c6
      clear c6
      rcases iL H with H1 | H1 <;> clear H <;> obtain ⟨H, c7b0⟩ := H1
      ·simp only [Option.some.injEq, Prod.mk.injEq] at H
       obtain ⟨rfl, rfl⟩ := H
       have p119 : 0 ≤ (x11_1 : Int) := dt
       have q119 : x11_1 < (l1.length : Int) := dt
       obtain ⟨ad119, A119_2, c119_2, e119, hx119_0, hx119_1, hx119_2, hl119_2, hi119_2, hf119_2⟩ := at_T61f HR1.out HK.out x11_1 p119 q119
       have HF119_2 := Aside0.mk hf119_2
       clear hf119_2
       cases e119
       have HR119_2 := Aside0.mk hi119_2
       have HC119_2 := Aside0.mk hl119_2
       clear hi119_2 hl119_2
       replace p119 := eq_true p119
       replace q119 := eq_true q119
       go_wp2_with (first | ((with_reducible refine gd 8 rfl ?_); (try (refine gate_guard (by rfl) ?_; dsimp only)); refine bx 8 #[.string (⟨#[]⟩ : ByteArray), .int .i64 0, .slice none 0 0] 61 rfl rfl ?_; intro gb120 hg w8 hbox hb; have n_ := aC (IsS73.below (by repeat (first | (with_reducible first | exact HI0.out | apply IsS73.alloc | apply IsS73.drewN | apply IsS73.drew | apply IsS73.set_0) | exact HI0.out)) hb) (aC (Kd.C_below (by repeat (first | (with_reducible exact HR119_2.out) | (with_reducible refine Kd.C_alloc ?_ _) | (with_reducible refine Kd.C_drewN ?_ _) | (with_reducible refine Kd.C_drew ?_) | exact HR119_2.out)) hb) (aC (KeepBut.trans (by repeat (first | (with_reducible first | exact HK.out | apply KeepBut.set_ | apply keep_drewN | apply keep_drew | apply keep_alloc) | exact HK.out)) (KeepBut.of_below hb g none) (.inl rfl)) (aC (below_step (by repeat (first | (with_reducible first | exact HB.out | apply below_alloc | apply pw_below_drewN | apply below_drew1 | refine below_set ?_ (IsS73.ge HI0.out)) | exact HB.out)) hb) (aC hbox (aC ((by rw [hg]; exact (keep_size (w := w) (g := g) (row := none) (by repeat (first | (with_reducible first | exact HK.out | apply KeepBut.set_ | apply keep_drewN | apply keep_drew | apply keep_alloc) | exact HK.out))) : w.heap.size ≤ gb120)) (aC ((Nat.le_trans HW0.out (by rw [hg]; exact (keep_size (w := w) (g := g) (row := none) (by repeat (first | (with_reducible first | exact HK.out | apply KeepBut.set_ | apply keep_drewN | apply keep_drew | apply keep_alloc) | exact HK.out))) : w.heap.size ≤ gb120) : w0.heap.size ≤ gb120)) (aC ((by rw [hg]; exact Nat.ne_of_lt (IsS73.lt (show IsS73 w0 _ g x1000_1 from by repeat (first | (with_reducible first | exact HI0.out | apply IsS73.alloc | apply IsS73.drewN | apply IsS73.drew | apply IsS73.set_0) | exact HI0.out))) : g ≠ gb120)) (aE ((by rw [hg]; exact Nat.ne_of_gt (IsS73.lt (show IsS73 w0 _ g x1000_1 from by repeat (first | (with_reducible first | exact HI0.out | apply IsS73.alloc | apply IsS73.drewN | apply IsS73.drew | apply IsS73.set_0) | exact HI0.out))) : gb120 ≠ g)))))))))); clear HI0 HR119_2 HK HB; obtain ⟨HI0, HR119_2, HK, HB, BK120, GW120, GE120, NB0_120, NB120_0⟩ := n_; clear hb hbox hg; have hnb9 := NB120_0.out; have hnc9 := NB0_120.out; obtain ⟨hcz10_0, hcz10_1, hcz10_2, hfz10_0, hfz10_1, hfz10_2⟩ := cz3f BK120.out; obtain ⟨HGz11, hgz11⟩ := HI0.out; have hcz11_0 := cellS73_0 HGz11; have hfz11_0 := blk_frozen HGz11 0; clear HGz11 hgz11))
       go_ret
       exact ⟨re, by repeat (first | (with_reducible first | exact HI0.out | apply IsS73.alloc | apply IsS73.drewN | apply IsS73.drew | apply IsS73.set_0 | apply IsS73.farG NB0_120.out) | exact HI0.out), by repeat (first | (with_reducible first | exact HB.out | apply below_alloc | apply pw_below_drewN | apply below_drew1 | refine below_set ?_ (IsS73.ge HI0.out) | refine below_set ?_ GE120.out) | exact HB.out), by repeat (first | (with_reducible first | exact HK.out | apply KeepBut.set_ | apply keep_drewN | apply keep_drew | apply keep_alloc | refine keep_far ?_ GW120.out _) | exact HK.out)⟩
      ·rcases iL H with H1 | H1 <;> clear H <;> obtain ⟨H, c12b0⟩ := H1
       ·simp only [Option.some.injEq, Prod.mk.injEq] at H
        obtain ⟨rfl, rfl⟩ := H
        have p119 : 0 ≤ (x11_1 : Int) := dt
        have q119 : x11_1 < (l1.length : Int) := dt
        obtain ⟨ad119, A119_2, c119_2, e119, hx119_0, hx119_1, hx119_2, hl119_2, hi119_2, hf119_2⟩ := at_T61f HR1.out HK.out x11_1 p119 q119
        have HF119_2 := Aside0.mk hf119_2
        clear hf119_2
        cases e119
        have HR119_2 := Aside0.mk hi119_2
        have HC119_2 := Aside0.mk hl119_2
        clear hi119_2 hl119_2
        replace p119 := eq_true p119
        replace q119 := eq_true q119
        go_wp2_with (first | ((with_reducible refine gd 8 rfl ?_); (try (refine gate_guard (by rfl) ?_; dsimp only)); refine bx 8 #[.string (⟨#[]⟩ : ByteArray), .int .i64 0, .slice none 0 0] 61 rfl rfl ?_; intro gb120 hg w13 hbox hb; have n_ := aC (IsS73.below (by repeat (first | (with_reducible first | exact HI0.out | apply IsS73.alloc | apply IsS73.drewN | apply IsS73.drew | apply IsS73.set_0) | exact HI0.out)) hb) (aC (Kd.C_below (by repeat (first | (with_reducible exact HR119_2.out) | (with_reducible refine Kd.C_alloc ?_ _) | (with_reducible refine Kd.C_drewN ?_ _) | (with_reducible refine Kd.C_drew ?_) | exact HR119_2.out)) hb) (aC (KeepBut.trans (by repeat (first | (with_reducible first | exact HK.out | apply KeepBut.set_ | apply keep_drewN | apply keep_drew | apply keep_alloc) | exact HK.out)) (KeepBut.of_below hb g none) (.inl rfl)) (aC (below_step (by repeat (first | (with_reducible first | exact HB.out | apply below_alloc | apply pw_below_drewN | apply below_drew1 | refine below_set ?_ (IsS73.ge HI0.out)) | exact HB.out)) hb) (aC hbox (aC ((by rw [hg]; exact (keep_size (w := w) (g := g) (row := none) (by repeat (first | (with_reducible first | exact HK.out | apply KeepBut.set_ | apply keep_drewN | apply keep_drew | apply keep_alloc) | exact HK.out))) : w.heap.size ≤ gb120)) (aC ((Nat.le_trans HW0.out (by rw [hg]; exact (keep_size (w := w) (g := g) (row := none) (by repeat (first | (with_reducible first | exact HK.out | apply KeepBut.set_ | apply keep_drewN | apply keep_drew | apply keep_alloc) | exact HK.out))) : w.heap.size ≤ gb120) : w0.heap.size ≤ gb120)) (aC ((by rw [hg]; exact Nat.ne_of_lt (IsS73.lt (show IsS73 w0 _ g x1000_1 from by repeat (first | (with_reducible first | exact HI0.out | apply IsS73.alloc | apply IsS73.drewN | apply IsS73.drew | apply IsS73.set_0) | exact HI0.out))) : g ≠ gb120)) (aE ((by rw [hg]; exact Nat.ne_of_gt (IsS73.lt (show IsS73 w0 _ g x1000_1 from by repeat (first | (with_reducible first | exact HI0.out | apply IsS73.alloc | apply IsS73.drewN | apply IsS73.drew | apply IsS73.set_0) | exact HI0.out))) : gb120 ≠ g)))))))))); clear HI0 HR119_2 HK HB; obtain ⟨HI0, HR119_2, HK, HB, BK120, GW120, GE120, NB0_120, NB120_0⟩ := n_; clear hb hbox hg; have hnb14 := NB120_0.out; have hnc14 := NB0_120.out; obtain ⟨hcz15_0, hcz15_1, hcz15_2, hfz15_0, hfz15_1, hfz15_2⟩ := cz3f BK120.out; obtain ⟨HGz16, hgz16⟩ := HI0.out; have hcz16_0 := cellS73_0 HGz16; have hfz16_0 := blk_frozen HGz16 0; clear HGz16 hgz16))
        go_ret
        exact ⟨re, by repeat (first | (with_reducible first | exact HI0.out | apply IsS73.alloc | apply IsS73.drewN | apply IsS73.drew | apply IsS73.set_0 | apply IsS73.farG NB0_120.out) | exact HI0.out), by repeat (first | (with_reducible first | exact HB.out | apply below_alloc | apply pw_below_drewN | apply below_drew1 | refine below_set ?_ (IsS73.ge HI0.out) | refine below_set ?_ GE120.out) | exact HB.out), by repeat (first | (with_reducible first | exact HK.out | apply KeepBut.set_ | apply keep_drewN | apply keep_drew | apply keep_alloc | refine keep_far ?_ GW120.out _) | exact HK.out)⟩
       ·by_cases c17 : (((rd_T61 l1 x11_1).f0).size : Int) > 200
        ·rw [if_pos c17] at H
         have c17b0 := decide_eq_true c17
         have c17b1 : decide (200 < ((rd_T61 l1 x11_1).f0).size) = true := decide_eq_true (by omega)
         clear c17
         simp only [Option.some.injEq, Prod.mk.injEq] at H
         obtain ⟨rfl, rfl⟩ := H
         have p119 : 0 ≤ (x11_1 : Int) := dt
         have q119 : x11_1 < (l1.length : Int) := dt
         obtain ⟨ad119, A119_2, c119_2, e119, hx119_0, hx119_1, hx119_2, hl119_2, hi119_2, hf119_2⟩ := at_T61f HR1.out HK.out x11_1 p119 q119
         have HF119_2 := Aside0.mk hf119_2
         clear hf119_2
         cases e119
         have HR119_2 := Aside0.mk hi119_2
         have HC119_2 := Aside0.mk hl119_2
         clear hi119_2 hl119_2
         replace p119 := eq_true p119
         replace q119 := eq_true q119
         go_wp2_with (first | ((with_reducible refine gd 8 rfl ?_); (try (refine gate_guard (by rfl) ?_; dsimp only)); refine bx 8 #[.string (⟨#[]⟩ : ByteArray), .int .i64 0, .slice none 0 0] 61 rfl rfl ?_; intro gb120 hg w18 hbox hb; have n_ := aC (IsS73.below (by repeat (first | (with_reducible first | exact HI0.out | apply IsS73.alloc | apply IsS73.drewN | apply IsS73.drew | apply IsS73.set_0) | exact HI0.out)) hb) (aC (Kd.C_below (by repeat (first | (with_reducible exact HR119_2.out) | (with_reducible refine Kd.C_alloc ?_ _) | (with_reducible refine Kd.C_drewN ?_ _) | (with_reducible refine Kd.C_drew ?_) | exact HR119_2.out)) hb) (aC (KeepBut.trans (by repeat (first | (with_reducible first | exact HK.out | apply KeepBut.set_ | apply keep_drewN | apply keep_drew | apply keep_alloc) | exact HK.out)) (KeepBut.of_below hb g none) (.inl rfl)) (aC (below_step (by repeat (first | (with_reducible first | exact HB.out | apply below_alloc | apply pw_below_drewN | apply below_drew1 | refine below_set ?_ (IsS73.ge HI0.out)) | exact HB.out)) hb) (aC hbox (aC ((by rw [hg]; exact (keep_size (w := w) (g := g) (row := none) (by repeat (first | (with_reducible first | exact HK.out | apply KeepBut.set_ | apply keep_drewN | apply keep_drew | apply keep_alloc) | exact HK.out))) : w.heap.size ≤ gb120)) (aC ((Nat.le_trans HW0.out (by rw [hg]; exact (keep_size (w := w) (g := g) (row := none) (by repeat (first | (with_reducible first | exact HK.out | apply KeepBut.set_ | apply keep_drewN | apply keep_drew | apply keep_alloc) | exact HK.out))) : w.heap.size ≤ gb120) : w0.heap.size ≤ gb120)) (aC ((by rw [hg]; exact Nat.ne_of_lt (IsS73.lt (show IsS73 w0 _ g x1000_1 from by repeat (first | (with_reducible first | exact HI0.out | apply IsS73.alloc | apply IsS73.drewN | apply IsS73.drew | apply IsS73.set_0) | exact HI0.out))) : g ≠ gb120)) (aE ((by rw [hg]; exact Nat.ne_of_gt (IsS73.lt (show IsS73 w0 _ g x1000_1 from by repeat (first | (with_reducible first | exact HI0.out | apply IsS73.alloc | apply IsS73.drewN | apply IsS73.drew | apply IsS73.set_0) | exact HI0.out))) : gb120 ≠ g)))))))))); clear HI0 HR119_2 HK HB; obtain ⟨HI0, HR119_2, HK, HB, BK120, GW120, GE120, NB0_120, NB120_0⟩ := n_; clear hb hbox hg; have hnb19 := NB120_0.out; have hnc19 := NB0_120.out; obtain ⟨hcz20_0, hcz20_1, hcz20_2, hfz20_0, hfz20_1, hfz20_2⟩ := cz3f BK120.out; obtain ⟨HGz21, hgz21⟩ := HI0.out; have hcz21_0 := cellS73_0 HGz21; have hfz21_0 := blk_frozen HGz21 0; clear HGz21 hgz21))
         go_ret
         exact ⟨re, by repeat (first | (with_reducible first | exact HI0.out | apply IsS73.alloc | apply IsS73.drewN | apply IsS73.drew | apply IsS73.set_0 | apply IsS73.farG NB0_120.out) | exact HI0.out), by repeat (first | (with_reducible first | exact HB.out | apply below_alloc | apply pw_below_drewN | apply below_drew1 | refine below_set ?_ (IsS73.ge HI0.out) | refine below_set ?_ GE120.out) | exact HB.out), by repeat (first | (with_reducible first | exact HK.out | apply KeepBut.set_ | apply keep_drewN | apply keep_drew | apply keep_alloc | refine keep_far ?_ GW120.out _) | exact HK.out)⟩
        ·rw [if_neg c17] at H
         have c17b0 := decide_eq_false c17
         have c17b1 : decide (200 < ((rd_T61 l1 x11_1).f0).size) = false := decide_eq_false (by omega)
         clear c17
         rcases iL H with H1 | H1 <;> clear H <;> obtain ⟨H, c22b0⟩ := H1
         ·simp only [Option.some.injEq, Prod.mk.injEq] at H
          obtain ⟨rfl, rfl⟩ := H
          have p119 : 0 ≤ (x11_1 : Int) := dt
          have q119 : x11_1 < (l1.length : Int) := dt
          obtain ⟨ad119, A119_2, c119_2, e119, hx119_0, hx119_1, hx119_2, hl119_2, hi119_2, hf119_2⟩ := at_T61f HR1.out HK.out x11_1 p119 q119
          have HF119_2 := Aside0.mk hf119_2
          clear hf119_2
          cases e119
          have HR119_2 := Aside0.mk hi119_2
          have HC119_2 := Aside0.mk hl119_2
          clear hi119_2 hl119_2
          replace p119 := eq_true p119
          replace q119 := eq_true q119
          go_wp2_with (first | ((with_reducible refine gd 8 rfl ?_); (try (refine gate_guard (by rfl) ?_; dsimp only)); refine bx 8 #[.string (⟨#[]⟩ : ByteArray), .int .i64 0, .slice none 0 0] 61 rfl rfl ?_; intro gb120 hg w23 hbox hb; have n_ := aC (IsS73.below (by repeat (first | (with_reducible first | exact HI0.out | apply IsS73.alloc | apply IsS73.drewN | apply IsS73.drew | apply IsS73.set_0) | exact HI0.out)) hb) (aC (Kd.C_below (by repeat (first | (with_reducible exact HR119_2.out) | (with_reducible refine Kd.C_alloc ?_ _) | (with_reducible refine Kd.C_drewN ?_ _) | (with_reducible refine Kd.C_drew ?_) | exact HR119_2.out)) hb) (aC (KeepBut.trans (by repeat (first | (with_reducible first | exact HK.out | apply KeepBut.set_ | apply keep_drewN | apply keep_drew | apply keep_alloc) | exact HK.out)) (KeepBut.of_below hb g none) (.inl rfl)) (aC (below_step (by repeat (first | (with_reducible first | exact HB.out | apply below_alloc | apply pw_below_drewN | apply below_drew1 | refine below_set ?_ (IsS73.ge HI0.out)) | exact HB.out)) hb) (aC hbox (aC ((by rw [hg]; exact (keep_size (w := w) (g := g) (row := none) (by repeat (first | (with_reducible first | exact HK.out | apply KeepBut.set_ | apply keep_drewN | apply keep_drew | apply keep_alloc) | exact HK.out))) : w.heap.size ≤ gb120)) (aC ((Nat.le_trans HW0.out (by rw [hg]; exact (keep_size (w := w) (g := g) (row := none) (by repeat (first | (with_reducible first | exact HK.out | apply KeepBut.set_ | apply keep_drewN | apply keep_drew | apply keep_alloc) | exact HK.out))) : w.heap.size ≤ gb120) : w0.heap.size ≤ gb120)) (aC ((by rw [hg]; exact Nat.ne_of_lt (IsS73.lt (show IsS73 w0 _ g x1000_1 from by repeat (first | (with_reducible first | exact HI0.out | apply IsS73.alloc | apply IsS73.drewN | apply IsS73.drew | apply IsS73.set_0) | exact HI0.out))) : g ≠ gb120)) (aE ((by rw [hg]; exact Nat.ne_of_gt (IsS73.lt (show IsS73 w0 _ g x1000_1 from by repeat (first | (with_reducible first | exact HI0.out | apply IsS73.alloc | apply IsS73.drewN | apply IsS73.drew | apply IsS73.set_0) | exact HI0.out))) : gb120 ≠ g)))))))))); clear HI0 HR119_2 HK HB; obtain ⟨HI0, HR119_2, HK, HB, BK120, GW120, GE120, NB0_120, NB120_0⟩ := n_; clear hb hbox hg; have hnb24 := NB120_0.out; have hnc24 := NB0_120.out; obtain ⟨hcz25_0, hcz25_1, hcz25_2, hfz25_0, hfz25_1, hfz25_2⟩ := cz3f BK120.out; obtain ⟨HGz26, hgz26⟩ := HI0.out; have hcz26_0 := cellS73_0 HGz26; have hfz26_0 := blk_frozen HGz26 0; clear HGz26 hgz26))
          go_ret
          exact ⟨re, by repeat (first | (with_reducible first | exact HI0.out | apply IsS73.alloc | apply IsS73.drewN | apply IsS73.drew | apply IsS73.set_0 | apply IsS73.farG NB0_120.out) | exact HI0.out), by repeat (first | (with_reducible first | exact HB.out | apply below_alloc | apply pw_below_drewN | apply below_drew1 | refine below_set ?_ (IsS73.ge HI0.out) | refine below_set ?_ GE120.out) | exact HB.out), by repeat (first | (with_reducible first | exact HK.out | apply KeepBut.set_ | apply keep_drewN | apply keep_drew | apply keep_alloc | refine keep_far ?_ GW120.out _) | exact HK.out)⟩
         ·rcases iL H with H1 | H1 <;> clear H <;> obtain ⟨H, c27b0⟩ := H1
          ·simp only [Option.some.injEq, Prod.mk.injEq] at H
           obtain ⟨rfl, rfl⟩ := H
           have p119 : 0 ≤ (x11_1 : Int) := dt
           have q119 : x11_1 < (l1.length : Int) := dt
           obtain ⟨ad119, A119_2, c119_2, e119, hx119_0, hx119_1, hx119_2, hl119_2, hi119_2, hf119_2⟩ := at_T61f HR1.out HK.out x11_1 p119 q119
           have HF119_2 := Aside0.mk hf119_2
           clear hf119_2
           cases e119
           have HR119_2 := Aside0.mk hi119_2
           have HC119_2 := Aside0.mk hl119_2
           clear hi119_2 hl119_2
           replace p119 := eq_true p119
           replace q119 := eq_true q119
           go_wp2_with (first | ((with_reducible refine gd 8 rfl ?_); (try (refine gate_guard (by rfl) ?_; dsimp only)); refine bx 8 #[.string (⟨#[]⟩ : ByteArray), .int .i64 0, .slice none 0 0] 61 rfl rfl ?_; intro gb120 hg w28 hbox hb; have n_ := aC (IsS73.below (by repeat (first | (with_reducible first | exact HI0.out | apply IsS73.alloc | apply IsS73.drewN | apply IsS73.drew | apply IsS73.set_0) | exact HI0.out)) hb) (aC (Kd.C_below (by repeat (first | (with_reducible exact HR119_2.out) | (with_reducible refine Kd.C_alloc ?_ _) | (with_reducible refine Kd.C_drewN ?_ _) | (with_reducible refine Kd.C_drew ?_) | exact HR119_2.out)) hb) (aC (KeepBut.trans (by repeat (first | (with_reducible first | exact HK.out | apply KeepBut.set_ | apply keep_drewN | apply keep_drew | apply keep_alloc) | exact HK.out)) (KeepBut.of_below hb g none) (.inl rfl)) (aC (below_step (by repeat (first | (with_reducible first | exact HB.out | apply below_alloc | apply pw_below_drewN | apply below_drew1 | refine below_set ?_ (IsS73.ge HI0.out)) | exact HB.out)) hb) (aC hbox (aC ((by rw [hg]; exact (keep_size (w := w) (g := g) (row := none) (by repeat (first | (with_reducible first | exact HK.out | apply KeepBut.set_ | apply keep_drewN | apply keep_drew | apply keep_alloc) | exact HK.out))) : w.heap.size ≤ gb120)) (aC ((Nat.le_trans HW0.out (by rw [hg]; exact (keep_size (w := w) (g := g) (row := none) (by repeat (first | (with_reducible first | exact HK.out | apply KeepBut.set_ | apply keep_drewN | apply keep_drew | apply keep_alloc) | exact HK.out))) : w.heap.size ≤ gb120) : w0.heap.size ≤ gb120)) (aC ((by rw [hg]; exact Nat.ne_of_lt (IsS73.lt (show IsS73 w0 _ g x1000_1 from by repeat (first | (with_reducible first | exact HI0.out | apply IsS73.alloc | apply IsS73.drewN | apply IsS73.drew | apply IsS73.set_0) | exact HI0.out))) : g ≠ gb120)) (aE ((by rw [hg]; exact Nat.ne_of_gt (IsS73.lt (show IsS73 w0 _ g x1000_1 from by repeat (first | (with_reducible first | exact HI0.out | apply IsS73.alloc | apply IsS73.drewN | apply IsS73.drew | apply IsS73.set_0) | exact HI0.out))) : gb120 ≠ g)))))))))); clear HI0 HR119_2 HK HB; obtain ⟨HI0, HR119_2, HK, HB, BK120, GW120, GE120, NB0_120, NB120_0⟩ := n_; clear hb hbox hg; have hnb29 := NB120_0.out; have hnc29 := NB0_120.out; obtain ⟨hcz30_0, hcz30_1, hcz30_2, hfz30_0, hfz30_1, hfz30_2⟩ := cz3f BK120.out; obtain ⟨HGz31, hgz31⟩ := HI0.out; have hcz31_0 := cellS73_0 HGz31; have hfz31_0 := blk_frozen HGz31 0; clear HGz31 hgz31))
           go_ret
           exact ⟨re, by repeat (first | (with_reducible first | exact HI0.out | apply IsS73.alloc | apply IsS73.drewN | apply IsS73.drew | apply IsS73.set_0 | apply IsS73.farG NB0_120.out) | exact HI0.out), by repeat (first | (with_reducible first | exact HB.out | apply below_alloc | apply pw_below_drewN | apply below_drew1 | refine below_set ?_ (IsS73.ge HI0.out) | refine below_set ?_ GE120.out) | exact HB.out), by repeat (first | (with_reducible first | exact HK.out | apply KeepBut.set_ | apply keep_drewN | apply keep_drew | apply keep_alloc | refine keep_far ?_ GW120.out _) | exact HK.out)⟩
          ·obtain ⟨⟨t121, t122⟩, A32, H⟩ := oB H
           try dsimp only at H
           by_cases c33 : t121 = true
           ·subst c33
            rw [if_pos rfl] at H
            have H' := Aside0.mk H
            clear H
            have p119 : 0 ≤ (x11_1 : Int) := dt
            have q119 : x11_1 < (l1.length : Int) := dt
            obtain ⟨ad119, A119_2, c119_2, e119, hx119_0, hx119_1, hx119_2, hl119_2, hi119_2, hf119_2⟩ := at_T61f HR1.out HK.out x11_1 p119 q119
            have HF119_2 := Aside0.mk hf119_2
            clear hf119_2
            cases e119
            have HR119_2 := Aside0.mk hi119_2
            have HC119_2 := Aside0.mk hl119_2
            clear hi119_2 hl119_2
            replace p119 := eq_true p119
            replace q119 := eq_true q119
            go_wp2_with (first | ((with_reducible refine gd 8 rfl ?_); (try (refine gate_guard (by rfl) ?_; dsimp only)); refine bx 8 #[.string (⟨#[]⟩ : ByteArray), .int .i64 0, .slice none 0 0] 61 rfl rfl ?_; intro gb120 hg w34 hbox hb; have n_ := aC (IsS73.below (by repeat (first | (with_reducible first | exact HI0.out | apply IsS73.alloc | apply IsS73.drewN | apply IsS73.drew | apply IsS73.set_0) | exact HI0.out)) hb) (aC (Kd.C_below (by repeat (first | (with_reducible exact HR119_2.out) | (with_reducible refine Kd.C_alloc ?_ _) | (with_reducible refine Kd.C_drewN ?_ _) | (with_reducible refine Kd.C_drew ?_) | exact HR119_2.out)) hb) (aC (KeepBut.trans (by repeat (first | (with_reducible first | exact HK.out | apply KeepBut.set_ | apply keep_drewN | apply keep_drew | apply keep_alloc) | exact HK.out)) (KeepBut.of_below hb g none) (.inl rfl)) (aC (below_step (by repeat (first | (with_reducible first | exact HB.out | apply below_alloc | apply pw_below_drewN | apply below_drew1 | refine below_set ?_ (IsS73.ge HI0.out)) | exact HB.out)) hb) (aC hbox (aC ((by rw [hg]; exact (keep_size (w := w) (g := g) (row := none) (by repeat (first | (with_reducible first | exact HK.out | apply KeepBut.set_ | apply keep_drewN | apply keep_drew | apply keep_alloc) | exact HK.out))) : w.heap.size ≤ gb120)) (aC ((Nat.le_trans HW0.out (by rw [hg]; exact (keep_size (w := w) (g := g) (row := none) (by repeat (first | (with_reducible first | exact HK.out | apply KeepBut.set_ | apply keep_drewN | apply keep_drew | apply keep_alloc) | exact HK.out))) : w.heap.size ≤ gb120) : w0.heap.size ≤ gb120)) (aC ((by rw [hg]; exact Nat.ne_of_lt (IsS73.lt (show IsS73 w0 _ g x1000_1 from by repeat (first | (with_reducible first | exact HI0.out | apply IsS73.alloc | apply IsS73.drewN | apply IsS73.drew | apply IsS73.set_0) | exact HI0.out))) : g ≠ gb120)) (aE ((by rw [hg]; exact Nat.ne_of_gt (IsS73.lt (show IsS73 w0 _ g x1000_1 from by repeat (first | (with_reducible first | exact HI0.out | apply IsS73.alloc | apply IsS73.drewN | apply IsS73.drew | apply IsS73.set_0) | exact HI0.out))) : gb120 ≠ g)))))))))); clear HI0 HR119_2 HK HB; obtain ⟨HI0, HR119_2, HK, HB, BK120, GW120, GE120, NB0_120, NB120_0⟩ := n_; clear hb hbox hg; have hnb35 := NB120_0.out; have hnc35 := NB0_120.out; obtain ⟨hcz36_0, hcz36_1, hcz36_2, hfz36_0, hfz36_1, hfz36_2⟩ := cz3f BK120.out; obtain ⟨HGz37, hgz37⟩ := HI0.out; have hcz37_0 := cellS73_0 HGz37; have hfz37_0 := blk_frozen HGz37 0; clear HGz37 hgz37) | (go_at_call 52; (with_reducible refine (ih k1 (by have := HK1.out; omega) g (wrap64 (x1000_1 + 1)) _ _ ((rd_T61 l1 x11_1).f2) (wrap64 (a2 + 1)) true t122 w0 _ ?side1 ?side2 ?side3 ?side4 A32.out).mono ?_); (case side1 => repeat (first | (with_reducible first | exact HI0.out | apply IsS73.alloc | apply IsS73.drewN | apply IsS73.drew | apply IsS73.set_0 | apply IsS73.farG NB0_120.out) | exact HI0.out)); (case side2 => repeat (first | (with_reducible first | exact HB.out | apply below_alloc | apply pw_below_drewN | apply below_drew1 | refine below_set ?_ (IsS73.ge HI0.out) | refine below_set ?_ GE120.out) | exact HB.out)); (case side3 => exact Kd.C_foot_step HF119_2.out (by repeat (first | (with_reducible first | exact HK.out | apply KeepBut.set_ | apply keep_drewN | apply keep_drew | apply keep_alloc | refine keep_far ?_ GW120.out _) | exact HK.out))); (case side4 => exact HC119_2.out); rintro e w38 ⟨rfl, hi, hb, hk⟩; have n_ := aC (KeepBut.blk hk (g' := gb120) (o := .cells #[.string ((rd_T61 l1 x11_1).f0), .int .i64 ((rd_T61 l1 x11_1).f1), .slice A119_2 ((rd_T61 l1 x11_1).f2).length c119_2] 61 (0, 0)) (by (with_reducible repeat (first | refine blk_drewN ?_ _ | refine blk_drew ?_ | refine blk_alloc ?_ _)); refine blk_far ?_ NB120_0.out _; (with_reducible repeat (first | refine blk_drewN ?_ _ | refine blk_drew ?_ | refine blk_alloc ?_ _)); refine blk_put (cs := #[.string ((rd_T61 l1 x11_1).f0), .int .i64 ((rd_T61 l1 x11_1).f1), .slice none 0 0]) ?_ 2 _ rfl; (with_reducible repeat (first | refine blk_drewN ?_ _ | refine blk_drew ?_ | refine blk_alloc ?_ _)); refine blk_put (cs := #[.string ((rd_T61 l1 x11_1).f0), .int .i64 0, .slice none 0 0]) ?_ 1 _ rfl; (with_reducible repeat (first | refine blk_drewN ?_ _ | refine blk_drew ?_ | refine blk_alloc ?_ _)); refine blk_put (cs := #[.string (⟨#[]⟩ : ByteArray), .int .i64 0, .slice none 0 0]) ?_ 0 _ rfl; (with_reducible repeat (first | refine blk_drewN ?_ _ | refine blk_drew ?_ | refine blk_alloc ?_ _)); exact BK120.out) NB120_0.out (by simp)) (aC (KeepBut.trans (by repeat (first | (with_reducible first | exact HK.out | apply KeepBut.set_ | apply keep_drewN | apply keep_drew | apply keep_alloc | refine keep_far ?_ GW120.out _) | exact HK.out)) hk (.inl rfl)) (aC hb (aE hi))); clear BK120 HK HB HI0; obtain ⟨BK120, HK, HB, HI0⟩ := n_))
            go_roundg k1
            case measure => have := HK1.out; omega
            case rel => exact ⟨(wrap64 (x11_1 + 1)), (t122), rq, H', ⟨by have := HK1.out; omega⟩, ⟨by repeat (first | (with_reducible first | exact HI0.out | apply IsS73.alloc | apply IsS73.drewN | apply IsS73.drew | apply IsS73.set_0 | apply IsS73.farG NB0_120.out) | exact HI0.out)⟩, ⟨by repeat (first | (with_reducible first | exact HK.out | apply KeepBut.set_ | apply keep_drewN | apply keep_drew | apply keep_alloc | refine keep_far ?_ GW120.out _) | exact HK.out)⟩, ⟨by repeat (first | (with_reducible first | exact HB.out | apply below_alloc | apply pw_below_drewN | apply below_drew1 | refine below_set ?_ (IsS73.ge HI0.out) | refine below_set ?_ GE120.out) | exact HB.out)⟩⟩
           ·replace c33 := Bool.eq_false_iff.mpr c33
            subst c33
            rw [if_neg Bool.false_ne_true] at H
            simp only [Option.some.injEq, Prod.mk.injEq] at H
            obtain ⟨rfl, rfl⟩ := H
            have p119 : 0 ≤ (x11_1 : Int) := dt
            have q119 : x11_1 < (l1.length : Int) := dt
            obtain ⟨ad119, A119_2, c119_2, e119, hx119_0, hx119_1, hx119_2, hl119_2, hi119_2, hf119_2⟩ := at_T61f HR1.out HK.out x11_1 p119 q119
            have HF119_2 := Aside0.mk hf119_2
            clear hf119_2
            cases e119
            have HR119_2 := Aside0.mk hi119_2
            have HC119_2 := Aside0.mk hl119_2
            clear hi119_2 hl119_2
            replace p119 := eq_true p119
            replace q119 := eq_true q119
            go_wp2_with (first | ((with_reducible refine gd 8 rfl ?_); (try (refine gate_guard (by rfl) ?_; dsimp only)); refine bx 8 #[.string (⟨#[]⟩ : ByteArray), .int .i64 0, .slice none 0 0] 61 rfl rfl ?_; intro gb120 hg w39 hbox hb; have n_ := aC (IsS73.below (by repeat (first | (with_reducible first | exact HI0.out | apply IsS73.alloc | apply IsS73.drewN | apply IsS73.drew | apply IsS73.set_0) | exact HI0.out)) hb) (aC (Kd.C_below (by repeat (first | (with_reducible exact HR119_2.out) | (with_reducible refine Kd.C_alloc ?_ _) | (with_reducible refine Kd.C_drewN ?_ _) | (with_reducible refine Kd.C_drew ?_) | exact HR119_2.out)) hb) (aC (KeepBut.trans (by repeat (first | (with_reducible first | exact HK.out | apply KeepBut.set_ | apply keep_drewN | apply keep_drew | apply keep_alloc) | exact HK.out)) (KeepBut.of_below hb g none) (.inl rfl)) (aC (below_step (by repeat (first | (with_reducible first | exact HB.out | apply below_alloc | apply pw_below_drewN | apply below_drew1 | refine below_set ?_ (IsS73.ge HI0.out)) | exact HB.out)) hb) (aC hbox (aC ((by rw [hg]; exact (keep_size (w := w) (g := g) (row := none) (by repeat (first | (with_reducible first | exact HK.out | apply KeepBut.set_ | apply keep_drewN | apply keep_drew | apply keep_alloc) | exact HK.out))) : w.heap.size ≤ gb120)) (aC ((Nat.le_trans HW0.out (by rw [hg]; exact (keep_size (w := w) (g := g) (row := none) (by repeat (first | (with_reducible first | exact HK.out | apply KeepBut.set_ | apply keep_drewN | apply keep_drew | apply keep_alloc) | exact HK.out))) : w.heap.size ≤ gb120) : w0.heap.size ≤ gb120)) (aC ((by rw [hg]; exact Nat.ne_of_lt (IsS73.lt (show IsS73 w0 _ g x1000_1 from by repeat (first | (with_reducible first | exact HI0.out | apply IsS73.alloc | apply IsS73.drewN | apply IsS73.drew | apply IsS73.set_0) | exact HI0.out))) : g ≠ gb120)) (aE ((by rw [hg]; exact Nat.ne_of_gt (IsS73.lt (show IsS73 w0 _ g x1000_1 from by repeat (first | (with_reducible first | exact HI0.out | apply IsS73.alloc | apply IsS73.drewN | apply IsS73.drew | apply IsS73.set_0) | exact HI0.out))) : gb120 ≠ g)))))))))); clear HI0 HR119_2 HK HB; obtain ⟨HI0, HR119_2, HK, HB, BK120, GW120, GE120, NB0_120, NB120_0⟩ := n_; clear hb hbox hg; have hnb40 := NB120_0.out; have hnc40 := NB0_120.out; obtain ⟨hcz41_0, hcz41_1, hcz41_2, hfz41_0, hfz41_1, hfz41_2⟩ := cz3f BK120.out; obtain ⟨HGz42, hgz42⟩ := HI0.out; have hcz42_0 := cellS73_0 HGz42; have hfz42_0 := blk_frozen HGz42 0; clear HGz42 hgz42) | (go_at_call 52; (with_reducible refine (ih k1 (by have := HK1.out; omega) g (wrap64 (x1000_1 + 1)) _ _ ((rd_T61 l1 x11_1).f2) (wrap64 (a2 + 1)) false t122 w0 _ ?side1 ?side2 ?side3 ?side4 A32.out).mono ?_); (case side1 => repeat (first | (with_reducible first | exact HI0.out | apply IsS73.alloc | apply IsS73.drewN | apply IsS73.drew | apply IsS73.set_0 | apply IsS73.farG NB0_120.out) | exact HI0.out)); (case side2 => repeat (first | (with_reducible first | exact HB.out | apply below_alloc | apply pw_below_drewN | apply below_drew1 | refine below_set ?_ (IsS73.ge HI0.out) | refine below_set ?_ GE120.out) | exact HB.out)); (case side3 => exact Kd.C_foot_step HF119_2.out (by repeat (first | (with_reducible first | exact HK.out | apply KeepBut.set_ | apply keep_drewN | apply keep_drew | apply keep_alloc | refine keep_far ?_ GW120.out _) | exact HK.out))); (case side4 => exact HC119_2.out); rintro e w43 ⟨rfl, hi, hb, hk⟩; have n_ := aC (KeepBut.blk hk (g' := gb120) (o := .cells #[.string ((rd_T61 l1 x11_1).f0), .int .i64 ((rd_T61 l1 x11_1).f1), .slice A119_2 ((rd_T61 l1 x11_1).f2).length c119_2] 61 (0, 0)) (by (with_reducible repeat (first | refine blk_drewN ?_ _ | refine blk_drew ?_ | refine blk_alloc ?_ _)); refine blk_far ?_ NB120_0.out _; (with_reducible repeat (first | refine blk_drewN ?_ _ | refine blk_drew ?_ | refine blk_alloc ?_ _)); refine blk_put (cs := #[.string ((rd_T61 l1 x11_1).f0), .int .i64 ((rd_T61 l1 x11_1).f1), .slice none 0 0]) ?_ 2 _ rfl; (with_reducible repeat (first | refine blk_drewN ?_ _ | refine blk_drew ?_ | refine blk_alloc ?_ _)); refine blk_put (cs := #[.string ((rd_T61 l1 x11_1).f0), .int .i64 0, .slice none 0 0]) ?_ 1 _ rfl; (with_reducible repeat (first | refine blk_drewN ?_ _ | refine blk_drew ?_ | refine blk_alloc ?_ _)); refine blk_put (cs := #[.string (⟨#[]⟩ : ByteArray), .int .i64 0, .slice none 0 0]) ?_ 0 _ rfl; (with_reducible repeat (first | refine blk_drewN ?_ _ | refine blk_drew ?_ | refine blk_alloc ?_ _)); exact BK120.out) NB120_0.out (by simp)) (aC (KeepBut.trans (by repeat (first | (with_reducible first | exact HK.out | apply KeepBut.set_ | apply keep_drewN | apply keep_drew | apply keep_alloc | refine keep_far ?_ GW120.out _) | exact HK.out)) hk (.inl rfl)) (aC hb (aE hi))); clear BK120 HK HB HI0; obtain ⟨BK120, HK, HB, HI0⟩ := n_))
            go_ret
            exact ⟨re, by repeat (first | (with_reducible first | exact HI0.out | apply IsS73.alloc | apply IsS73.drewN | apply IsS73.drew | apply IsS73.set_0 | apply IsS73.farG NB0_120.out) | exact HI0.out), by repeat (first | (with_reducible first | exact HB.out | apply below_alloc | apply pw_below_drewN | apply below_drew1 | refine below_set ?_ (IsS73.ge HI0.out) | refine below_set ?_ GE120.out) | exact HB.out), by repeat (first | (with_reducible first | exact HK.out | apply KeepBut.set_ | apply keep_drewN | apply keep_drew | apply keep_alloc | refine keep_far ?_ GW120.out _) | exact HK.out)⟩
     ·rw [if_neg c6] at H
      exact absurd H (by simp)
    ·rw [if_neg c5] at H
     exact absurd H (by simp)
   ·simp only [Option.some.injEq, Prod.mk.injEq] at H
    obtain ⟨rfl, rfl⟩ := H
    go_wp2
    go_ret
    exact ⟨re, by repeat (first | (with_reducible first | exact HI0.out | apply IsS73.alloc | apply IsS73.drewN | apply IsS73.drew | apply IsS73.set_0) | exact HI0.out), by repeat (first | (with_reducible first | exact HB.out | apply below_alloc | apply pw_below_drewN | apply below_drew1 | refine below_set ?_ (IsS73.ge HI0.out)) | exact HB.out), by repeat (first | (with_reducible first | exact HK.out | apply KeepBut.set_ | apply keep_drewN | apply keep_drew | apply keep_alloc) | exact HK.out)⟩
def note_ValidOutlines.f (k : Nat) (l0 : List (S61)) : Option Bool := (note_looks_outlines.f k 0 l0 1).bind fun t => some t.1
theorem note_ValidOutlines.mono : ∀ a0 k, LeO (note_ValidOutlines.f k a0) (note_ValidOutlines.f (k + 1) a0) := by
 intro a0 k
 unfold note_ValidOutlines.f
 exact LeO.bind (note_looks_outlines.mono _ _ _ k) (fun _ => LeO.refl _)
set_option maxHeartbeats 8000000 in
set_option maxRecDepth 100000 in
theorem note_ValidOutlines.calls (k : Nat) (A0 : Option Addr) (c0 : Nat) (l0 : List (S61)) (r : Bool) (w : World) (hr0 : Kd.C k61 w A0 l0.length l0) (hc0 : l0.length ≤ c0) (h : note_ValidOutlines.f k l0 = some r) :
  Calls Tryd.prog 27 #[.slice A0 l0.length c0] w fun e w' => e = .returned (.bool r) ∧ Below w.heap.size w w' := by
 have hu73 := Tryd.underlying73
 unfold note_ValidOutlines.f at h
 obtain ⟨⟨b, m⟩, A1, h⟩ := oB h
 obtain rfl := Option.some.inj h
 have HR0 := Aside0.mk hr0
 have HC0 := Aside0.mk hc0
 clear hr0 hc0 h
 have HB := Aside0.mk (Below.refl w.heap.size w)
 go_enter Tryd.func27, Tryd.ntmps27
 go_wp2_with (first | ((with_reducible refine gd 4 rfl ?_); refine bx 4 #[.int .i64 0] 73 rfl rfl ?_; intro gs hg_ w2 hbox hb; have n_ := aC (gz hg_) (aC (bs hb) (aE hbox)); clear HB; obtain ⟨GE, HB, BS⟩ := n_; clear hb hbox hg_) | (refine gF 52 6 Tryd.func52 #[.pointer (some ⟨gs, 0, none⟩), .slice A0 l0.length c0, .int .i64 1] rfl rfl ?_; refine (note_looks_outlines.calls k gs 0 _ _ l0 1 b m w _ ⟨BS.out, GE.out⟩ HB.out (Kd.C_foot_came k61_heap HR0.out HB.out GE.out) HC0.out A1.out).mono ?_; rintro e w3 ⟨rfl, hi, hb, hk⟩; refine ⟨_, rfl, ?_⟩; clear HB BS; have HB := aE hb; clear hb hi hk))
 go_ret
 exact ⟨re, HB.out⟩
theorem own_lt {α : Type} {d : Kd α} {e : Nat} {w : World} {base : Nat} {ok : Nat → Prop} {v : Value} {xs : List α} (h : d.R e w base ok v xs) : ∀ b, v.ownBlock = some b → b < w.heap.size := fun b hb => ((Kd.R_bound h).1 b hb).2.2.1
theorem own_ne {gb n : Nat} {v : Value} (h : ∀ b, v.ownBlock = some b → b < n) (hg : gb = n) : some gb ≠ v.ownBlock := fun e => absurd (h gb e.symm) (by omega)
theorem fill3 {b : Nat} {W W1 : World} {c0 c1 c2 : Value} {t : TypeId} (hb : W1.heap[b]? = some (.cells #[c0, c1, c2] t (0, 0))) (hB : Below W.heap.size W W1) (hg : b = W.heap.size) (u0 u1 u2 : Value) :
  Below W.heap.size W (((W1.setCell ⟨b, 0, none⟩ u0).setCell ⟨b, 1, none⟩ u1).setCell ⟨b, 2, none⟩ u2) ∧ (((W1.setCell ⟨b, 0, none⟩ u0).setCell ⟨b, 1, none⟩ u1).setCell ⟨b, 2, none⟩ u2).heap[b]? = some (.cells #[u0, u1, u2] t (0, 0)) := by
 have b1 := blk_put (cs := #[c0, c1, c2]) hb 0 u0 rfl
 have b2 := blk_put (cs := #[u0, c1, c2]) b1 1 u1 rfl
 have hg' : W.heap.size ≤ b := Nat.le_of_eq hg.symm
 exact ⟨below_set (below_set (below_set hB hg') hg') hg', blk_put (cs := #[u0, u1, c2]) b2 2 u2 rfl⟩
theorem infoO : (Tryd.prog.info? 61).map (fun i => (i.zero, i.size, i.bytes)) = some (some (.agg #[(.string ⟨#[]⟩), (.int .i64 0), (.slice none 0 0)]), 3, 48) := by kernel_rfl
theorem infoI : (Tryd.prog.info? 3).map (fun i => (i.zero, i.size, i.bytes)) = some (some (.int .i64 0), 1, 8) := by kernel_rfl
def note_flat.l0 : Nat → List (S61) → Int → List (S61) → List Int → Int → Option (List (S61) × List Int)
 | 0, _, _, _, _, _ => none
 | k + 1, l, d, o, ds, i => if i < (l.length : Int) then (if 0 ≤ i then (if (o.length + 1) * 48 ≤ 140737488355328 then (if (ds.length + 1) * 8 ≤ 140737488355328 then ((note_flat.l0 k ((rd_T61 l i).f2) (wrap64 (d + 1)) (o ++ [⟨(rd_T61 l i).f0, (rd_T61 l i).f1, []⟩]) (ds ++ [d]) 0).bind fun t => note_flat.l0 k l d t.1 t.2 (wrap64 (i + 1))) else none) else none) else none) else some (o, ds)
theorem note_flat.mono : ∀ k l d o ds i, LeO (note_flat.l0 k l d o ds i) (note_flat.l0 (k + 1) l d o ds i)
 | 0 => fun _ _ _ _ _ r h => by simp [note_flat.l0] at h
 | k + 1 => by
  intro l d o ds i
  unfold note_flat.l0
  exact LeO.ite (LeO.ite (LeO.ite (LeO.ite (LeO.bind (note_flat.mono k _ _ _ _ _) (fun _ => note_flat.mono k _ _ _ _ _)) (LeO.refl _)) (LeO.refl _)) (LeO.refl _)) (LeO.refl _)
set_option maxHeartbeats 8000000 in
set_option maxRecDepth 100000 in
theorem note_flat.calls (k : Nat) : ∀ (A0 : Option Addr) (c0 : Nat) (l0 : List (S61)) (d : Int) (v2 v3 : Value) (o : List (S61)) (ds : List Int) (r1 : List (S61)) (r2 : List Int) (w0 w : World) (hr0 : Kd.C k61 w0 A0 l0.length l0) (hc0 : l0.length ≤ c0) (hB : Below w0.heap.size w0 w) (ho2 : Kd.R k61 61 w w0.heap.size (fun _ => True) v2 o) (ho3 : Kd.R (Kd.int .i64) 3 w w0.heap.size (fun _ => True) v3 ds) (h : note_flat.l0 k l0 d o ds 0 = some (r1, r2)),
  Calls Tryd.prog 39 #[.slice A0 l0.length c0, .int .i64 d, v2, v3] w fun e w' => ∃ q2 q3 : Value, e = .returned (.tuple #[q2, q3]) ∧ Kd.R k61 61 w' w0.heap.size (fun _ => True) q2 r1 ∧ Kd.R (Kd.int .i64) 3 w' w0.heap.size (fun _ => True) q3 r2 ∧ Below w0.heap.size w0 w' := by
 induction k using Nat.strongRecOn with
 | _ k ih =>
 intro A0 c0 l0 d v2 v3 o ds r1 r2 w0 w hr0 hc0 hB ho2 ho3 h
 have hu61 := Tryd.underlying61
 have HR0 := Aside0.mk hr0
 have HC0 := Aside0.mk hc0
 have HB := Aside0.mk hB
 have HO2 := Aside0.mk ho2
 have HO3 := Aside0.mk ho3
 have H' := Aside0.mk h
 clear hr0 hc0 hB ho2 ho3 h
 go_enter Tryd.func39, Tryd.ntmps39
 go_wp2
 go_loopg [2, 3, 14] k (fun kq v2 v3 v14 w' => ∃ (o1 : List (S61)) (ds1 : List Int) (i1 : Int), v14 = .int .i64 i1 ∧ Aside0 (note_flat.l0 kq l0 d o1 ds1 i1 = some (r1, r2)) ∧ Aside0 (kq ≤ k) ∧ Aside0 (Kd.R k61 61 w' w0.heap.size (fun _ => True) v2 o1) ∧ Aside0 (Kd.R (Kd.int .i64) 3 w' w0.heap.size (fun _ => True) v3 ds1) ∧ Aside0 (Below w0.heap.size w0 w'))
 case atStart => exact ⟨o, ds, 0, rq, H', ⟨Nat.le_refl _⟩, HO2, HO3, HB⟩
 case round =>
  clear H' HO2 HO3 HB
  obtain ⟨o1, ds1, i1, rfl, HA, HK1, HO2, HO3, HB⟩ := hrel
  cases gk with
  | zero => exact absurd HA.out (by simp [note_flat.l0])
  | succ k1 =>
   have H := HA.out
   clear HA
   simp only [note_flat.l0] at H
   rcases iL H with H1 | H1 <;> clear H <;> obtain ⟨H, c4b0⟩ := H1
   ·by_cases c5 : 0 ≤ i1
    ·rw [if_pos c5] at H
     have c5b0 := decide_eq_true c5
     clear c5
     by_cases lm1 : (o1.length + 1) * 48 ≤ 140737488355328
     ·rw [if_pos lm1] at H
      by_cases lm2 : (ds1.length + 1) * 8 ≤ 140737488355328
      ·rw [if_pos lm2] at H
       have LM1 := aE lm1
       have LM2 := aE lm2
       clear lm1 lm2
       obtain ⟨⟨o2, ds2⟩, A2, H⟩ := oB H
       have H' := aE H
       clear H
       have p110 : 0 ≤ (i1 : Int) := dt
       have q110 : i1 < (l0.length : Int) := dt
       obtain ⟨ad, Ak, ck, ead, x0, x1, x2, hl, hi⟩ := at_T61 HR0.out i1 p110 q110
       have KD := aC hi (aE hl)
       replace x0 := hcB HB.out x0
       replace x1 := hcB HB.out x1
       replace x2 := hcB HB.out x2
       clear hi hl
       cases ead
       replace p110 := eq_true p110
       replace q110 := eq_true q110
       have OW := aC (own_lt HO2.out) (aE (own_lt HO3.out))
       go_wp2_with (first | ((with_reducible refine gd 11 rfl ?_); refine bx 11 #[.string (⟨#[]⟩ : ByteArray), .int .i64 0, .slice none 0 0] 61 rfl rfl ?_; intro gb hg_ w3 hbox hb; obtain ⟨z0, z1, z2, y0, y1, y2⟩ := cz3f hbox; have m_ := fill3 hbox hb hg_ (.string ((rd_T61 l0 i1).f0)) (.int .i64 ((rd_T61 l0 i1).f1)) (.slice Ak ((rd_T61 l0 i1).f2).length ck); have n_ := aC m_.2 (aC (Kd.R_below HO2.out m_.1) (aC (Kd.R_below HO3.out m_.1) (aC (below_step HB.out m_.1) (aE (And.intro (own_ne OW.1.out hg_) (own_ne OW.2.out hg_)))))); clear HO2 HO3 HB OW m_ hbox hb hg_; obtain ⟨BK, HO2, HO3, HB, OW⟩ := n_) | ((with_reducible refine gate_builtin (b := .append) (xs := #[.tmp 18, .tmp 24]) rfl ?_); at_builtin; refine Kd.R_append k61 (w0 := w0) w0.heap.size rfl (.tmp 18) (.tmp 24) 22 61 (.agg #[(.string ⟨#[]⟩), (.int .i64 0), (.slice none 0 0)]) 48 rfl Tryd.underlying22 infoO rfl (by decide) (by omega) u2 o1 (⟨(rd_T61 l0 i1).f0, (rd_T61 l0 i1).f1, []⟩ : S61) [.string ((rd_T61 l0 i1).f0), .int .i64 ((rd_T61 l0 i1).f1), .slice none 0 0] (fun _ => True) (fun _ => False) rfl (congrArg (fun n => Value.slice (some ⟨n, 0, none⟩) 1 1) (show w3.heap.size = _ by simp [World.setCell])) ?aP (fun _ hk => hk.elim) ?aF ?aO ?aB ?aS ?aL ?_; (case aP => exact k61_mkM _ _ _ (⟨(rd_T61 l0 i1).f0, (rd_T61 l0 i1).f1, []⟩ : S61) (Kd.R_nil _ _ _ _ _)); (case aB => exact HB.out); (case aF => exact (fun _ _ => trivial)); (case aO => exact HO2.out); (case aS => exact below_size HB.out); (case aL => have := LM1.out; omega); intro v25 w4 ho hb hg hat; have n_ := aC hb (aC ho (aC (Kd.R_over HO3.out HO2.out (by decide) hg) (aE ((hg.block _ (blk_lt BK.out) OW.out.1).trans BK.out)))); clear HB HO2 HO3 BK; obtain ⟨HB, HO2, HO3, BK⟩ := n_; clear ho hb hg hat) | ((with_reducible refine gate_builtin (b := .append) (xs := #[.tmp 26, .tmp 28]) rfl ?_); at_builtin; refine Kd.R_append (Kd.int .i64) (w0 := w0) w0.heap.size rfl (.tmp 26) (.tmp 28) 25 3 (.int .i64 0) 8 rfl Tryd.underlying25 infoI rfl (by decide) (by omega) u3 ds1 d [.int .i64 d] (fun _ => True) (fun _ => False) rfl rfl ?aP (fun _ hk => hk.elim) ?aF ?aO ?aB ?aS ?aL ?_; (case aP => exact rfl); (case aB => exact HB.out); (case aF => exact (fun _ _ => trivial)); (case aO => exact HO3.out); (case aS => exact below_size HB.out); (case aL => have := LM2.out; omega); intro v29 w5 ho hb hg hat; have n_ := aC hb (aC ho (aC (Kd.R_over HO2.out HO3.out (by decide) hg) (aE ((hg.block _ (blk_lt BK.out) OW.out.2).trans BK.out)))); clear HB HO2 HO3 BK; obtain ⟨HB, HO3, HO2, BK⟩ := n_; clear ho hb hg hat; obtain ⟨z0, z1, z2⟩ := cz3 BK.out) | (refine gF 39 37 Tryd.func39 #[.slice Ak ((rd_T61 l0 i1).f2).length ck, .int .i64 (wrap64 (d + 1)), v25, v29] rfl rfl ?_; (with_reducible refine (ih k1 (by have := HK1.out; omega) Ak ck ((rd_T61 l0 i1).f2) (wrap64 (d + 1)) v25 v29 _ _ o2 ds2 w0 _ KD.1.out KD.2.out HB.out HO2.out HO3.out A2.out).mono ?_); rintro e w6 ⟨q2, q3, rfl, h2, h3, hb⟩; refine ⟨_, rfl, ?_⟩; have n_ := aC h2 (aC h3 (aE hb)); clear HO2 HO3 HB BK; obtain ⟨HO2, HO3, HB⟩ := n_; clear h2 h3 hb))
       go_roundg k1
       case measure => have := HK1.out; omega
       case rel => exact ⟨o2, ds2, wrap64 (i1 + 1), rq, H', ⟨by have := HK1.out; omega⟩, HO2, HO3, HB⟩
      ·rw [if_neg lm2] at H
       exact absurd H (by simp)
     ·rw [if_neg lm1] at H
      exact absurd H (by simp)
    ·rw [if_neg c5] at H
     exact absurd H (by simp)
   ·simp only [Option.some.injEq, Prod.mk.injEq] at H
    obtain ⟨rfl, rfl⟩ := H
    go_wp2
    go_ret2
    exact ⟨_, _, re, HO2.out, HO3.out, HB.out⟩
def note_Flat.f (k : Nat) (l0 : List (S61)) : Option (List (S61) × List Int × Int) := (note_ValidOutlines.f k l0).bind fun v => if v = true then ((note_flat.l0 k l0 0 ([] : List (S61)) ([] : List Int) 0).bind fun t => some (t.1, t.2, 0)) else some (([] : List (S61)), ([] : List Int), 95)
theorem note_Flat.mono : ∀ a0 k, LeO (note_Flat.f k a0) (note_Flat.f (k + 1) a0) := by
 intro a0 k
 unfold note_Flat.f
 exact LeO.bind (note_ValidOutlines.mono _ k) (fun _ => LeO.ite (LeO.bind (note_flat.mono k _ _ _ _ _) (fun _ => LeO.refl _)) (LeO.refl _))
set_option maxHeartbeats 8000000 in
set_option maxRecDepth 100000 in
theorem note_Flat.calls (k : Nat) (A0 : Option Addr) (c0 : Nat) (l0 : List (S61)) (r1 : List (S61)) (r2 : List Int) (r3 : Int) (w : World) (hr0 : Kd.C k61 w A0 l0.length l0) (hc0 : l0.length ≤ c0) (h : note_Flat.f k l0 = some (r1, r2, r3)) :
  Calls Tryd.prog 12 #[.slice A0 l0.length c0] w fun e w' => ∃ v0_ v1_ : Value, e = .returned (.tuple #[v0_, v1_, .int .i64 r3]) ∧ Kd.R k61 61 w' w.heap.size (fun _ => True) v0_ r1 ∧ Kd.R (Kd.int .i64) 3 w' w.heap.size (fun _ => True) v1_ r2 ∧ Below w.heap.size w w' := by
 unfold note_Flat.f at h
 obtain ⟨v, A1, h⟩ := oB h
 have HR0 := Aside0.mk hr0
 have HC0 := Aside0.mk hc0
 clear hr0 hc0
 have HB := Aside0.mk (Below.refl w.heap.size w)
 by_cases c : v = true
 ·rw [if_pos c] at h
  subst c
  obtain ⟨⟨o, ds⟩, A2, h⟩ := oB h
  simp only [Option.some.injEq, Prod.mk.injEq] at h
  obtain ⟨rfl, rfl, rfl⟩ := h
  go_enter Tryd.func12, Tryd.ntmps12
  go_wp2_with (first | (refine gF 27 8 Tryd.func27 #[.slice A0 l0.length c0] rfl rfl ?_; refine (note_ValidOutlines.calls k _ _ l0 true _ HR0.out HC0.out A1.out).mono ?_; rintro e w2 ⟨rfl, hb⟩; refine ⟨_, rfl, ?_⟩; have n_ := aE (below_step HB.out hb); clear HB; have HB := n_; clear hb) | (refine gF 39 12 Tryd.func39 #[.slice A0 l0.length c0, .int .i64 0, .slice none 0 0, .slice none 0 0] rfl rfl ?_; refine (note_flat.calls k _ _ l0 0 (.slice none 0 0) (.slice none 0 0) ([] : List (S61)) ([] : List Int) o ds w _ HR0.out HC0.out HB.out (Kd.R_nil _ _ _ _ _) (Kd.R_nil _ _ _ _ _) A2.out).mono ?_; rintro e w3 ⟨q0, q1, rfl, h1, h2, hb⟩; refine ⟨_, rfl, ?_⟩; have n_ := aC h1 (aC h2 (aE hb)); clear HB; obtain ⟨HO1, HO2, HB⟩ := n_; clear h1 h2 hb))
  go_ret3
  exact ⟨_, _, re, HO1.out, HO2.out, HB.out⟩
 ·rw [if_neg c] at h
  replace c := Bool.eq_false_iff.mpr c
  subst c
  simp only [Option.some.injEq, Prod.mk.injEq] at h
  obtain ⟨rfl, rfl, rfl⟩ := h
  go_enter Tryd.func12, Tryd.ntmps12
  go_wp2_with (first | (refine gF 27 8 Tryd.func27 #[.slice A0 l0.length c0] rfl rfl ?_; refine (note_ValidOutlines.calls k _ _ l0 false _ HR0.out HC0.out A1.out).mono ?_; rintro e w2 ⟨rfl, hb⟩; refine ⟨_, rfl, ?_⟩; have n_ := aE (below_step HB.out hb); clear HB; have HB := n_; clear hb))
  go_ret3
  exact ⟨_, _, re, Kd.R_nil _ _ _ _ _, Kd.R_nil _ _ _ _ _, HB.out⟩
mutual
def incunableref25_outlines.l0 : Nat → List (S61) → Int → Int → Bool → Int → Option (Int × Int × Bool)
 | 0, _, _, _, _, _ => none
 | k + 1, x0, x5, x6, x7, x8 => if x8 < (x0.length : Int) then (if 0 ≤ x8 then ((incunableref25_outlines.f k ((rd_T61 x0 x8).f2)).bind fun bt124 => (if x7 = true then (if bt124.2.2 = true then (if (((rd_T61 x0 x8).f0).size : Int) ≤ 200 then (if ((rd_T61 x0 x8).f1) ≥ 1 then (incunableref25_outlines.l0 k x0 (wrap64 ((wrap64 (x5 + 1)) + bt124.1)) (mx x6 (wrap64 (bt124.2.1 + 1))) (decide (((rd_T61 x0 x8).f1) ≤ 1000)) (wrap64 (x8 + 1))) else (incunableref25_outlines.l0 k x0 (wrap64 ((wrap64 (x5 + 1)) + bt124.1)) (mx x6 (wrap64 (bt124.2.1 + 1))) false (wrap64 (x8 + 1)))) else (incunableref25_outlines.l0 k x0 (wrap64 ((wrap64 (x5 + 1)) + bt124.1)) (mx x6 (wrap64 (bt124.2.1 + 1))) false (wrap64 (x8 + 1)))) else (incunableref25_outlines.l0 k x0 (wrap64 ((wrap64 (x5 + 1)) + bt124.1)) (mx x6 (wrap64 (bt124.2.1 + 1))) false (wrap64 (x8 + 1)))) else (incunableref25_outlines.l0 k x0 (wrap64 ((wrap64 (x5 + 1)) + bt124.1)) (mx x6 (wrap64 (bt124.2.1 + 1))) false (wrap64 (x8 + 1))))) else (none)) else (some (x5, x6, x7))
def incunableref25_outlines.f : Nat → List (S61) → Option (Int × Int × Bool)
 | 0, _ => none
 | k + 1, l0 => incunableref25_outlines.l0 k l0 0 0 true 0
end
theorem incunableref25_outlines.mono_l : ∀ k, (∀ y0, LeO (incunableref25_outlines.f k y0) (incunableref25_outlines.f (k + 1) y0)) ∧ (∀ y0 y1 y2 y3 y4, LeO (incunableref25_outlines.l0 k y0 y1 y2 y3 y4) (incunableref25_outlines.l0 (k + 1) y0 y1 y2 y3 y4))
 | 0 => ⟨fun _ r h => by simp [incunableref25_outlines.f] at h, fun _ _ _ _ _ r h => by simp [incunableref25_outlines.l0] at h⟩
 | k + 1 => by
  obtain ⟨ih0, ih1⟩ := incunableref25_outlines.mono_l k
  refine ⟨?_, ?_⟩
  ·intro y0
   unfold incunableref25_outlines.f
   repeat' first
   | (with_reducible exact ih0 _)
   | (with_reducible exact ih1 _ _ _ _ _)
   | (with_reducible first | exact LeO.refl _ | exact LeO.none _ | refine LeO.ite ?_ ?_ | refine LeO.bind ?_ (fun _ => ?_))
  ·intro y0 y1 y2 y3 y4
   unfold incunableref25_outlines.l0
   repeat' first
   | (with_reducible exact ih0 _)
   | (with_reducible exact ih1 _ _ _ _ _)
   | (with_reducible first | exact LeO.refl _ | exact LeO.none _ | refine LeO.ite ?_ ?_ | refine LeO.bind ?_ (fun _ => ?_))
theorem incunableref25_outlines.mono : ∀ a0 k, LeO (incunableref25_outlines.f k a0) (incunableref25_outlines.f (k + 1) a0) := by
 intro a0 k
 obtain ⟨ih0, ih1⟩ := incunableref25_outlines.mono_l k
 exact ih0 a0
set_option maxHeartbeats 8000000 in
set_option maxRecDepth 100000 in
theorem incunableref25_outlines.calls (k : Nat) : ∀ (A0 : Option Addr) (c0 : Nat) (l0 : List (S61)) (r1 : Int) (r2 : Int) (r3 : Bool) (w : World) (hr0 : Kd.C k61 w A0 l0.length l0) (hc0 : l0.length ≤ c0) (h : incunableref25_outlines.f k l0 = some (r1, r2, r3)),
  Calls Tryd.prog 53 #[.slice A0 l0.length c0] w fun e w' => e = .returned (.tuple #[.int .i64 r1, .int .i64 r2, .bool r3]) ∧ Below w.heap.size w w' := by
 induction k using Nat.strongRecOn with
 | _ k ih =>
 intro A0 c0 l0 r1 r2 r3 w hr0 hc0 h
 cases k with
 | zero => exact absurd h (by simp [incunableref25_outlines.f])
 | succ k =>
 simp only [incunableref25_outlines.f] at h
 have HR0 := Aside0.mk hr0
 have HC0 := Aside0.mk hc0
 clear hr0 hc0
 have HB := Aside0.mk (Below.refl w.heap.size w)
 have H : (incunableref25_outlines.l0 k l0 0 0 true 0) = some (r1, r2, r3) := h
 clear h
 have H' := Aside0.mk H
 clear H
 go_enter Tryd.func53, Tryd.ntmps53
 go_wp2
 go_loopg [5, 6, 7, 8] k (fun kq v5 v6 v7 v8 w' => ∃ (x5_1 : Int) (x6_1 : Int) (x7_1 : Bool) (x8_1 : Int), v5 = .int .i64 x5_1 ∧ v6 = .int .i64 x6_1 ∧ v7 = .bool x7_1 ∧ v8 = .int .i64 x8_1 ∧ Aside0 (incunableref25_outlines.l0 kq l0 x5_1 x6_1 x7_1 x8_1 = some (r1, r2, r3)) ∧ Aside0 (kq ≤ k) ∧ Aside0 (Below w.heap.size w w'))
 case atStart => exact ⟨(0), (0), (true), (0), rq, rq, rq, rq, H', ⟨Nat.le_refl _⟩, ⟨bl⟩⟩
 case round =>
  clear H'
  obtain ⟨x5_1, x6_1, x7_1, x8_1, rfl, rfl, rfl, rfl, HA, HK1, HB⟩ := hrel
  cases gk with
  | zero => exact absurd HA.out (by simp [incunableref25_outlines.l0])
  | succ k1 =>
   have H := HA.out
   clear HA
   simp only [incunableref25_outlines.l0] at H
   rcases iL H with H1 | H1 <;> clear H <;> obtain ⟨H, c2b0⟩ := H1
   ·by_cases c3 : 0 ≤ x8_1
    ·rw [if_pos c3] at H
     have c3b0 := decide_eq_true c3
     clear c3
     obtain ⟨⟨t124, t125, t126⟩, A4, H⟩ := oB H
     try dsimp only at H
     obtain ⟨ji5, hji5⟩ : ∃ j_ : Int, (mx x6_1 (wrap64 (t125 + 1))) = j_ := ⟨_, rfl⟩
     replace H : (if x7_1 = true then (if t126 = true then (if (((rd_T61 l0 x8_1).f0).size : Int) ≤ 200 then (if ((rd_T61 l0 x8_1).f1) ≥ 1 then (incunableref25_outlines.l0 k1 l0 (wrap64 ((wrap64 (x5_1 + 1)) + t124)) ji5 (decide (((rd_T61 l0 x8_1).f1) ≤ 1000)) (wrap64 (x8_1 + 1))) else (incunableref25_outlines.l0 k1 l0 (wrap64 ((wrap64 (x5_1 + 1)) + t124)) ji5 false (wrap64 (x8_1 + 1)))) else (incunableref25_outlines.l0 k1 l0 (wrap64 ((wrap64 (x5_1 + 1)) + t124)) ji5 false (wrap64 (x8_1 + 1)))) else (incunableref25_outlines.l0 k1 l0 (wrap64 ((wrap64 (x5_1 + 1)) + t124)) ji5 false (wrap64 (x8_1 + 1)))) else (incunableref25_outlines.l0 k1 l0 (wrap64 ((wrap64 (x5_1 + 1)) + t124)) ji5 false (wrap64 (x8_1 + 1)))) = some (r1, r2, r3) := by first | (rw [hji5] at H; exact H) | (simp only [hji5] at H ⊢; exact H)
     (try rw [hji5] at A4)
     have hji5_ : (if x6_1 < (wrap64 (t125 + 1)) then (wrap64 (t125 + 1)) else x6_1) = ji5 := hji5
     by_cases c6 : x7_1 = true
     ·subst c6
      rw [if_pos rfl] at H
      by_cases c7 : t126 = true
      ·subst c7
       rw [if_pos rfl] at H
       by_cases c8 : (((rd_T61 l0 x8_1).f0).size : Int) ≤ 200
       ·rw [if_pos c8] at H
        have c8b0 := decide_eq_true c8
        have c8b1 : decide (((rd_T61 l0 x8_1).f0).size ≤ 200) = true := decide_eq_true (by omega)
        clear c8
        rcases iL H with H1 | H1 <;> clear H <;> obtain ⟨H, c9b0⟩ := H1
        ·have H' := Aside0.mk H
         clear H
         have p123 : 0 ≤ (x8_1 : Int) := dt
         have q123 : x8_1 < (l0.length : Int) := dt
         obtain ⟨ad123, A123_2, c123_2, e123, hx123_0, hx123_1, hx123_2, hl123_2, hi123_2⟩ := at_T61 HR0.out x8_1 p123 q123
         cases e123
         replace hx123_0 := hcB HB.out hx123_0
         replace hx123_1 := hcB HB.out hx123_1
         replace hx123_2 := hcB HB.out hx123_2
         have HR123_2 := Aside0.mk hi123_2
         have HC123_2 := Aside0.mk hl123_2
         clear hi123_2 hl123_2
         replace p123 := eq_true p123
         replace q123 := eq_true q123
         go_wp2_with (first | (refine gF 53 24 Tryd.func53 #[.slice A123_2 ((rd_T61 l0 x8_1).f2).length c123_2] rfl rfl ?_; (with_reducible refine (ih k1 (by have := HK1.out; omega) _ _ ((rd_T61 l0 x8_1).f2) t124 t125 true _ ?side1 ?side2 A4.out).mono ?_); (case side1 => exact cU (Kd.C_below HR123_2.out HB.out)); (case side2 => exact HC123_2.out); rintro e w10 ⟨rfl, hb⟩; refine ⟨_, rfl, ?_⟩; have n_ := aE (bs hb); clear HB; have HB := n_; clear n_; have p127 : 0 ≤ (x8_1 : Int) := dt; have q127 : x8_1 < (l0.length : Int) := dt; obtain ⟨ad127, A127_2, c127_2, e127, hx127_0, hx127_1, hx127_2, hl127_2, hi127_2⟩ := at_T61 HR0.out x8_1 p127 q127; obtain rfl : ad123 = ad127 := (by injection e127); replace hx127_0 := hcB HB.out hx127_0; replace hx127_1 := hcB HB.out hx127_1; replace hx127_2 := hcB HB.out hx127_2; have HR127_2 := Aside0.mk hi127_2; have HC127_2 := Aside0.mk hl127_2; clear hi127_2 hl127_2; replace p127 := eq_true p127; replace q127 := eq_true q127; have p128 : 0 ≤ (x8_1 : Int) := dt; have q128 : x8_1 < (l0.length : Int) := dt; obtain ⟨ad128, A128_2, c128_2, e128, hx128_0, hx128_1, hx128_2, hl128_2, hi128_2⟩ := at_T61 HR0.out x8_1 p128 q128; obtain rfl : ad123 = ad128 := (by injection e128); replace hx128_0 := hcB HB.out hx128_0; replace hx128_1 := hcB HB.out hx128_1; replace hx128_2 := hcB HB.out hx128_2; have HR128_2 := Aside0.mk hi128_2; have HC128_2 := Aside0.mk hl128_2; clear hi128_2 hl128_2; replace p128 := eq_true p128; replace q128 := eq_true q128; have ea_ := Option.some.inj (hx127_2.symm.trans hx128_2); injection ea_ with ea_ en_ ec_; subst ea_; subst ec_; clear en_; have p129 : 0 ≤ (x8_1 : Int) := dt; have q129 : x8_1 < (l0.length : Int) := dt; obtain ⟨ad129, A129_2, c129_2, e129, hx129_0, hx129_1, hx129_2, hl129_2, hi129_2⟩ := at_T61 HR0.out x8_1 p129 q129; obtain rfl : ad123 = ad129 := (by injection e129); replace hx129_0 := hcB HB.out hx129_0; replace hx129_1 := hcB HB.out hx129_1; replace hx129_2 := hcB HB.out hx129_2; have HR129_2 := Aside0.mk hi129_2; have HC129_2 := Aside0.mk hl129_2; clear hi129_2 hl129_2; replace p129 := eq_true p129; replace q129 := eq_true q129; have ea_ := Option.some.inj (hx127_2.symm.trans hx129_2); injection ea_ with ea_ en_ ec_; subst ea_; subst ec_; clear en_))
         go_roundg k1
         case measure => have := HK1.out; omega
         case rel => exact ⟨(wrap64 ((wrap64 (x5_1 + 1)) + t124)), (ji5), (decide (((rd_T61 l0 x8_1).f1) ≤ 1000)), (wrap64 (x8_1 + 1)), rq, (by first | rfl | (simp; done) | (simp only [← hji5] <;> (first | rfl | simp)) | (simp [*]; done)), rq, rq, H', ⟨by have := HK1.out; omega⟩, ⟨bl⟩⟩
        ·have H' := Aside0.mk H
         clear H
         have p123 : 0 ≤ (x8_1 : Int) := dt
         have q123 : x8_1 < (l0.length : Int) := dt
         obtain ⟨ad123, A123_2, c123_2, e123, hx123_0, hx123_1, hx123_2, hl123_2, hi123_2⟩ := at_T61 HR0.out x8_1 p123 q123
         cases e123
         replace hx123_0 := hcB HB.out hx123_0
         replace hx123_1 := hcB HB.out hx123_1
         replace hx123_2 := hcB HB.out hx123_2
         have HR123_2 := Aside0.mk hi123_2
         have HC123_2 := Aside0.mk hl123_2
         clear hi123_2 hl123_2
         replace p123 := eq_true p123
         replace q123 := eq_true q123
         go_wp2_with (first | (refine gF 53 24 Tryd.func53 #[.slice A123_2 ((rd_T61 l0 x8_1).f2).length c123_2] rfl rfl ?_; (with_reducible refine (ih k1 (by have := HK1.out; omega) _ _ ((rd_T61 l0 x8_1).f2) t124 t125 true _ ?side1 ?side2 A4.out).mono ?_); (case side1 => exact cU (Kd.C_below HR123_2.out HB.out)); (case side2 => exact HC123_2.out); rintro e w11 ⟨rfl, hb⟩; refine ⟨_, rfl, ?_⟩; have n_ := aE (bs hb); clear HB; have HB := n_; clear n_; have p127 : 0 ≤ (x8_1 : Int) := dt; have q127 : x8_1 < (l0.length : Int) := dt; obtain ⟨ad127, A127_2, c127_2, e127, hx127_0, hx127_1, hx127_2, hl127_2, hi127_2⟩ := at_T61 HR0.out x8_1 p127 q127; obtain rfl : ad123 = ad127 := (by injection e127); replace hx127_0 := hcB HB.out hx127_0; replace hx127_1 := hcB HB.out hx127_1; replace hx127_2 := hcB HB.out hx127_2; have HR127_2 := Aside0.mk hi127_2; have HC127_2 := Aside0.mk hl127_2; clear hi127_2 hl127_2; replace p127 := eq_true p127; replace q127 := eq_true q127; have p128 : 0 ≤ (x8_1 : Int) := dt; have q128 : x8_1 < (l0.length : Int) := dt; obtain ⟨ad128, A128_2, c128_2, e128, hx128_0, hx128_1, hx128_2, hl128_2, hi128_2⟩ := at_T61 HR0.out x8_1 p128 q128; obtain rfl : ad123 = ad128 := (by injection e128); replace hx128_0 := hcB HB.out hx128_0; replace hx128_1 := hcB HB.out hx128_1; replace hx128_2 := hcB HB.out hx128_2; have HR128_2 := Aside0.mk hi128_2; have HC128_2 := Aside0.mk hl128_2; clear hi128_2 hl128_2; replace p128 := eq_true p128; replace q128 := eq_true q128; have ea_ := Option.some.inj (hx127_2.symm.trans hx128_2); injection ea_ with ea_ en_ ec_; subst ea_; subst ec_; clear en_))
         go_roundg k1
         case measure => have := HK1.out; omega
         case rel => exact ⟨(wrap64 ((wrap64 (x5_1 + 1)) + t124)), (ji5), (false), (wrap64 (x8_1 + 1)), rq, (by first | rfl | (simp; done) | (simp only [← hji5] <;> (first | rfl | simp)) | (simp [*]; done)), rq, rq, H', ⟨by have := HK1.out; omega⟩, ⟨bl⟩⟩
       ·rw [if_neg c8] at H
        have c8b0 := decide_eq_false c8
        have c8b1 : decide (((rd_T61 l0 x8_1).f0).size ≤ 200) = false := decide_eq_false (by omega)
        clear c8
        have H' := Aside0.mk H
        clear H
        have p123 : 0 ≤ (x8_1 : Int) := dt
        have q123 : x8_1 < (l0.length : Int) := dt
        obtain ⟨ad123, A123_2, c123_2, e123, hx123_0, hx123_1, hx123_2, hl123_2, hi123_2⟩ := at_T61 HR0.out x8_1 p123 q123
        cases e123
        replace hx123_0 := hcB HB.out hx123_0
        replace hx123_1 := hcB HB.out hx123_1
        replace hx123_2 := hcB HB.out hx123_2
        have HR123_2 := Aside0.mk hi123_2
        have HC123_2 := Aside0.mk hl123_2
        clear hi123_2 hl123_2
        replace p123 := eq_true p123
        replace q123 := eq_true q123
        go_wp2_with (first | (refine gF 53 24 Tryd.func53 #[.slice A123_2 ((rd_T61 l0 x8_1).f2).length c123_2] rfl rfl ?_; (with_reducible refine (ih k1 (by have := HK1.out; omega) _ _ ((rd_T61 l0 x8_1).f2) t124 t125 true _ ?side1 ?side2 A4.out).mono ?_); (case side1 => exact cU (Kd.C_below HR123_2.out HB.out)); (case side2 => exact HC123_2.out); rintro e w12 ⟨rfl, hb⟩; refine ⟨_, rfl, ?_⟩; have n_ := aE (bs hb); clear HB; have HB := n_; clear n_; have p127 : 0 ≤ (x8_1 : Int) := dt; have q127 : x8_1 < (l0.length : Int) := dt; obtain ⟨ad127, A127_2, c127_2, e127, hx127_0, hx127_1, hx127_2, hl127_2, hi127_2⟩ := at_T61 HR0.out x8_1 p127 q127; obtain rfl : ad123 = ad127 := (by injection e127); replace hx127_0 := hcB HB.out hx127_0; replace hx127_1 := hcB HB.out hx127_1; replace hx127_2 := hcB HB.out hx127_2; have HR127_2 := Aside0.mk hi127_2; have HC127_2 := Aside0.mk hl127_2; clear hi127_2 hl127_2; replace p127 := eq_true p127; replace q127 := eq_true q127))
        go_roundg k1
        case measure => have := HK1.out; omega
        case rel => exact ⟨(wrap64 ((wrap64 (x5_1 + 1)) + t124)), (ji5), (false), (wrap64 (x8_1 + 1)), rq, (by first | rfl | (simp; done) | (simp only [← hji5] <;> (first | rfl | simp)) | (simp [*]; done)), rq, rq, H', ⟨by have := HK1.out; omega⟩, ⟨bl⟩⟩
      ·replace c7 := Bool.eq_false_iff.mpr c7
       subst c7
       rw [if_neg Bool.false_ne_true] at H
       have H' := Aside0.mk H
       clear H
       have p123 : 0 ≤ (x8_1 : Int) := dt
       have q123 : x8_1 < (l0.length : Int) := dt
       obtain ⟨ad123, A123_2, c123_2, e123, hx123_0, hx123_1, hx123_2, hl123_2, hi123_2⟩ := at_T61 HR0.out x8_1 p123 q123
       cases e123
       replace hx123_0 := hcB HB.out hx123_0
       replace hx123_1 := hcB HB.out hx123_1
       replace hx123_2 := hcB HB.out hx123_2
       have HR123_2 := Aside0.mk hi123_2
       have HC123_2 := Aside0.mk hl123_2
       clear hi123_2 hl123_2
       replace p123 := eq_true p123
       replace q123 := eq_true q123
       go_wp2_with (first | (refine gF 53 24 Tryd.func53 #[.slice A123_2 ((rd_T61 l0 x8_1).f2).length c123_2] rfl rfl ?_; (with_reducible refine (ih k1 (by have := HK1.out; omega) _ _ ((rd_T61 l0 x8_1).f2) t124 t125 false _ ?side1 ?side2 A4.out).mono ?_); (case side1 => exact cU (Kd.C_below HR123_2.out HB.out)); (case side2 => exact HC123_2.out); rintro e w13 ⟨rfl, hb⟩; refine ⟨_, rfl, ?_⟩; have n_ := aE (bs hb); clear HB; have HB := n_; clear n_))
       go_roundg k1
       case measure => have := HK1.out; omega
       case rel => exact ⟨(wrap64 ((wrap64 (x5_1 + 1)) + t124)), (ji5), (false), (wrap64 (x8_1 + 1)), rq, (by first | rfl | (simp; done) | (simp only [← hji5] <;> (first | rfl | simp)) | (simp [*]; done)), rq, rq, H', ⟨by have := HK1.out; omega⟩, ⟨bl⟩⟩
     ·replace c6 := Bool.eq_false_iff.mpr c6
      subst c6
      rw [if_neg Bool.false_ne_true] at H
      have H' := Aside0.mk H
      clear H
      have p123 : 0 ≤ (x8_1 : Int) := dt
      have q123 : x8_1 < (l0.length : Int) := dt
      obtain ⟨ad123, A123_2, c123_2, e123, hx123_0, hx123_1, hx123_2, hl123_2, hi123_2⟩ := at_T61 HR0.out x8_1 p123 q123
      cases e123
      replace hx123_0 := hcB HB.out hx123_0
      replace hx123_1 := hcB HB.out hx123_1
      replace hx123_2 := hcB HB.out hx123_2
      have HR123_2 := Aside0.mk hi123_2
      have HC123_2 := Aside0.mk hl123_2
      clear hi123_2 hl123_2
      replace p123 := eq_true p123
      replace q123 := eq_true q123
      go_wp2_with (first | (refine gF 53 24 Tryd.func53 #[.slice A123_2 ((rd_T61 l0 x8_1).f2).length c123_2] rfl rfl ?_; (with_reducible refine (ih k1 (by have := HK1.out; omega) _ _ ((rd_T61 l0 x8_1).f2) t124 t125 t126 _ ?side1 ?side2 A4.out).mono ?_); (case side1 => exact cU (Kd.C_below HR123_2.out HB.out)); (case side2 => exact HC123_2.out); rintro e w14 ⟨rfl, hb⟩; refine ⟨_, rfl, ?_⟩; have n_ := aE (bs hb); clear HB; have HB := n_; clear n_))
      go_roundg k1
      case measure => have := HK1.out; omega
      case rel => exact ⟨(wrap64 ((wrap64 (x5_1 + 1)) + t124)), (ji5), (false), (wrap64 (x8_1 + 1)), rq, (by first | rfl | (simp; done) | (simp only [← hji5] <;> (first | rfl | simp)) | (simp [*]; done)), rq, rq, H', ⟨by have := HK1.out; omega⟩, ⟨bl⟩⟩
    ·rw [if_neg c3] at H
     exact absurd H (by simp)
   ·simp only [Option.some.injEq, Prod.mk.injEq] at H
    obtain ⟨rfl, rfl, rfl⟩ := H
    go_wp2
    go_ret3
    exact ⟨re, bl⟩
def incunableref25_ValidOutlines.f (k : Nat) (l0 : List (S61)) : Option (Bool) := (incunableref25_outlines.f k l0).bind fun bt130 => (if bt130.2.2 = true then (if bt130.1 ≤ 400 then (some (decide (bt130.2.1 ≤ 20))) else (some false)) else (some false))
theorem incunableref25_ValidOutlines.mono : ∀ a0 k, LeO (incunableref25_ValidOutlines.f k a0) (incunableref25_ValidOutlines.f (k + 1) a0) := by
 intro a0 k
 unfold incunableref25_ValidOutlines.f
 repeat' first
   | (with_reducible exact incunableref25_outlines.mono _ _)
   | (with_reducible first | exact LeO.refl _ | exact LeO.none _ | refine LeO.ite ?_ ?_ | refine LeO.bind ?_ (fun _ => ?_))
set_option maxHeartbeats 8000000 in
set_option maxRecDepth 100000 in
theorem incunableref25_ValidOutlines.calls (k : Nat) (A0 : Option Addr) (c0 : Nat) (l0 : List (S61)) (r : Bool) (w : World) (hr0 : Kd.C k61 w A0 l0.length l0) (hc0 : l0.length ≤ c0) (h : incunableref25_ValidOutlines.f k l0 = some r) :
  Calls Tryd.prog 28 #[.slice A0 l0.length c0] w fun e w' => e = .returned (.bool r) ∧ Below w.heap.size w w' := by
 have HR0 := Aside0.mk hr0
 have HC0 := Aside0.mk hc0
 clear hr0 hc0
 have HB := Aside0.mk (Below.refl w.heap.size w)
 have H := h
 unfold incunableref25_ValidOutlines.f at H
 clear h
 obtain ⟨⟨t130, t131, t132⟩, A2, H⟩ := oB H
 try dsimp only at H
 by_cases c3 : t132 = true
 ·subst c3
  rw [if_pos rfl] at H
  rcases iL H with H1 | H1 <;> clear H <;> obtain ⟨H, c4b0⟩ := H1
  ·obtain rfl := Option.some.inj H
   go_enter Tryd.func28, Tryd.ntmps28
   go_wp2_with (first | (refine gF 53 8 Tryd.func53 #[.slice A0 l0.length c0] rfl rfl ?_; (with_reducible refine (incunableref25_outlines.calls k _ _ l0 t130 t131 true _ ?side1 ?side2 A2.out).mono ?_); (case side1 => exact cU HR0.out); (case side2 => exact HC0.out); rintro e w5 ⟨rfl, hb⟩; refine ⟨_, rfl, ?_⟩; have n_ := aE (bs hb); clear HB; have HB := n_; clear n_))
   go_ret
   exact ⟨re, bl⟩
  ·obtain rfl := Option.some.inj H
   go_enter Tryd.func28, Tryd.ntmps28
   go_wp2_with (first | (refine gF 53 8 Tryd.func53 #[.slice A0 l0.length c0] rfl rfl ?_; (with_reducible refine (incunableref25_outlines.calls k _ _ l0 t130 t131 true _ ?side1 ?side2 A2.out).mono ?_); (case side1 => exact cU HR0.out); (case side2 => exact HC0.out); rintro e w6 ⟨rfl, hb⟩; refine ⟨_, rfl, ?_⟩; have n_ := aE (bs hb); clear HB; have HB := n_; clear n_))
   go_ret
   exact ⟨re, bl⟩
 ·replace c3 := Bool.eq_false_iff.mpr c3
  subst c3
  rw [if_neg Bool.false_ne_true] at H
  obtain rfl := Option.some.inj H
  go_enter Tryd.func28, Tryd.ntmps28
  go_wp2_with (first | (refine gF 53 8 Tryd.func53 #[.slice A0 l0.length c0] rfl rfl ?_; (with_reducible refine (incunableref25_outlines.calls k _ _ l0 t130 t131 false _ ?side1 ?side2 A2.out).mono ?_); (case side1 => exact cU HR0.out); (case side2 => exact HC0.out); rintro e w7 ⟨rfl, hb⟩; refine ⟨_, rfl, ?_⟩; have n_ := aE (bs hb); clear HB; have HB := n_; clear n_))
  go_ret
  exact ⟨re, bl⟩
theorem incunableref25_flat.infoO : (Tryd.prog.info? 61).map (fun i => (i.zero, i.size, i.bytes)) = some (some (.agg #[(.string ⟨#[]⟩), (.int .i64 0), (.slice none 0 0)]), 3, 48) := by kernel_rfl
theorem incunableref25_flat.infoI : (Tryd.prog.info? 3).map (fun i => (i.zero, i.size, i.bytes)) = some (some (.int .i64 0), 1, 8) := by kernel_rfl
def incunableref25_flat.l0 : Nat → List (S61) → Int → List (S61) → List Int → Int → Option (List (S61) × List Int)
 | 0, _, _, _, _, _ => none
 | k + 1, l, d, o, ds, i => if i < (l.length : Int) then (if 0 ≤ i then (if (o.length + 1) * 48 ≤ 140737488355328 then (if (ds.length + 1) * 8 ≤ 140737488355328 then ((incunableref25_flat.l0 k ((rd_T61 l i).f2) (wrap64 (d + 1)) (o ++ [⟨(rd_T61 l i).f0, (rd_T61 l i).f1, []⟩]) (ds ++ [d]) 0).bind fun t => incunableref25_flat.l0 k l d t.1 t.2 (wrap64 (i + 1))) else none) else none) else none) else some (o, ds)
theorem incunableref25_flat.mono : ∀ k l d o ds i, LeO (incunableref25_flat.l0 k l d o ds i) (incunableref25_flat.l0 (k + 1) l d o ds i)
 | 0 => fun _ _ _ _ _ r h => by simp [incunableref25_flat.l0] at h
 | k + 1 => by
  intro l d o ds i
  unfold incunableref25_flat.l0
  exact LeO.ite (LeO.ite (LeO.ite (LeO.ite (LeO.bind (incunableref25_flat.mono k _ _ _ _ _) (fun _ => incunableref25_flat.mono k _ _ _ _ _)) (LeO.refl _)) (LeO.refl _)) (LeO.refl _)) (LeO.refl _)
def incunableref25_flat.T4 : Bool × List (List Nat × List Nat) := (true, [([], []), ([], []), ([], []), ([1, 2], [1, 2]), ([3], [3]), ([4], [4]), ([], []), ([], []), ([6, 7], [6, 7]), ([8], [8]), ([9], [9]), ([5, 10], [5, 10]), ([11], [11]), ([0, 12], [0, 12]), ([13, 13, 0, 1, 2, 3, 4, 5, 6, 7, 8, 9, 10, 11, 12, 13], [0, 13])])
def incunableref25_flat.B4 : List Nat := [0, 0, 0, 6, 14, 30, 0, 0, 192, 448, 960, 2046, 4094, 8191, 16383]
theorem incunableref25_flat.tab4 : rtab .any (opsOf Tryd.f40 4) = incunableref25_flat.T4 := by kernel_rfl
theorem incunableref25_flat.bits4 : waitsOk incunableref25_flat.T4.2 incunableref25_flat.B4 = true := by kernel_rfl
set_option maxHeartbeats 8000000 in
set_option maxRecDepth 100000 in
theorem incunableref25_flat.calls (k : Nat) : ∀ (A0 : Option Addr) (c0 : Nat) (l0 : List (S61)) (v1 v2 : Value) (o : List (S61)) (ds : List Int) (d : Int) (r1 : List (S61)) (r2 : List Int) (w0 w : World) (hr0 : Kd.C k61 w0 A0 l0.length l0) (hc0 : l0.length ≤ c0) (hB : Below w0.heap.size w0 w) (ho1 : Kd.R k61 61 w w0.heap.size (fun _ => True) v1 o) (ho2 : Kd.R (Kd.int .i64) 3 w w0.heap.size (fun _ => True) v2 ds) (h : incunableref25_flat.l0 k l0 d o ds 0 = some (r1, r2)),
  Calls Tryd.prog 40 #[.slice A0 l0.length c0, v1, v2, .int .i64 d] w fun e w' => ∃ q1 q2 : Value, e = .returned (.tuple #[q1, q2]) ∧ Kd.R k61 61 w' w0.heap.size (fun _ => True) q1 r1 ∧ Kd.R (Kd.int .i64) 3 w' w0.heap.size (fun _ => True) q2 r2 ∧ Below w0.heap.size w0 w' := by
 induction k using Nat.strongRecOn with
 | _ k ih =>
 intro A0 c0 l0 v1 v2 o ds d r1 r2 w0 w hr0 hc0 hB ho1 ho2 h
 have hu61 := Tryd.underlying61
 have HR0 := Aside0.mk hr0
 have HC0 := Aside0.mk hc0
 have HB := Aside0.mk hB
 have HO1 := Aside0.mk ho1
 have HO2 := Aside0.mk ho2
 have H' := Aside0.mk h
 clear hr0 hc0 hB ho1 ho2 h
 go_enter Tryd.func40, Tryd.ntmps40
 go_wp2
 go_loopg [1, 2, 10] k (fun kq v1 v2 v10 w' => ∃ (o1 : List (S61)) (ds1 : List Int) (i1 : Int), v10 = .int .i64 i1 ∧ Aside0 (incunableref25_flat.l0 kq l0 d o1 ds1 i1 = some (r1, r2)) ∧ Aside0 (kq ≤ k) ∧ Aside0 (Kd.R k61 61 w' w0.heap.size (fun _ => True) v1 o1) ∧ Aside0 (Kd.R (Kd.int .i64) 3 w' w0.heap.size (fun _ => True) v2 ds1) ∧ Aside0 (Below w0.heap.size w0 w'))
 case atStart => exact ⟨o, ds, 0, rq, H', ⟨Nat.le_refl _⟩, HO1, HO2, HB⟩
 case round =>
  clear H' HO1 HO2 HB
  obtain ⟨o1, ds1, i1, rfl, HA, HK1, HO1, HO2, HB⟩ := hrel
  cases gk with
  | zero => exact absurd HA.out (by simp [incunableref25_flat.l0])
  | succ k1 =>
   have H := HA.out
   clear HA
   simp only [incunableref25_flat.l0] at H
   rcases iL H with H1 | H1 <;> clear H <;> obtain ⟨H, c4b0⟩ := H1
   ·by_cases c5 : 0 ≤ i1
    ·rw [if_pos c5] at H
     have c5b0 := decide_eq_true c5
     clear c5
     by_cases lm1 : (o1.length + 1) * 48 ≤ 140737488355328
     ·rw [if_pos lm1] at H
      by_cases lm2 : (ds1.length + 1) * 8 ≤ 140737488355328
      ·rw [if_pos lm2] at H
       have LM1 := aE lm1
       have LM2 := aE lm2
       clear lm1 lm2
       obtain ⟨⟨o2, ds2⟩, A2, H⟩ := oB H
       have H' := aE H
       clear H
       go_wp2
       have n_ := aC (below_drew1 HB.out) (aC (show Kd.R k61 61 wr.drew w0.heap.size (fun _ => True) u1 o1 from rU HO1.out) (aE (show Kd.R (Kd.int .i64) 3 wr.drew w0.heap.size (fun _ => True) u2 ds1 from rU HO2.out)))
       clear HB HO1 HO2
       obtain ⟨HB, HO1, HO2⟩ := n_
       have p110 : 0 ≤ (i1 : Int) := dt
       have q110 : i1 < (l0.length : Int) := dt
       obtain ⟨ad, Ak, ck, ead, hw0, hw1, hw2, hl, hi⟩ := at_T61 HR0.out i1 p110 q110
       have KD := aC hi (aE hl)
       clear hi hl
       cases ead
       replace p110 := eq_true p110
       replace q110 := eq_true q110
       refine st 15 (fun w' => w'.cell? (ad.add ((i1).toNat * 3)) = some (.string ((rd_T61 l0 i1).f0)) ∧ w'.cell? ⟨(ad.add ((i1).toNat * 3)).block, (ad.add ((i1).toNat * 3)).off + 1, none⟩ = some (.int .i64 ((rd_T61 l0 i1).f1))) [] (bv 15 0) incunableref25_flat.tab4 incunableref25_flat.bits4 ⟨hcB HB.out hw0, hcB HB.out hw1⟩ (fun hHeld HT_ HW_ => ?_)
       generalize wr.drew = w9 at HB HO1 HO2 hHeld ⊢
       refine pu 0 17 (bv 15 1) HT_ rfl rfl ?_
       refine pu 1 18 (bv 15 3) HT_ rfl rfl ?_
       refine pu 2 19 (bv 15 7) HT_ rfl rfl ?_
       refine pu 3 20 (bv 15 15) HT_ rfl rfl ?_
       refine pu 4 21 (bv 15 31) HT_ rfl rfl ?_
       refine pu 6 23 (bv 15 95) HT_ rfl rfl ?_
       refine pu 7 24 (bv 15 223) HT_ rfl rfl ?_
       refine pu 8 25 (bv 15 479) HT_ rfl rfl ?_
       refine pu 9 26 (bv 15 991) HT_ rfl rfl ?_
       refine tk 5 22 (bv 15 1023) HT_ HW_ hHeld rfl rfl (by rintro w' ⟨s0, s1⟩; exact yl) ?_
       refine tk 10 27 (bv 15 2047) HT_ HW_ hHeld rfl rfl (by rintro w' ⟨s0, s1⟩; exact yl) ?_
       refine pu 11 28 (bv 15 4095) HT_ rfl rfl ?_
       refine one_ (i := 12) (N := some 29) (bv 15 8191) rfl rfl (one_of HT_.out (by kernel_rfl)) (by decide) (fun K hK => ?_)
       refine value_ (w1 := ?_) (v := ?_) (by rfl) rfl ?_ ?_
       rotate_left 2
       ·go_simp
        constructor
        ·rfl
        ·rfl
       refine hK.out _ _ ⟨hcB (below_alloc HB.out _) hw0, hcB (below_alloc HB.out _) hw1⟩ (fun hHeld => ?_)
       clear hK K
       refine nm (some 29) ?_
       refine one_ (i := 13) (N := some 30) (bv 15 16383) rfl rfl (one_of HT_.out (by kernel_rfl)) (by decide) (fun K hK => ?_)
       refine Kd.R_append_step k61 (w0 := w0) w0.heap.size (by rfl) (.tmp 17) (.tmp 29) 22 61 (.agg #[(.string ⟨#[]⟩), (.int .i64 0), (.slice none 0 0)]) 48 rfl Tryd.underlying22 incunableref25_flat.infoO rfl (by decide) (by omega) u1 o1 (⟨(rd_T61 l0 i1).f0, (rd_T61 l0 i1).f1, []⟩ : S61) [.string ((rd_T61 l0 i1).f0), .int .i64 ((rd_T61 l0 i1).f1), .slice none 0 0] (fun _ => True) (fun _ => False) rfl rfl ?aP (fun _ hk => hk.elim) ?aF ?aO ?aB ?aS ?aL ?_
       (case aP => exact k61_mkM _ _ _ (⟨(rd_T61 l0 i1).f0, (rd_T61 l0 i1).f1, []⟩ : S61) (Kd.R_nil _ _ _ _ _))
       (case aB => exact HB.out)
       (case aF => exact (fun _ _ => trivial))
       (case aO => exact HO1.out)
       (case aS => exact below_size HB.out)
       (case aL => have := LM1.out; omega)
       intro v30 w5 ho hb hg hat
       have n_ := aC hb (aC ho (aE (Kd.R_over HO2.out HO1.out (by decide) hg)))
       clear HB HO1 HO2
       obtain ⟨HB, HO1, HO2⟩ := n_
       clear ho hb hg hat
       refine hK.out _ _ ⟨hcB HB.out hw0, hcB HB.out hw1⟩ (fun hHeld => ?_)
       clear hK K
       refine nm (some 30) ?_
       refine pu 14 1 (bv 15 32767) HT_ rfl rfl ?_
       refine done_ (done_of HT_.out (by kernel_rfl)) ?_
       go_wp2_with (first | ((with_reducible refine gate_builtin (b := .append) (xs := #[.tmp 31, .tmp 33]) rfl ?_); at_builtin; refine Kd.R_append (Kd.int .i64) (w0 := w0) w0.heap.size rfl (.tmp 31) (.tmp 33) 25 3 (.int .i64 0) 8 rfl Tryd.underlying25 incunableref25_flat.infoI rfl (by decide) (by omega) u2 ds1 d [.int .i64 d] (fun _ => True) (fun _ => False) rfl rfl ?aP (fun _ hk => hk.elim) ?aF ?aO ?aB ?aS ?aL ?_; (case aP => exact rfl); (case aB => exact HB.out); (case aF => exact (fun _ _ => trivial)); (case aO => exact HO2.out); (case aS => exact below_size HB.out); (case aL => have := LM2.out; omega); intro v34 w6 ho hb hg hat; have n_ := aC hb (aC ho (aE (Kd.R_over HO1.out HO2.out (by decide) hg))); clear HB HO1 HO2; obtain ⟨HB, HO2, HO1⟩ := n_; clear ho hb hg hat; have x2 := hcB HB.out hw2) | (refine gF 40 45 Tryd.func40 #[.slice Ak ((rd_T61 l0 i1).f2).length ck, v30, v34, .int .i64 (wrap64 (d + 1))] rfl rfl ?_; (with_reducible refine (ih k1 (by have := HK1.out; omega) Ak ck ((rd_T61 l0 i1).f2) v30 v34 _ _ (wrap64 (d + 1)) o2 ds2 w0 _ KD.1.out KD.2.out HB.out HO1.out HO2.out A2.out).mono ?_); rintro e w7 ⟨q1, q2, rfl, h1, h2, hb⟩; refine ⟨_, rfl, ?_⟩; have n_ := aC h1 (aC h2 (aE hb)); clear HO1 HO2 HB; obtain ⟨HO1, HO2, HB⟩ := n_; clear h1 h2 hb))
       go_roundg k1
       case measure => have := HK1.out; omega
       case rel => exact ⟨o2, ds2, wrap64 (i1 + 1), rq, H', ⟨by have := HK1.out; omega⟩, HO1, HO2, HB⟩
      ·rw [if_neg lm2] at H
       exact absurd H (by simp)
     ·rw [if_neg lm1] at H
      exact absurd H (by simp)
    ·rw [if_neg c5] at H
     exact absurd H (by simp)
   ·simp only [Option.some.injEq, Prod.mk.injEq] at H
    obtain ⟨rfl, rfl⟩ := H
    go_wp2
    go_ret2
    exact ⟨_, _, re, HO1.out, HO2.out, HB.out⟩
end Go.Proofs.YtacdchogjpeffaaDoor.PNoteFlat
