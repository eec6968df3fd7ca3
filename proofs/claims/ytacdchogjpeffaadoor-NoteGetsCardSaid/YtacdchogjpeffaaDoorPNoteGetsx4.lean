-- printed (wip/tools/myprint.py)
import Derived.Test.YtacdchogjpeffaaDoorPNoteGetsx0
import Derived.Test.YtacdchogjpeffaaDoorPNoteGetsx1
namespace Go.Proofs.YtacdchogjpeffaaDoor.PNoteGets
open Go.RowKit Go.Proofs.YtacdchogjpeffaaDoorW.PrintWords Go.Proofs.YtacdchogjpeffaaDoorW.PrintLast Go.Proofs.YtacdchogjpeffaaDoorW.PrintMore
attribute [local go_sem] max2_int min2_int max_two min_two max_three min_three max_four min_four
set_option linter.unusedVariables false
set_option linter.unusedSimpArgs false
theorem at_T61f {w W : World} {g : Nat} {A : Option Addr} {n : Nat} {xs : List S61} (h : ∀ W_, KeepBut w W_ g none → Kd.C k61 W_ A n xs) (hk : KeepBut w W g none) (i : Int) (h0 : 0 ≤ i) (h1 : i < n) : ∃ ad A2 c2, A = some ad ∧ W.cell? (ad.add (i.toNat * 3)) = some (.string (rd_T61 xs i).f0) ∧ W.cell? ⟨(ad.add (i.toNat * 3)).block, (ad.add (i.toNat * 3)).off + 1, none⟩ = some (.int .i64 (rd_T61 xs i).f1) ∧ W.cell? ⟨(ad.add (i.toNat * 3)).block, (ad.add (i.toNat * 3)).off + 2, none⟩ = some (.slice A2 (rd_T61 xs i).f2.length c2) ∧ (rd_T61 xs i).f2.length ≤ c2 ∧ k61.C W A2 (rd_T61 xs i).f2.length (rd_T61 xs i).f2 ∧ (∀ W_, KeepBut w W_ g none → k61.C W_ A2 (rd_T61 xs i).f2.length (rd_T61 xs i).f2) := by
 obtain ⟨ad, A2, c2, rfl, x0, x1, x2, hl, hi⟩ := at_T61 (h W hk) i h0 h1
 refine ⟨ad, A2, c2, rfl, x0, x1, x2, hl, hi, fun W_ k_ => ?_⟩
 have ne := Kd.foot_ne h (by omega) (show 0 < k61.sz by decide)
 have lt := Kd.foot_lt h (by omega) (show 0 < k61.sz by decide)
 obtain ⟨ad', B2, d2, e', y0, y1, y2, hl', hj⟩ := at_T61 (h W_ k_) i h0 h1
 obtain rfl := Option.some.inj e'
 have e1 := (k_.2 ad.block lt ne (by simp)).trans (hk.2 ad.block lt ne (by simp)).symm
 have e2 : W_.cell? ⟨(ad.add (i.toNat * 3)).block, (ad.add (i.toNat * 3)).off + 2, none⟩ = W.cell? ⟨(ad.add (i.toNat * 3)).block, (ad.add (i.toNat * 3)).off + 2, none⟩ := by
  unfold World.cell?
  rw [add_block, e1]
 rw [e2, x2] at y2
 injection y2 with y
 injection y with z1 z2 z3
 rw [z1]
 exact hj
mutual
def note_looks_outlines.l0 : Nat → Int → List (S61) → Int → Int → Int → Option (Bool × Int)
 | 0, _, _, _, _, _ => none
 | k + 1, x2, x9, x10, x11, x1000 => if x11 < x10 then (if 0 ≤ x11 then (if x11 < (x9.length : Int) then (if (wrap64 (x1000 + 1)) > 400 then (some (false, wrap64 (x1000 + 1))) else (if x2 > 20 then (some (false, wrap64 (x1000 + 1))) else (if (((rd_T61 x9 x11).f0).size : Int) > 200 then (some (false, wrap64 (x1000 + 1))) else (if ((rd_T61 x9 x11).f1) < 1 then (some (false, wrap64 (x1000 + 1))) else (if ((rd_T61 x9 x11).f1) > 1000 then (some (false, wrap64 (x1000 + 1))) else ((note_looks_outlines.f k (wrap64 (x1000 + 1)) ((rd_T61 x9 x11).f2) (wrap64 (x2 + 1))).bind fun bt124 => (if bt124.1 = true then (note_looks_outlines.l0 k x2 x9 x10 (wrap64 (x11 + 1)) bt124.2) else (some (false, bt124.2))))))))) else (none)) else (none)) else (some (true, x1000))
def note_looks_outlines.f : Nat → Int → List (S61) → Int → Option (Bool × Int)
 | 0, _, _, _ => none
 | k + 1, s0_0, l1, a2 => note_looks_outlines.l0 k a2 l1 (l1.length : Int) 0 s0_0
end
theorem note_looks_outlines.mono_l : ∀ k, (∀ y0 y1 y2, LeO (note_looks_outlines.f k y0 y1 y2) (note_looks_outlines.f (k + 1) y0 y1 y2)) ∧ (∀ y0 y1 y2 y3 y4, LeO (note_looks_outlines.l0 k y0 y1 y2 y3 y4) (note_looks_outlines.l0 (k + 1) y0 y1 y2 y3 y4))
 | 0 => ⟨fun _ _ _ r h => by simp [note_looks_outlines.f] at h, fun _ _ _ _ _ r h => by simp [note_looks_outlines.l0] at h⟩
 | k + 1 => by
  obtain ⟨ih0, ih1⟩ := note_looks_outlines.mono_l k
  refine ⟨?_, ?_⟩
  ·intro y0 y1 y2
   unfold note_looks_outlines.f
   repeat' first
   | (with_reducible exact ih0 _ _ _)
   | (with_reducible exact ih1 _ _ _ _ _)
   | (with_reducible first | exact LeO.refl _ | exact LeO.none _ | refine LeO.ite ?_ ?_ | refine LeO.bind ?_ (fun _ => ?_))
  ·intro y0 y1 y2 y3 y4
   unfold note_looks_outlines.l0
   repeat' first
   | (with_reducible exact ih0 _ _ _)
   | (with_reducible exact ih1 _ _ _ _ _)
   | (with_reducible first | exact LeO.refl _ | exact LeO.none _ | refine LeO.ite ?_ ?_ | refine LeO.bind ?_ (fun _ => ?_))
theorem note_looks_outlines.mono : ∀ a0 a1 a2 k, LeO (note_looks_outlines.f k a0 a1 a2) (note_looks_outlines.f (k + 1) a0 a1 a2) := by
 intro a0 a1 a2 k
 obtain ⟨ih0, ih1⟩ := note_looks_outlines.mono_l k
 exact ih0 a0 a1 a2
set_option maxHeartbeats 8000000 in
set_option maxRecDepth 100000 in
theorem note_looks_outlines.calls (k : Nat) : ∀ (g : Nat) (s0_0 : Int) (A1 : Option Addr) (c1 : Nat) (l1 : List (S61)) (a2 : Int) (r1 : Bool) (r2 : Int) (w0 w : World) (hI : IsS73 w0 w g s0_0) (hB : Below w0.heap.size w0 w) (hr1 : ∀ W_, KeepBut w W_ g none → Kd.C k61 W_ A1 l1.length l1) (hc1 : l1.length ≤ c1) (h : note_looks_outlines.f k s0_0 l1 a2 = some (r1, r2)),
  Calls Tryd.prog 52 #[.pointer (some ⟨g, 0, none⟩), .slice A1 l1.length c1, .int .i64 a2] w fun e w' => e = .returned (.bool r1) ∧ IsS73 w0 w' g r2 ∧ Below w0.heap.size w0 w' ∧ KeepBut w w' g none := by
 induction k using Nat.strongRecOn with
 | _ k ih =>
 intro g s0_0 A1 c1 l1 a2 r1 r2 w0 w hI hB hr1 hc1 h
 cases k with
 | zero => exact absurd h (by simp [note_looks_outlines.f])
 | succ k =>
 simp only [note_looks_outlines.f] at h
 have hu61 := Tryd.underlying61
 have HR1 := Aside0.mk hr1
 have HC1 := Aside0.mk hc1
 clear hr1 hc1
 have HI0 := Aside0.mk hI
 have HK := Aside0.mk (KeepBut.refl w g none)
 have HL := Aside0.mk hB.size
 clear hI
 have HW0 := Aside0.mk hB.size
 have HB := Aside0.mk hB
 clear hB
 have H : (note_looks_outlines.l0 k a2 l1 (l1.length : Int) 0 s0_0) = some (r1, r2) := h
 clear h
 have H' := Aside0.mk H
 clear H
 go_enter Tryd.func52, Tryd.ntmps52
 go_wp2
 go_loopg [11] k (fun kq v11 w' => ∃ (x11_1 : Int) (x1000_1 : Int), v11 = .int .i64 x11_1 ∧ Aside0 (note_looks_outlines.l0 kq a2 l1 (l1.length : Int) x11_1 x1000_1 = some (r1, r2)) ∧ Aside0 (kq ≤ k) ∧ Aside0 (IsS73 w0 w' g x1000_1) ∧ Aside0 (KeepBut w w' g none) ∧ Aside0 (Below w0.heap.size w0 w'))
 case atStart => exact ⟨(0), (s0_0), rq, H', ⟨Nat.le_refl _⟩, ⟨by repeat (first | (with_reducible first | exact HI0.out | apply IsS73.alloc | apply IsS73.drewN | apply IsS73.drew | apply IsS73.set_0) | exact HI0.out)⟩, ⟨by repeat (first | (with_reducible first | exact HK.out | apply KeepBut.set_ | apply keep_drewN | apply keep_drew | apply keep_alloc) | exact HK.out)⟩, ⟨by repeat (first | (with_reducible first | exact HB.out | apply below_alloc | apply pw_below_drewN | apply below_drew1 | refine below_set ?_ (IsS73.ge HI0.out)) | exact HB.out)⟩⟩
 case round =>
  clear H'
  try clear c1
  obtain ⟨x11_1, x1000_1, rfl, HA, HK1, HI0, HK, HB⟩ := hrel
  cases gk with
  | zero => exact absurd HA.out (by simp [note_looks_outlines.l0])
  | succ k1 =>
   have H := HA.out
   clear HA
   simp only [note_looks_outlines.l0] at H
   rcases iL H with H1 | H1 <;> clear H <;> obtain ⟨H, c4b0⟩ := H1
   ·by_cases c5 : 0 ≤ x11_1
    ·rw [if_pos c5] at H
     have c5b0 := decide_eq_true c5
     clear c5
     by_cases c6 : x11_1 < (l1.length : Int)
     ·rw [if_pos c6] at H
      have c6b0 := decide_eq_true c6
      clear c6
      rcases iL H with H1 | H1 <;> clear H <;> obtain ⟨H, c7b0⟩ := H1
      ·simp only [Option.some.injEq, Prod.mk.injEq] at H
       obtain ⟨rfl, rfl⟩ := H
       have p122 : 0 ≤ (x11_1 : Int) := dt
       have q122 : x11_1 < (l1.length : Int) := dt
       obtain ⟨ad122, A122_2, c122_2, e122, hx122_0, hx122_1, hx122_2, hl122_2, hi122_2, hf122_2⟩ := at_T61f HR1.out HK.out x11_1 p122 q122
       have HF122_2 := Aside0.mk hf122_2
       clear hf122_2
       cases e122
       have HR122_2 := Aside0.mk hi122_2
       have HC122_2 := Aside0.mk hl122_2
       clear hi122_2 hl122_2
       replace p122 := eq_true p122
       replace q122 := eq_true q122
       go_wp2_with (first | ((with_reducible refine gd 8 rfl ?_); (try (refine gate_guard (by rfl) ?_; dsimp only)); refine bx 8 #[.string (⟨#[]⟩ : ByteArray), .int .i64 0, .slice none 0 0] 61 rfl rfl ?_; intro gb123 hg w8 hbox hb; have n_ := aC (IsS73.below (by repeat (first | (with_reducible first | exact HI0.out | apply IsS73.alloc | apply IsS73.drewN | apply IsS73.drew | apply IsS73.set_0) | exact HI0.out)) hb) (aC (Kd.C_below (by repeat (first | (with_reducible exact HR122_2.out) | (with_reducible refine Kd.C_alloc ?_ _) | (with_reducible refine Kd.C_drewN ?_ _) | (with_reducible refine Kd.C_drew ?_) | exact HR122_2.out)) hb) (aC (KeepBut.trans (by repeat (first | (with_reducible first | exact HK.out | apply KeepBut.set_ | apply keep_drewN | apply keep_drew | apply keep_alloc) | exact HK.out)) (KeepBut.of_below hb g none) (.inl rfl)) (aC (below_step (by repeat (first | (with_reducible first | exact HB.out | apply below_alloc | apply pw_below_drewN | apply below_drew1 | refine below_set ?_ (IsS73.ge HI0.out)) | exact HB.out)) hb) (aC hbox (aC ((by rw [hg]; exact (keep_size (w := w) (g := g) (row := none) (by repeat (first | (with_reducible first | exact HK.out | apply KeepBut.set_ | apply keep_drewN | apply keep_drew | apply keep_alloc) | exact HK.out))) : w.heap.size ≤ gb123)) (aC ((Nat.le_trans HW0.out (by rw [hg]; exact (keep_size (w := w) (g := g) (row := none) (by repeat (first | (with_reducible first | exact HK.out | apply KeepBut.set_ | apply keep_drewN | apply keep_drew | apply keep_alloc) | exact HK.out))) : w.heap.size ≤ gb123) : w0.heap.size ≤ gb123)) (aC ((by rw [hg]; exact Nat.ne_of_lt (IsS73.lt (show IsS73 w0 _ g x1000_1 from by repeat (first | (with_reducible first | exact HI0.out | apply IsS73.alloc | apply IsS73.drewN | apply IsS73.drew | apply IsS73.set_0) | exact HI0.out))) : g ≠ gb123)) (aE ((by rw [hg]; exact Nat.ne_of_gt (IsS73.lt (show IsS73 w0 _ g x1000_1 from by repeat (first | (with_reducible first | exact HI0.out | apply IsS73.alloc | apply IsS73.drewN | apply IsS73.drew | apply IsS73.set_0) | exact HI0.out))) : gb123 ≠ g)))))))))); clear HI0 HR122_2 HK HB; obtain ⟨HI0, HR122_2, HK, HB, BK123, GW123, GE123, NB0_123, NB123_0⟩ := n_; clear hb hbox hg; have hnb9 := NB123_0.out; have hnc9 := NB0_123.out; obtain ⟨hcz10_0, hcz10_1, hcz10_2, hfz10_0, hfz10_1, hfz10_2⟩ := cz3f BK123.out; obtain ⟨HGz11, hgz11⟩ := HI0.out; have hcz11_0 := cellS73_0 HGz11; have hfz11_0 := blk_frozen HGz11 0; clear HGz11 hgz11))
       go_ret
       exact ⟨re, by repeat (first | (with_reducible first | exact HI0.out | apply IsS73.alloc | apply IsS73.drewN | apply IsS73.drew | apply IsS73.set_0 | apply IsS73.farG NB0_123.out) | exact HI0.out), by repeat (first | (with_reducible first | exact HB.out | apply below_alloc | apply pw_below_drewN | apply below_drew1 | refine below_set ?_ (IsS73.ge HI0.out) | refine below_set ?_ GE123.out) | exact HB.out), by repeat (first | (with_reducible first | exact HK.out | apply KeepBut.set_ | apply keep_drewN | apply keep_drew | apply keep_alloc | refine keep_far ?_ GW123.out _) | exact HK.out)⟩
      ·rcases iL H with H1 | H1 <;> clear H <;> obtain ⟨H, c12b0⟩ := H1
       ·simp only [Option.some.injEq, Prod.mk.injEq] at H
        obtain ⟨rfl, rfl⟩ := H
        have p122 : 0 ≤ (x11_1 : Int) := dt
        have q122 : x11_1 < (l1.length : Int) := dt
        obtain ⟨ad122, A122_2, c122_2, e122, hx122_0, hx122_1, hx122_2, hl122_2, hi122_2, hf122_2⟩ := at_T61f HR1.out HK.out x11_1 p122 q122
        have HF122_2 := Aside0.mk hf122_2
        clear hf122_2
        cases e122
        have HR122_2 := Aside0.mk hi122_2
        have HC122_2 := Aside0.mk hl122_2
        clear hi122_2 hl122_2
        replace p122 := eq_true p122
        replace q122 := eq_true q122
        go_wp2_with (first | ((with_reducible refine gd 8 rfl ?_); (try (refine gate_guard (by rfl) ?_; dsimp only)); refine bx 8 #[.string (⟨#[]⟩ : ByteArray), .int .i64 0, .slice none 0 0] 61 rfl rfl ?_; intro gb123 hg w13 hbox hb; have n_ := aC (IsS73.below (by repeat (first | (with_reducible first | exact HI0.out | apply IsS73.alloc | apply IsS73.drewN | apply IsS73.drew | apply IsS73.set_0) | exact HI0.out)) hb) (aC (Kd.C_below (by repeat (first | (with_reducible exact HR122_2.out) | (with_reducible refine Kd.C_alloc ?_ _) | (with_reducible refine Kd.C_drewN ?_ _) | (with_reducible refine Kd.C_drew ?_) | exact HR122_2.out)) hb) (aC (KeepBut.trans (by repeat (first | (with_reducible first | exact HK.out | apply KeepBut.set_ | apply keep_drewN | apply keep_drew | apply keep_alloc) | exact HK.out)) (KeepBut.of_below hb g none) (.inl rfl)) (aC (below_step (by repeat (first | (with_reducible first | exact HB.out | apply below_alloc | apply pw_below_drewN | apply below_drew1 | refine below_set ?_ (IsS73.ge HI0.out)) | exact HB.out)) hb) (aC hbox (aC ((by rw [hg]; exact (keep_size (w := w) (g := g) (row := none) (by repeat (first | (with_reducible first | exact HK.out | apply KeepBut.set_ | apply keep_drewN | apply keep_drew | apply keep_alloc) | exact HK.out))) : w.heap.size ≤ gb123)) (aC ((Nat.le_trans HW0.out (by rw [hg]; exact (keep_size (w := w) (g := g) (row := none) (by repeat (first | (with_reducible first | exact HK.out | apply KeepBut.set_ | apply keep_drewN | apply keep_drew | apply keep_alloc) | exact HK.out))) : w.heap.size ≤ gb123) : w0.heap.size ≤ gb123)) (aC ((by rw [hg]; exact Nat.ne_of_lt (IsS73.lt (show IsS73 w0 _ g x1000_1 from by repeat (first | (with_reducible first | exact HI0.out | apply IsS73.alloc | apply IsS73.drewN | apply IsS73.drew | apply IsS73.set_0) | exact HI0.out))) : g ≠ gb123)) (aE ((by rw [hg]; exact Nat.ne_of_gt (IsS73.lt (show IsS73 w0 _ g x1000_1 from by repeat (first | (with_reducible first | exact HI0.out | apply IsS73.alloc | apply IsS73.drewN | apply IsS73.drew | apply IsS73.set_0) | exact HI0.out))) : gb123 ≠ g)))))))))); clear HI0 HR122_2 HK HB; obtain ⟨HI0, HR122_2, HK, HB, BK123, GW123, GE123, NB0_123, NB123_0⟩ := n_; clear hb hbox hg; have hnb14 := NB123_0.out; have hnc14 := NB0_123.out; obtain ⟨hcz15_0, hcz15_1, hcz15_2, hfz15_0, hfz15_1, hfz15_2⟩ := cz3f BK123.out; obtain ⟨HGz16, hgz16⟩ := HI0.out; have hcz16_0 := cellS73_0 HGz16; have hfz16_0 := blk_frozen HGz16 0; clear HGz16 hgz16))
        go_ret
        exact ⟨re, by repeat (first | (with_reducible first | exact HI0.out | apply IsS73.alloc | apply IsS73.drewN | apply IsS73.drew | apply IsS73.set_0 | apply IsS73.farG NB0_123.out) | exact HI0.out), by repeat (first | (with_reducible first | exact HB.out | apply below_alloc | apply pw_below_drewN | apply below_drew1 | refine below_set ?_ (IsS73.ge HI0.out) | refine below_set ?_ GE123.out) | exact HB.out), by repeat (first | (with_reducible first | exact HK.out | apply KeepBut.set_ | apply keep_drewN | apply keep_drew | apply keep_alloc | refine keep_far ?_ GW123.out _) | exact HK.out)⟩
       ·by_cases c17 : (((rd_T61 l1 x11_1).f0).size : Int) > 200
        ·rw [if_pos c17] at H
         have c17b0 := decide_eq_true c17
         have c17b1 : decide (200 < ((rd_T61 l1 x11_1).f0).size) = true := decide_eq_true (by omega)
         clear c17
         simp only [Option.some.injEq, Prod.mk.injEq] at H
         obtain ⟨rfl, rfl⟩ := H
         have p122 : 0 ≤ (x11_1 : Int) := dt
         have q122 : x11_1 < (l1.length : Int) := dt
         obtain ⟨ad122, A122_2, c122_2, e122, hx122_0, hx122_1, hx122_2, hl122_2, hi122_2, hf122_2⟩ := at_T61f HR1.out HK.out x11_1 p122 q122
         have HF122_2 := Aside0.mk hf122_2
         clear hf122_2
         cases e122
         have HR122_2 := Aside0.mk hi122_2
         have HC122_2 := Aside0.mk hl122_2
         clear hi122_2 hl122_2
         replace p122 := eq_true p122
         replace q122 := eq_true q122
         go_wp2_with (first | ((with_reducible refine gd 8 rfl ?_); (try (refine gate_guard (by rfl) ?_; dsimp only)); refine bx 8 #[.string (⟨#[]⟩ : ByteArray), .int .i64 0, .slice none 0 0] 61 rfl rfl ?_; intro gb123 hg w18 hbox hb; have n_ := aC (IsS73.below (by repeat (first | (with_reducible first | exact HI0.out | apply IsS73.alloc | apply IsS73.drewN | apply IsS73.drew | apply IsS73.set_0) | exact HI0.out)) hb) (aC (Kd.C_below (by repeat (first | (with_reducible exact HR122_2.out) | (with_reducible refine Kd.C_alloc ?_ _) | (with_reducible refine Kd.C_drewN ?_ _) | (with_reducible refine Kd.C_drew ?_) | exact HR122_2.out)) hb) (aC (KeepBut.trans (by repeat (first | (with_reducible first | exact HK.out | apply KeepBut.set_ | apply keep_drewN | apply keep_drew | apply keep_alloc) | exact HK.out)) (KeepBut.of_below hb g none) (.inl rfl)) (aC (below_step (by repeat (first | (with_reducible first | exact HB.out | apply below_alloc | apply pw_below_drewN | apply below_drew1 | refine below_set ?_ (IsS73.ge HI0.out)) | exact HB.out)) hb) (aC hbox (aC ((by rw [hg]; exact (keep_size (w := w) (g := g) (row := none) (by repeat (first | (with_reducible first | exact HK.out | apply KeepBut.set_ | apply keep_drewN | apply keep_drew | apply keep_alloc) | exact HK.out))) : w.heap.size ≤ gb123)) (aC ((Nat.le_trans HW0.out (by rw [hg]; exact (keep_size (w := w) (g := g) (row := none) (by repeat (first | (with_reducible first | exact HK.out | apply KeepBut.set_ | apply keep_drewN | apply keep_drew | apply keep_alloc) | exact HK.out))) : w.heap.size ≤ gb123) : w0.heap.size ≤ gb123)) (aC ((by rw [hg]; exact Nat.ne_of_lt (IsS73.lt (show IsS73 w0 _ g x1000_1 from by repeat (first | (with_reducible first | exact HI0.out | apply IsS73.alloc | apply IsS73.drewN | apply IsS73.drew | apply IsS73.set_0) | exact HI0.out))) : g ≠ gb123)) (aE ((by rw [hg]; exact Nat.ne_of_gt (IsS73.lt (show IsS73 w0 _ g x1000_1 from by repeat (first | (with_reducible first | exact HI0.out | apply IsS73.alloc | apply IsS73.drewN | apply IsS73.drew | apply IsS73.set_0) | exact HI0.out))) : gb123 ≠ g)))))))))); clear HI0 HR122_2 HK HB; obtain ⟨HI0, HR122_2, HK, HB, BK123, GW123, GE123, NB0_123, NB123_0⟩ := n_; clear hb hbox hg; have hnb19 := NB123_0.out; have hnc19 := NB0_123.out; obtain ⟨hcz20_0, hcz20_1, hcz20_2, hfz20_0, hfz20_1, hfz20_2⟩ := cz3f BK123.out; obtain ⟨HGz21, hgz21⟩ := HI0.out; have hcz21_0 := cellS73_0 HGz21; have hfz21_0 := blk_frozen HGz21 0; clear HGz21 hgz21))
         go_ret
         exact ⟨re, by repeat (first | (with_reducible first | exact HI0.out | apply IsS73.alloc | apply IsS73.drewN | apply IsS73.drew | apply IsS73.set_0 | apply IsS73.farG NB0_123.out) | exact HI0.out), by repeat (first | (with_reducible first | exact HB.out | apply below_alloc | apply pw_below_drewN | apply below_drew1 | refine below_set ?_ (IsS73.ge HI0.out) | refine below_set ?_ GE123.out) | exact HB.out), by repeat (first | (with_reducible first | exact HK.out | apply KeepBut.set_ | apply keep_drewN | apply keep_drew | apply keep_alloc | refine keep_far ?_ GW123.out _) | exact HK.out)⟩
        ·rw [if_neg c17] at H
         have c17b0 := decide_eq_false c17
         have c17b1 : decide (200 < ((rd_T61 l1 x11_1).f0).size) = false := decide_eq_false (by omega)
         clear c17
         rcases iL H with H1 | H1 <;> clear H <;> obtain ⟨H, c22b0⟩ := H1
         ·simp only [Option.some.injEq, Prod.mk.injEq] at H
          obtain ⟨rfl, rfl⟩ := H
          have p122 : 0 ≤ (x11_1 : Int) := dt
          have q122 : x11_1 < (l1.length : Int) := dt
          obtain ⟨ad122, A122_2, c122_2, e122, hx122_0, hx122_1, hx122_2, hl122_2, hi122_2, hf122_2⟩ := at_T61f HR1.out HK.out x11_1 p122 q122
          have HF122_2 := Aside0.mk hf122_2
          clear hf122_2
          cases e122
          have HR122_2 := Aside0.mk hi122_2
          have HC122_2 := Aside0.mk hl122_2
          clear hi122_2 hl122_2
          replace p122 := eq_true p122
          replace q122 := eq_true q122
          go_wp2_with (first | ((with_reducible refine gd 8 rfl ?_); (try (refine gate_guard (by rfl) ?_; dsimp only)); refine bx 8 #[.string (⟨#[]⟩ : ByteArray), .int .i64 0, .slice none 0 0] 61 rfl rfl ?_; intro gb123 hg w23 hbox hb; have n_ := aC (IsS73.below (by repeat (first | (with_reducible first | exact HI0.out | apply IsS73.alloc | apply IsS73.drewN | apply IsS73.drew | apply IsS73.set_0) | exact HI0.out)) hb) (aC (Kd.C_below (by repeat (first | (with_reducible exact HR122_2.out) | (with_reducible refine Kd.C_alloc ?_ _) | (with_reducible refine Kd.C_drewN ?_ _) | (with_reducible refine Kd.C_drew ?_) | exact HR122_2.out)) hb) (aC (KeepBut.trans (by repeat (first | (with_reducible first | exact HK.out | apply KeepBut.set_ | apply keep_drewN | apply keep_drew | apply keep_alloc) | exact HK.out)) (KeepBut.of_below hb g none) (.inl rfl)) (aC (below_step (by repeat (first | (with_reducible first | exact HB.out | apply below_alloc | apply pw_below_drewN | apply below_drew1 | refine below_set ?_ (IsS73.ge HI0.out)) | exact HB.out)) hb) (aC hbox (aC ((by rw [hg]; exact (keep_size (w := w) (g := g) (row := none) (by repeat (first | (with_reducible first | exact HK.out | apply KeepBut.set_ | apply keep_drewN | apply keep_drew | apply keep_alloc) | exact HK.out))) : w.heap.size ≤ gb123)) (aC ((Nat.le_trans HW0.out (by rw [hg]; exact (keep_size (w := w) (g := g) (row := none) (by repeat (first | (with_reducible first | exact HK.out | apply KeepBut.set_ | apply keep_drewN | apply keep_drew | apply keep_alloc) | exact HK.out))) : w.heap.size ≤ gb123) : w0.heap.size ≤ gb123)) (aC ((by rw [hg]; exact Nat.ne_of_lt (IsS73.lt (show IsS73 w0 _ g x1000_1 from by repeat (first | (with_reducible first | exact HI0.out | apply IsS73.alloc | apply IsS73.drewN | apply IsS73.drew | apply IsS73.set_0) | exact HI0.out))) : g ≠ gb123)) (aE ((by rw [hg]; exact Nat.ne_of_gt (IsS73.lt (show IsS73 w0 _ g x1000_1 from by repeat (first | (with_reducible first | exact HI0.out | apply IsS73.alloc | apply IsS73.drewN | apply IsS73.drew | apply IsS73.set_0) | exact HI0.out))) : gb123 ≠ g)))))))))); clear HI0 HR122_2 HK HB; obtain ⟨HI0, HR122_2, HK, HB, BK123, GW123, GE123, NB0_123, NB123_0⟩ := n_; clear hb hbox hg; have hnb24 := NB123_0.out; have hnc24 := NB0_123.out; obtain ⟨hcz25_0, hcz25_1, hcz25_2, hfz25_0, hfz25_1, hfz25_2⟩ := cz3f BK123.out; obtain ⟨HGz26, hgz26⟩ := HI0.out; have hcz26_0 := cellS73_0 HGz26; have hfz26_0 := blk_frozen HGz26 0; clear HGz26 hgz26))
          go_ret
          exact ⟨re, by repeat (first | (with_reducible first | exact HI0.out | apply IsS73.alloc | apply IsS73.drewN | apply IsS73.drew | apply IsS73.set_0 | apply IsS73.farG NB0_123.out) | exact HI0.out), by repeat (first | (with_reducible first | exact HB.out | apply below_alloc | apply pw_below_drewN | apply below_drew1 | refine below_set ?_ (IsS73.ge HI0.out) | refine below_set ?_ GE123.out) | exact HB.out), by repeat (first | (with_reducible first | exact HK.out | apply KeepBut.set_ | apply keep_drewN | apply keep_drew | apply keep_alloc | refine keep_far ?_ GW123.out _) | exact HK.out)⟩
         ·rcases iL H with H1 | H1 <;> clear H <;> obtain ⟨H, c27b0⟩ := H1
          ·simp only [Option.some.injEq, Prod.mk.injEq] at H
           obtain ⟨rfl, rfl⟩ := H
           have p122 : 0 ≤ (x11_1 : Int) := dt
           have q122 : x11_1 < (l1.length : Int) := dt
           obtain ⟨ad122, A122_2, c122_2, e122, hx122_0, hx122_1, hx122_2, hl122_2, hi122_2, hf122_2⟩ := at_T61f HR1.out HK.out x11_1 p122 q122
           have HF122_2 := Aside0.mk hf122_2
           clear hf122_2
           cases e122
           have HR122_2 := Aside0.mk hi122_2
           have HC122_2 := Aside0.mk hl122_2
           clear hi122_2 hl122_2
           replace p122 := eq_true p122
           replace q122 := eq_true q122
           go_wp2_with (first | ((with_reducible refine gd 8 rfl ?_); (try (refine gate_guard (by rfl) ?_; dsimp only)); refine bx 8 #[.string (⟨#[]⟩ : ByteArray), .int .i64 0, .slice none 0 0] 61 rfl rfl ?_; intro gb123 hg w28 hbox hb; have n_ := aC (IsS73.below (by repeat (first | (with_reducible first | exact HI0.out | apply IsS73.alloc | apply IsS73.drewN | apply IsS73.drew | apply IsS73.set_0) | exact HI0.out)) hb) (aC (Kd.C_below (by repeat (first | (with_reducible exact HR122_2.out) | (with_reducible refine Kd.C_alloc ?_ _) | (with_reducible refine Kd.C_drewN ?_ _) | (with_reducible refine Kd.C_drew ?_) | exact HR122_2.out)) hb) (aC (KeepBut.trans (by repeat (first | (with_reducible first | exact HK.out | apply KeepBut.set_ | apply keep_drewN | apply keep_drew | apply keep_alloc) | exact HK.out)) (KeepBut.of_below hb g none) (.inl rfl)) (aC (below_step (by repeat (first | (with_reducible first | exact HB.out | apply below_alloc | apply pw_below_drewN | apply below_drew1 | refine below_set ?_ (IsS73.ge HI0.out)) | exact HB.out)) hb) (aC hbox (aC ((by rw [hg]; exact (keep_size (w := w) (g := g) (row := none) (by repeat (first | (with_reducible first | exact HK.out | apply KeepBut.set_ | apply keep_drewN | apply keep_drew | apply keep_alloc) | exact HK.out))) : w.heap.size ≤ gb123)) (aC ((Nat.le_trans HW0.out (by rw [hg]; exact (keep_size (w := w) (g := g) (row := none) (by repeat (first | (with_reducible first | exact HK.out | apply KeepBut.set_ | apply keep_drewN | apply keep_drew | apply keep_alloc) | exact HK.out))) : w.heap.size ≤ gb123) : w0.heap.size ≤ gb123)) (aC ((by rw [hg]; exact Nat.ne_of_lt (IsS73.lt (show IsS73 w0 _ g x1000_1 from by repeat (first | (with_reducible first | exact HI0.out | apply IsS73.alloc | apply IsS73.drewN | apply IsS73.drew | apply IsS73.set_0) | exact HI0.out))) : g ≠ gb123)) (aE ((by rw [hg]; exact Nat.ne_of_gt (IsS73.lt (show IsS73 w0 _ g x1000_1 from by repeat (first | (with_reducible first | exact HI0.out | apply IsS73.alloc | apply IsS73.drewN | apply IsS73.drew | apply IsS73.set_0) | exact HI0.out))) : gb123 ≠ g)))))))))); clear HI0 HR122_2 HK HB; obtain ⟨HI0, HR122_2, HK, HB, BK123, GW123, GE123, NB0_123, NB123_0⟩ := n_; clear hb hbox hg; have hnb29 := NB123_0.out; have hnc29 := NB0_123.out; obtain ⟨hcz30_0, hcz30_1, hcz30_2, hfz30_0, hfz30_1, hfz30_2⟩ := cz3f BK123.out; obtain ⟨HGz31, hgz31⟩ := HI0.out; have hcz31_0 := cellS73_0 HGz31; have hfz31_0 := blk_frozen HGz31 0; clear HGz31 hgz31))
           go_ret
           exact ⟨re, by repeat (first | (with_reducible first | exact HI0.out | apply IsS73.alloc | apply IsS73.drewN | apply IsS73.drew | apply IsS73.set_0 | apply IsS73.farG NB0_123.out) | exact HI0.out), by repeat (first | (with_reducible first | exact HB.out | apply below_alloc | apply pw_below_drewN | apply below_drew1 | refine below_set ?_ (IsS73.ge HI0.out) | refine below_set ?_ GE123.out) | exact HB.out), by repeat (first | (with_reducible first | exact HK.out | apply KeepBut.set_ | apply keep_drewN | apply keep_drew | apply keep_alloc | refine keep_far ?_ GW123.out _) | exact HK.out)⟩
          ·obtain ⟨⟨t124, t125⟩, A32, H⟩ := oB H
           try dsimp only at H
           by_cases c33 : t124 = true
           ·subst c33
            rw [if_pos rfl] at H
            have H' := Aside0.mk H
            clear H
            have p122 : 0 ≤ (x11_1 : Int) := dt
            have q122 : x11_1 < (l1.length : Int) := dt
            obtain ⟨ad122, A122_2, c122_2, e122, hx122_0, hx122_1, hx122_2, hl122_2, hi122_2, hf122_2⟩ := at_T61f HR1.out HK.out x11_1 p122 q122
            have HF122_2 := Aside0.mk hf122_2
            clear hf122_2
            cases e122
            have HR122_2 := Aside0.mk hi122_2
            have HC122_2 := Aside0.mk hl122_2
            clear hi122_2 hl122_2
            replace p122 := eq_true p122
            replace q122 := eq_true q122
            go_wp2_with (first | ((with_reducible refine gd 8 rfl ?_); (try (refine gate_guard (by rfl) ?_; dsimp only)); refine bx 8 #[.string (⟨#[]⟩ : ByteArray), .int .i64 0, .slice none 0 0] 61 rfl rfl ?_; intro gb123 hg w34 hbox hb; have n_ := aC (IsS73.below (by repeat (first | (with_reducible first | exact HI0.out | apply IsS73.alloc | apply IsS73.drewN | apply IsS73.drew | apply IsS73.set_0) | exact HI0.out)) hb) (aC (Kd.C_below (by repeat (first | (with_reducible exact HR122_2.out) | (with_reducible refine Kd.C_alloc ?_ _) | (with_reducible refine Kd.C_drewN ?_ _) | (with_reducible refine Kd.C_drew ?_) | exact HR122_2.out)) hb) (aC (KeepBut.trans (by repeat (first | (with_reducible first | exact HK.out | apply KeepBut.set_ | apply keep_drewN | apply keep_drew | apply keep_alloc) | exact HK.out)) (KeepBut.of_below hb g none) (.inl rfl)) (aC (below_step (by repeat (first | (with_reducible first | exact HB.out | apply below_alloc | apply pw_below_drewN | apply below_drew1 | refine below_set ?_ (IsS73.ge HI0.out)) | exact HB.out)) hb) (aC hbox (aC ((by rw [hg]; exact (keep_size (w := w) (g := g) (row := none) (by repeat (first | (with_reducible first | exact HK.out | apply KeepBut.set_ | apply keep_drewN | apply keep_drew | apply keep_alloc) | exact HK.out))) : w.heap.size ≤ gb123)) (aC ((Nat.le_trans HW0.out (by rw [hg]; exact (keep_size (w := w) (g := g) (row := none) (by repeat (first | (with_reducible first | exact HK.out | apply KeepBut.set_ | apply keep_drewN | apply keep_drew | apply keep_alloc) | exact HK.out))) : w.heap.size ≤ gb123) : w0.heap.size ≤ gb123)) (aC ((by rw [hg]; exact Nat.ne_of_lt (IsS73.lt (show IsS73 w0 _ g x1000_1 from by repeat (first | (with_reducible first | exact HI0.out | apply IsS73.alloc | apply IsS73.drewN | apply IsS73.drew | apply IsS73.set_0) | exact HI0.out))) : g ≠ gb123)) (aE ((by rw [hg]; exact Nat.ne_of_gt (IsS73.lt (show IsS73 w0 _ g x1000_1 from by repeat (first | (with_reducible first | exact HI0.out | apply IsS73.alloc | apply IsS73.drewN | apply IsS73.drew | apply IsS73.set_0) | exact HI0.out))) : gb123 ≠ g)))))))))); clear HI0 HR122_2 HK HB; obtain ⟨HI0, HR122_2, HK, HB, BK123, GW123, GE123, NB0_123, NB123_0⟩ := n_; clear hb hbox hg; have hnb35 := NB123_0.out; have hnc35 := NB0_123.out; obtain ⟨hcz36_0, hcz36_1, hcz36_2, hfz36_0, hfz36_1, hfz36_2⟩ := cz3f BK123.out; obtain ⟨HGz37, hgz37⟩ := HI0.out; have hcz37_0 := cellS73_0 HGz37; have hfz37_0 := blk_frozen HGz37 0; clear HGz37 hgz37) | (go_at_call 52; (with_reducible refine (ih k1 (by have := HK1.out; omega) g (wrap64 (x1000_1 + 1)) _ _ ((rd_T61 l1 x11_1).f2) (wrap64 (a2 + 1)) true t125 w0 _ ?side1 ?side2 ?side3 ?side4 A32.out).mono ?_); (case side1 => repeat (first | (with_reducible first | exact HI0.out | apply IsS73.alloc | apply IsS73.drewN | apply IsS73.drew | apply IsS73.set_0 | apply IsS73.farG NB0_123.out) | exact HI0.out)); (case side2 => repeat (first | (with_reducible first | exact HB.out | apply below_alloc | apply pw_below_drewN | apply below_drew1 | refine below_set ?_ (IsS73.ge HI0.out) | refine below_set ?_ GE123.out) | exact HB.out)); (case side3 => exact Kd.C_foot_step HF122_2.out (by repeat (first | (with_reducible first | exact HK.out | apply KeepBut.set_ | apply keep_drewN | apply keep_drew | apply keep_alloc | refine keep_far ?_ GW123.out _) | exact HK.out))); (case side4 => exact HC122_2.out); rintro e w38 ⟨rfl, hi, hb, hk⟩; have n_ := aC (KeepBut.blk hk (g' := gb123) (o := .cells #[.string ((rd_T61 l1 x11_1).f0), .int .i64 ((rd_T61 l1 x11_1).f1), .slice A122_2 ((rd_T61 l1 x11_1).f2).length c122_2] 61 (0, 0)) (by (with_reducible repeat (first | refine blk_drewN ?_ _ | refine blk_drew ?_ | refine blk_alloc ?_ _)); refine blk_far ?_ NB123_0.out _; (with_reducible repeat (first | refine blk_drewN ?_ _ | refine blk_drew ?_ | refine blk_alloc ?_ _)); refine blk_put (cs := #[.string ((rd_T61 l1 x11_1).f0), .int .i64 ((rd_T61 l1 x11_1).f1), .slice none 0 0]) ?_ 2 _ rfl; (with_reducible repeat (first | refine blk_drewN ?_ _ | refine blk_drew ?_ | refine blk_alloc ?_ _)); refine blk_put (cs := #[.string ((rd_T61 l1 x11_1).f0), .int .i64 0, .slice none 0 0]) ?_ 1 _ rfl; (with_reducible repeat (first | refine blk_drewN ?_ _ | refine blk_drew ?_ | refine blk_alloc ?_ _)); refine blk_put (cs := #[.string (⟨#[]⟩ : ByteArray), .int .i64 0, .slice none 0 0]) ?_ 0 _ rfl; (with_reducible repeat (first | refine blk_drewN ?_ _ | refine blk_drew ?_ | refine blk_alloc ?_ _)); exact BK123.out) NB123_0.out (by simp)) (aC (KeepBut.trans (by repeat (first | (with_reducible first | exact HK.out | apply KeepBut.set_ | apply keep_drewN | apply keep_drew | apply keep_alloc | refine keep_far ?_ GW123.out _) | exact HK.out)) hk (.inl rfl)) (aC hb (aE hi))); clear BK123 HK HB HI0; obtain ⟨BK123, HK, HB, HI0⟩ := n_))
            go_roundg k1
            case measure => have := HK1.out; omega
            case rel => exact ⟨(wrap64 (x11_1 + 1)), (t125), rq, H', ⟨by have := HK1.out; omega⟩, ⟨by repeat (first | (with_reducible first | exact HI0.out | apply IsS73.alloc | apply IsS73.drewN | apply IsS73.drew | apply IsS73.set_0 | apply IsS73.farG NB0_123.out) | exact HI0.out)⟩, ⟨by repeat (first | (with_reducible first | exact HK.out | apply KeepBut.set_ | apply keep_drewN | apply keep_drew | apply keep_alloc | refine keep_far ?_ GW123.out _) | exact HK.out)⟩, ⟨by repeat (first | (with_reducible first | exact HB.out | apply below_alloc | apply pw_below_drewN | apply below_drew1 | refine below_set ?_ (IsS73.ge HI0.out) | refine below_set ?_ GE123.out) | exact HB.out)⟩⟩
           ·replace c33 := Bool.eq_false_iff.mpr c33
            subst c33
            rw [if_neg Bool.false_ne_true] at H
            simp only [Option.some.injEq, Prod.mk.injEq] at H
            obtain ⟨rfl, rfl⟩ := H
            have p122 : 0 ≤ (x11_1 : Int) := dt
            have q122 : x11_1 < (l1.length : Int) := dt
            obtain ⟨ad122, A122_2, c122_2, e122, hx122_0, hx122_1, hx122_2, hl122_2, hi122_2, hf122_2⟩ := at_T61f HR1.out HK.out x11_1 p122 q122
            have HF122_2 := Aside0.mk hf122_2
            clear hf122_2
            cases e122
            have HR122_2 := Aside0.mk hi122_2
            have HC122_2 := Aside0.mk hl122_2
            clear hi122_2 hl122_2
            replace p122 := eq_true p122
            replace q122 := eq_true q122
            go_wp2_with (first | ((with_reducible refine gd 8 rfl ?_); (try (refine gate_guard (by rfl) ?_; dsimp only)); refine bx 8 #[.string (⟨#[]⟩ : ByteArray), .int .i64 0, .slice none 0 0] 61 rfl rfl ?_; intro gb123 hg w39 hbox hb; have n_ := aC (IsS73.below (by repeat (first | (with_reducible first | exact HI0.out | apply IsS73.alloc | apply IsS73.drewN | apply IsS73.drew | apply IsS73.set_0) | exact HI0.out)) hb) (aC (Kd.C_below (by repeat (first | (with_reducible exact HR122_2.out) | (with_reducible refine Kd.C_alloc ?_ _) | (with_reducible refine Kd.C_drewN ?_ _) | (with_reducible refine Kd.C_drew ?_) | exact HR122_2.out)) hb) (aC (KeepBut.trans (by repeat (first | (with_reducible first | exact HK.out | apply KeepBut.set_ | apply keep_drewN | apply keep_drew | apply keep_alloc) | exact HK.out)) (KeepBut.of_below hb g none) (.inl rfl)) (aC (below_step (by repeat (first | (with_reducible first | exact HB.out | apply below_alloc | apply pw_below_drewN | apply below_drew1 | refine below_set ?_ (IsS73.ge HI0.out)) | exact HB.out)) hb) (aC hbox (aC ((by rw [hg]; exact (keep_size (w := w) (g := g) (row := none) (by repeat (first | (with_reducible first | exact HK.out | apply KeepBut.set_ | apply keep_drewN | apply keep_drew | apply keep_alloc) | exact HK.out))) : w.heap.size ≤ gb123)) (aC ((Nat.le_trans HW0.out (by rw [hg]; exact (keep_size (w := w) (g := g) (row := none) (by repeat (first | (with_reducible first | exact HK.out | apply KeepBut.set_ | apply keep_drewN | apply keep_drew | apply keep_alloc) | exact HK.out))) : w.heap.size ≤ gb123) : w0.heap.size ≤ gb123)) (aC ((by rw [hg]; exact Nat.ne_of_lt (IsS73.lt (show IsS73 w0 _ g x1000_1 from by repeat (first | (with_reducible first | exact HI0.out | apply IsS73.alloc | apply IsS73.drewN | apply IsS73.drew | apply IsS73.set_0) | exact HI0.out))) : g ≠ gb123)) (aE ((by rw [hg]; exact Nat.ne_of_gt (IsS73.lt (show IsS73 w0 _ g x1000_1 from by repeat (first | (with_reducible first | exact HI0.out | apply IsS73.alloc | apply IsS73.drewN | apply IsS73.drew | apply IsS73.set_0) | exact HI0.out))) : gb123 ≠ g)))))))))); clear HI0 HR122_2 HK HB; obtain ⟨HI0, HR122_2, HK, HB, BK123, GW123, GE123, NB0_123, NB123_0⟩ := n_; clear hb hbox hg; have hnb40 := NB123_0.out; have hnc40 := NB0_123.out; obtain ⟨hcz41_0, hcz41_1, hcz41_2, hfz41_0, hfz41_1, hfz41_2⟩ := cz3f BK123.out; obtain ⟨HGz42, hgz42⟩ := HI0.out; have hcz42_0 := cellS73_0 HGz42; have hfz42_0 := blk_frozen HGz42 0; clear HGz42 hgz42) | (go_at_call 52; (with_reducible refine (ih k1 (by have := HK1.out; omega) g (wrap64 (x1000_1 + 1)) _ _ ((rd_T61 l1 x11_1).f2) (wrap64 (a2 + 1)) false t125 w0 _ ?side1 ?side2 ?side3 ?side4 A32.out).mono ?_); (case side1 => repeat (first | (with_reducible first | exact HI0.out | apply IsS73.alloc | apply IsS73.drewN | apply IsS73.drew | apply IsS73.set_0 | apply IsS73.farG NB0_123.out) | exact HI0.out)); (case side2 => repeat (first | (with_reducible first | exact HB.out | apply below_alloc | apply pw_below_drewN | apply below_drew1 | refine below_set ?_ (IsS73.ge HI0.out) | refine below_set ?_ GE123.out) | exact HB.out)); (case side3 => exact Kd.C_foot_step HF122_2.out (by repeat (first | (with_reducible first | exact HK.out | apply KeepBut.set_ | apply keep_drewN | apply keep_drew | apply keep_alloc | refine keep_far ?_ GW123.out _) | exact HK.out))); (case side4 => exact HC122_2.out); rintro e w43 ⟨rfl, hi, hb, hk⟩; have n_ := aC (KeepBut.blk hk (g' := gb123) (o := .cells #[.string ((rd_T61 l1 x11_1).f0), .int .i64 ((rd_T61 l1 x11_1).f1), .slice A122_2 ((rd_T61 l1 x11_1).f2).length c122_2] 61 (0, 0)) (by (with_reducible repeat (first | refine blk_drewN ?_ _ | refine blk_drew ?_ | refine blk_alloc ?_ _)); refine blk_far ?_ NB123_0.out _; (with_reducible repeat (first | refine blk_drewN ?_ _ | refine blk_drew ?_ | refine blk_alloc ?_ _)); refine blk_put (cs := #[.string ((rd_T61 l1 x11_1).f0), .int .i64 ((rd_T61 l1 x11_1).f1), .slice none 0 0]) ?_ 2 _ rfl; (with_reducible repeat (first | refine blk_drewN ?_ _ | refine blk_drew ?_ | refine blk_alloc ?_ _)); refine blk_put (cs := #[.string ((rd_T61 l1 x11_1).f0), .int .i64 0, .slice none 0 0]) ?_ 1 _ rfl; (with_reducible repeat (first | refine blk_drewN ?_ _ | refine blk_drew ?_ | refine blk_alloc ?_ _)); refine blk_put (cs := #[.string (⟨#[]⟩ : ByteArray), .int .i64 0, .slice none 0 0]) ?_ 0 _ rfl; (with_reducible repeat (first | refine blk_drewN ?_ _ | refine blk_drew ?_ | refine blk_alloc ?_ _)); exact BK123.out) NB123_0.out (by simp)) (aC (KeepBut.trans (by repeat (first | (with_reducible first | exact HK.out | apply KeepBut.set_ | apply keep_drewN | apply keep_drew | apply keep_alloc | refine keep_far ?_ GW123.out _) | exact HK.out)) hk (.inl rfl)) (aC hb (aE hi))); clear BK123 HK HB HI0; obtain ⟨BK123, HK, HB, HI0⟩ := n_))
            go_ret
            exact ⟨re, by repeat (first | (with_reducible first | exact HI0.out | apply IsS73.alloc | apply IsS73.drewN | apply IsS73.drew | apply IsS73.set_0 | apply IsS73.farG NB0_123.out) | exact HI0.out), by repeat (first | (with_reducible first | exact HB.out | apply below_alloc | apply pw_below_drewN | apply below_drew1 | refine below_set ?_ (IsS73.ge HI0.out) | refine below_set ?_ GE123.out) | exact HB.out), by repeat (first | (with_reducible first | exact HK.out | apply KeepBut.set_ | apply keep_drewN | apply keep_drew | apply keep_alloc | refine keep_far ?_ GW123.out _) | exact HK.out)⟩
     ·rw [if_neg c6] at H
      exact absurd H (by simp)
    ·rw [if_neg c5] at H
     exact absurd H (by simp)
   ·simp only [Option.some.injEq, Prod.mk.injEq] at H
    obtain ⟨rfl, rfl⟩ := H
    go_wp2
    go_ret
    exact ⟨re, by repeat (first | (with_reducible first | exact HI0.out | apply IsS73.alloc | apply IsS73.drewN | apply IsS73.drew | apply IsS73.set_0) | exact HI0.out), by repeat (first | (with_reducible first | exact HB.out | apply below_alloc | apply pw_below_drewN | apply below_drew1 | refine below_set ?_ (IsS73.ge HI0.out)) | exact HB.out), by repeat (first | (with_reducible first | exact HK.out | apply KeepBut.set_ | apply keep_drewN | apply keep_drew | apply keep_alloc) | exact HK.out)⟩
def note_ValidOutlines.f (k : Nat) (l0 : List (S61)) : Option Bool := (note_looks_outlines.f k 0 l0 1).bind fun t => some t.1
theorem note_ValidOutlines.mono : ∀ a0 k, LeO (note_ValidOutlines.f k a0) (note_ValidOutlines.f (k + 1) a0) := by
 intro a0 k
 unfold note_ValidOutlines.f
 exact LeO.bind (note_looks_outlines.mono _ _ _ k) (fun _ => LeO.refl _)
set_option maxHeartbeats 8000000 in
set_option maxRecDepth 100000 in
theorem note_ValidOutlines.calls (k : Nat) (A0 : Option Addr) (c0 : Nat) (l0 : List (S61)) (r : Bool) (w : World) (hr0 : Kd.C k61 w A0 l0.length l0) (hc0 : l0.length ≤ c0) (h : note_ValidOutlines.f k l0 = some r) :
  Calls Tryd.prog 27 #[.slice A0 l0.length c0] w fun e w' => e = .returned (.bool r) ∧ Below w.heap.size w w' := by
 have hu73 := Tryd.underlying73
 unfold note_ValidOutlines.f at h
 obtain ⟨⟨b, m⟩, A1, h⟩ := oB h
 obtain rfl := Option.some.inj h
 have HR0 := Aside0.mk hr0
 have HC0 := Aside0.mk hc0
 clear hr0 hc0 h
 have HB := Aside0.mk (Below.refl w.heap.size w)
 go_enter Tryd.func27, Tryd.ntmps27
 go_wp2_with (first | ((with_reducible refine gd 4 rfl ?_); refine bx 4 #[.int .i64 0] 73 rfl rfl ?_; intro gs hg_ w2 hbox hb; have n_ := aC (gz hg_) (aC (bs hb) (aE hbox)); clear HB; obtain ⟨GE, HB, BS⟩ := n_; clear hb hbox hg_) | (refine gF 52 6 Tryd.func52 #[.pointer (some ⟨gs, 0, none⟩), .slice A0 l0.length c0, .int .i64 1] rfl rfl ?_; refine (note_looks_outlines.calls k gs 0 _ _ l0 1 b m w _ ⟨BS.out, GE.out⟩ HB.out (Kd.C_foot_came k61_heap HR0.out HB.out GE.out) HC0.out A1.out).mono ?_; rintro e w3 ⟨rfl, hi, hb, hk⟩; refine ⟨_, rfl, ?_⟩; clear HB BS; have HB := aE hb; clear hb hi hk))
 go_ret
 exact ⟨re, HB.out⟩
mutual
def bits_Size.j0 : Nat → Int → Bool → Option (List Int × Int)
 | 0, _, _ => none
 | k + 1, x0, x10 => if x10 = true then (some (([] : List Int), 2)) else (bits_Size.l0 k (wrap64 (Int.tdiv x0 128)) (([(Int.tmod x0 128) % 256] : List Int)))
def bits_Size.l0 : Nat → Int → List Int → Option (List Int × Int)
 | 0, _, _ => none
 | k + 1, x0, x4 => if x0 > 0 then ((some (([(((Int.tmod x0 128) % 256) + 128) % 256] : List Int) : List Int)).bind fun y129 => (if y129.length + x4.length < 140737488355328 then (bits_Size.l0 k (wrap64 (Int.tdiv x0 128)) (y129 ++ x4)) else (none))) else (some (x4, 0))
end
def bits_Size.f (k : Nat) (a0 : Int) : Option (List Int × Int) := if a0 < 0 then (bits_Size.j0 k a0 true) else (bits_Size.j0 k a0 (decide (a0 > 2147483647)))
theorem bits_Size.mono_l : ∀ k, (∀ y0 y1, LeO (bits_Size.j0 k y0 y1) (bits_Size.j0 (k + 1) y0 y1)) ∧ (∀ y0 y1, LeO (bits_Size.l0 k y0 y1) (bits_Size.l0 (k + 1) y0 y1))
 | 0 => ⟨fun _ _ r h => by simp [bits_Size.j0] at h, fun _ _ r h => by simp [bits_Size.l0] at h⟩
 | k + 1 => by
  obtain ⟨ih0, ih1⟩ := bits_Size.mono_l k
  refine ⟨?_, ?_⟩
  ·intro y0 y1
   unfold bits_Size.j0
   repeat' first
   | (with_reducible exact ih0 _ _)
   | (with_reducible exact ih1 _ _)
   | (with_reducible first | exact LeO.refl _ | exact LeO.none _ | refine LeO.ite ?_ ?_ | refine LeO.bind ?_ (fun _ => ?_))
  ·intro y0 y1
   unfold bits_Size.l0
   repeat' first
   | (with_reducible exact ih0 _ _)
   | (with_reducible exact ih1 _ _)
   | (with_reducible first | exact LeO.refl _ | exact LeO.none _ | refine LeO.ite ?_ ?_ | refine LeO.bind ?_ (fun _ => ?_))
theorem bits_Size.mono : ∀ a0 k, LeO (bits_Size.f k a0) (bits_Size.f (k + 1) a0) := by
 intro a0 k
 obtain ⟨ih0, ih1⟩ := bits_Size.mono_l k
 unfold bits_Size.f
 repeat' first
   | (with_reducible exact ih0 _ _)
   | (with_reducible exact ih1 _ _)
   | (with_reducible first | exact LeO.refl _ | exact LeO.none _ | refine LeO.ite ?_ ?_ | refine LeO.bind ?_ (fun _ => ?_))
set_option maxHeartbeats 8000000 in
set_option maxRecDepth 100000 in
theorem bits_Size.calls (k : Nat) (a0 : Int) (r1 : List Int) (r2 : Int) (w : World) (h : bits_Size.f k a0 = some (r1, r2)) :
  Calls Tryd.prog 90 #[.int .i64 a0] w fun e w' => ∃ v0_ : Value, e = .returned (.tuple #[v0_, .int .i64 r2]) ∧ Kd.R (Kd.int .u8) 5 w' w.heap.size (fun _ => True) v0_ r1 ∧ Below w.heap.size w w' := by
 have HB := Aside0.mk (Below.refl w.heap.size w)
 have H : (if a0 < 0 then (bits_Size.j0 k a0 true) else (bits_Size.j0 k a0 (decide (a0 > 2147483647)))) = some (r1, r2) := h
 clear h
 have HC2 := Aside0.mk H
 clear H
 go_enter Tryd.func90, Tryd.ntmps90
 go_upto_region 1 with (fail)
 go_cut [10] (fun v10 wc => ∃ (kq : Nat) (x10_1 : Bool), v10 = .bool x10_1 ∧ Aside0 (bits_Size.j0 kq a0 x10_1 = some (r1, r2)) ∧ Aside0 (kq ≤ k) ∧ Aside0 (Below w.heap.size w wc))
 case first =>
  have H := HC2.out
  clear HC2
  rcases iL H with H1 | H1 <;> clear H <;> obtain ⟨H, c3b0⟩ := H1
  ·(first | rw [c3b0] | (simp only [i64_w, i32_w]; rw [c3b0]) | skip)
   have H' := Aside0.mk H
   clear H
   go_wp2
   go_meet
   case rel => exact ⟨_, (true), rq, H', ⟨by first | omega | exact Nat.le_refl _⟩, ⟨bl⟩⟩
  ·(first | rw [c3b0] | (simp only [i64_w, i32_w]; rw [c3b0]) | skip)
   have H' := Aside0.mk H
   clear H
   go_wp2
   go_meet
   case rel => exact ⟨_, (decide (a0 > 2147483647)), rq, H', ⟨by first | omega | exact Nat.le_refl _⟩, ⟨bl⟩⟩
 case rest =>
  clear HC2
  obtain ⟨kq, x10_1, rfl, HA, HJ1, HB⟩ := hcut
  cases kq with
  | zero => exact absurd HA.out (by simp [bits_Size.j0])
  | succ kj1 =>
   have H := HA.out
   clear HA
   simp only [bits_Size.j0] at H
   by_cases c4 : x10_1 = true
   ·subst c4
    rw [if_pos rfl] at H
    simp only [Option.some.injEq, Prod.mk.injEq] at H
    obtain ⟨rfl, rfl⟩ := H
    go_wp2
    go_ret2
    exact ⟨_, re, by first | exact Kd.R_nil _ _ _ _ _ | exact Kd.N_nil _ _ _ _ _ | exact Kd.V_nil _ _ _ _ _ | exact Kd.Q_nil _ _ _ _ _ | exact Kd.S_nil _ _ _ _ _, bl⟩
   ·replace c4 := Bool.eq_false_iff.mpr c4
    subst c4
    rw [if_neg Bool.false_ne_true] at H
    obtain ⟨y126, hy_⟩ : ∃ y_ : List Int, y_ = (([(Int.tmod a0 128) % 256] : List Int)) := ⟨_, rfl⟩
    replace H : (bits_Size.l0 kj1 (wrap64 (Int.tdiv a0 128)) y126) = some (r1, r2) := rh
    have Ny126 := aE hy_
    clear hy_
    have H' := Aside0.mk H
    clear H
    go_wp2_with (first | ((with_reducible refine gd 14 rfl ?_); refine Kd.R_lit (Kd.int .u8) _ 5 ?hg (N := 14) ?hd (xs := ([(Int.tmod a0 128) % 256] : List Int)) (inner := [.int .u8 ((Int.tmod a0 128) % 256)]) (ok := fun _ => True) (okp := fun _ => True) ?hr ?hp (fun _ hk => hk) trivial (Below.refl _ _) (Nat.le_refl _) (by simp) ?_; (case hd => rfl); (case hg => rfl); (case hr => first | (go_simp; done) | (go_simp; rfl)); (case hp => exact (Reps.one (show Kd.M (Kd.int .u8) _ _ _ ((Int.tmod a0 128) % 256) [.int .u8 ((Int.tmod a0 128) % 256)] from rfl) (Reps.none _ _))); intro v127 w5 ho6 hb hg_ hnew_; clear hg_ hnew_; (first | rw [← Ny126.out] at ho6 | (simp only [Int.reduceToNat] at ho6; rw [← Ny126.out] at ho6)); have n_ := aC (Kd.R_lower ho6 bz) (aE (bs hb)); clear HB; obtain ⟨HO128, HB⟩ := n_; clear hb ho6))
    go_loopg [0, 4] kj1 (fun kq v0 v4 w' => ∃ (x0_2 : Int) (x4_2 : List Int), v0 = .int .i64 x0_2 ∧ Aside0 (bits_Size.l0 kq x0_2 x4_2 = some (r1, r2)) ∧ Aside0 (kq ≤ kj1) ∧ Aside0 (Kd.R (Kd.int .u8) 5 w' w.heap.size (fun _ => True) v4 x4_2) ∧ Aside0 (Below w.heap.size w w'))
    case atStart => exact ⟨(wrap64 (Int.tdiv a0 128)), (y126), rq, H', ⟨Nat.le_refl _⟩, ⟨rU HO128.out⟩, ⟨bl⟩⟩
    case round =>
     clear H'
     obtain ⟨x0_2, x4_2, rfl, HA, HK2, HO_4, HB⟩ := hrel
     cases gk with
     | zero => exact absurd HA.out (by simp [bits_Size.l0])
     | succ k2 =>
      have H := HA.out
      clear HA
      simp only [bits_Size.l0] at H
      rcases iL H with H1 | H1 <;> clear H <;> obtain ⟨H, c7b0⟩ := H1
      ·obtain ⟨y129, hy_⟩ : ∃ y_ : List Int, y_ = (([(((Int.tmod x0_2 128) % 256) + 128) % 256] : List Int)) := ⟨_, rfl⟩
       replace H : (if y129.length + x4_2.length < 140737488355328 then (bits_Size.l0 k2 (wrap64 (Int.tdiv x0_2 128)) (y129 ++ x4_2)) else (none)) = some (r1, r2) := rh
       have Ny129 := aE hy_
       clear hy_
       by_cases c8 : y129.length + x4_2.length < 140737488355328
       ·rw [if_pos c8] at H
        have LMc8 := Aside0.mk c8
        clear c8
        obtain ⟨y132, hy_⟩ : ∃ y_ : List Int, y_ = (y129 ++ x4_2) := ⟨_, rfl⟩
        replace H : (bits_Size.l0 k2 (wrap64 (Int.tdiv x0_2 128)) y132) = some (r1, r2) := rh
        have Ny132 := aE hy_
        clear hy_
        have H' := Aside0.mk H
        clear H
        go_wp2_with (first | ((with_reducible refine gd 25 rfl ?_); refine Kd.R_lit (Kd.int .u8) _ 5 ?hg (N := 25) ?hd (xs := ([(((Int.tmod x0_2 128) % 256) + 128) % 256] : List Int)) (inner := [.int .u8 ((((Int.tmod x0_2 128) % 256) + 128) % 256)]) (ok := fun _ => True) (okp := fun _ => True) ?hr ?hp (fun _ hk => hk) trivial (Below.refl _ _) (Nat.le_refl _) (by simp) ?_; (case hd => rfl); (case hg => rfl); (case hr => first | (go_simp; done) | (go_simp; rfl)); (case hp => exact (Reps.one (show Kd.M (Kd.int .u8) _ _ _ ((((Int.tmod x0_2 128) % 256) + 128) % 256) [.int .u8 ((((Int.tmod x0_2 128) % 256) + 128) % 256)] from rfl) (Reps.none _ _))); intro v130 w9 ho10 hb hg_ hnew_; clear hg_ hnew_; (first | rw [← Ny129.out] at ho10 | (simp only [Int.reduceToNat] at ho10; rw [← Ny129.out] at ho10)); have n_ := aC (Kd.R_elder' (rU HO_4.out) (Kd.R_base ho10) hb) (aC (Kd.R_lower (Kd.R_new' ho10 (Kd.R_lt (rU HO_4.out))) bz) (aE (bs hb))); clear HO_4 HB; obtain ⟨HO_4, HO131, HB⟩ := n_; clear hb ho10; obtain ⟨Ao12, co12, eo12⟩ := Kd.R_slice HO_4.out; subst eo12) | ((with_reducible refine gate_builtin (b := .append) (xs := #[.tmp 25, .tmp 26]) rfl ?_); at_builtin; refine Kd.R_append_rows (Kd.int .u8) (w0 := w) w.heap.size rfl (.tmp 25) (.tmp 26) 44 5 (.int .u8 0) 1 rfl Tryd.underlying44 info5 rfl (by decide) (by omega) v130 y129 x4_2 _ _ _ (fun k_ => some k_ ≠ (.slice Ao12 x4_2.length co12 : Value).ownBlock) (fun _ => False) rfl rfl ?aO ?aR (fun _ _ h => h) (fun _ h => h.elim) ?aF ?aB ?aS ?aL ?_; (case aR => repeat (first | exact (Kd.R_reads' HO_4.out).2.2 | (with_reducible refine Kd.C_alloc ?_ _) | (with_reducible refine Kd.C_drewN ?_ _) | (with_reducible refine Kd.C_drew ?_))); (case aB => exact bl); (case aF => exact (fun k_ hk => Kd.fresh' (Kd.R_lt (rU HO_4.out)) k_ hk)); (case aO => exact (rU (Kd.R_mono HO131.out (fun _ hk => hk.2)))); (case aS => exact bz); (case aL => have := LMc8.out; omega); intro v133 w11 ho hb hg hat; rw [← Ny132.out] at ho; have n_ := aC (Kd.R_after (ok := (fun _ => True)) (rU HO_4.out) hg hat) (aC hb (aE ho)); clear HO_4 HB HO131; obtain ⟨HO_4, HB, HO134⟩ := n_; clear ho hb hg hat))
        go_roundg k2
        case measure => have := HJ1.out; have := HK2.out; omega
        case rel => exact ⟨(wrap64 (Int.tdiv x0_2 128)), (y132), rq, H', ⟨by have := HJ1.out; have := HK2.out; omega⟩, ⟨rU (Kd.R_mono HO134.out (fun _ hk => trivial))⟩, ⟨bl⟩⟩
       ·rw [if_neg c8] at H
        exact absurd H (by simp)
      ·simp only [Option.some.injEq, Prod.mk.injEq] at H
       obtain ⟨rfl, rfl⟩ := H
       go_wp2
       go_ret2
       exact ⟨_, re, rU HO_4.out, bl⟩
def note_size.f (k : Nat) (a0 : Int) : Option (List Int) := (bits_Size.f k a0).bind fun bt135 => (some bt135.1)
theorem note_size.mono : ∀ a0 k, LeO (note_size.f k a0) (note_size.f (k + 1) a0) := by
 intro a0 k
 unfold note_size.f
 repeat' first
   | (with_reducible exact bits_Size.mono _ _)
   | (with_reducible first | exact LeO.refl _ | exact LeO.none _ | refine LeO.ite ?_ ?_ | refine LeO.bind ?_ (fun _ => ?_))
set_option maxHeartbeats 8000000 in
set_option maxRecDepth 100000 in
theorem note_size.calls (k : Nat) (a0 : Int) (r : List Int) (w : World) (h : note_size.f k a0 = some r) :
  Calls Tryd.prog 71 #[.int .i64 a0] w fun e w' => ∃ v0_ : Value, e = .returned (v0_) ∧ Kd.R (Kd.int .u8) 5 w' w.heap.size (fun _ => True) v0_ r ∧ Below w.heap.size w w' := by
 have HB := Aside0.mk (Below.refl w.heap.size w)
 have H : ((bits_Size.f k a0).bind fun bt135 => (some bt135.1)) = some r := h
 clear h
 obtain ⟨⟨t135, t136⟩, A2, H⟩ := oB H
 try dsimp only at H
 obtain rfl := Option.some.inj H
 go_enter Tryd.func71, Tryd.ntmps71
 go_wp2_with (first | (refine gF 90 7 Tryd.func90 #[.int .i64 a0] rfl rfl ?_; (with_reducible refine (bits_Size.calls k a0 t135 t136 _ A2.out).mono ?_); rintro e w3 ⟨v137, rfl, ho0, hb⟩; refine ⟨_, rfl, ?_⟩; have n_ := aC (Kd.R_lower ho0 bz) (aE (bs hb)); clear HB; obtain ⟨HO138, HB⟩ := n_))
 go_ret
 exact ⟨_, re, rU HO138.out, bl⟩
theorem own_lt {α : Type} {d : Kd α} {e : Nat} {w : World} {base : Nat} {ok : Nat → Prop} {v : Value} {xs : List α} (h : d.R e w base ok v xs) : ∀ b, v.ownBlock = some b → b < w.heap.size := fun b hb => ((Kd.R_bound h).1 b hb).2.2.1
theorem own_ne {gb n : Nat} {v : Value} (h : ∀ b, v.ownBlock = some b → b < n) (hg : gb = n) : some gb ≠ v.ownBlock := fun e => absurd (h gb e.symm) (by omega)
theorem fill3 {b : Nat} {W W1 : World} {c0 c1 c2 : Value} {t : TypeId} (hb : W1.heap[b]? = some (.cells #[c0, c1, c2] t (0, 0))) (hB : Below W.heap.size W W1) (hg : b = W.heap.size) (u0 u1 u2 : Value) :
  Below W.heap.size W (((W1.setCell ⟨b, 0, none⟩ u0).setCell ⟨b, 1, none⟩ u1).setCell ⟨b, 2, none⟩ u2) ∧ (((W1.setCell ⟨b, 0, none⟩ u0).setCell ⟨b, 1, none⟩ u1).setCell ⟨b, 2, none⟩ u2).heap[b]? = some (.cells #[u0, u1, u2] t (0, 0)) := by
 have b1 := blk_put (cs := #[c0, c1, c2]) hb 0 u0 rfl
 have b2 := blk_put (cs := #[u0, c1, c2]) b1 1 u1 rfl
 have hg' : W.heap.size ≤ b := Nat.le_of_eq hg.symm
 exact ⟨below_set (below_set (below_set hB hg') hg') hg', blk_put (cs := #[u0, u1, c2]) b2 2 u2 rfl⟩
theorem infoO : (Tryd.prog.info? 61).map (fun i => (i.zero, i.size, i.bytes)) = some (some (.agg #[(.string ⟨#[]⟩), (.int .i64 0), (.slice none 0 0)]), 3, 48) := by kernel_rfl
theorem infoI : (Tryd.prog.info? 3).map (fun i => (i.zero, i.size, i.bytes)) = some (some (.int .i64 0), 1, 8) := by kernel_rfl
theorem infoU : (Tryd.prog.info? 5).map (fun i => (i.zero, i.size, i.bytes)) = some (some (.int .u8 0), 1, 1) := by kernel_rfl
def renGrow : Go.Shelf.Ren := ⟨fun n => match n with | 4 => 91 | n => n, fun n => match n with | 0 => 0 | 3 => 3 | 4 => 4 | 9 => 9 | 20 => 20 | 22 => 44 | 25 => 5 | n => n, fun n => n⟩
set_option maxRecDepth 1000000 in
set_option maxHeartbeats 4000000 in
theorem laysGrow : Lays8.n4 Tryd.prog renGrow := by
 constructor
 case f4 => exact ⟨"slices.Grow[[]byte,byte]", by decide, by kernel_rfl⟩
 all_goals first | kernel_rfl | (intro w; kernel_rfl) | (intro w; rfl)
theorem grow_calls (n : Int) (h0 : 0 ≤ n) (h1 : n ≤ 140737488355328) (w0 w : World) (hB : Below w0.heap.size w0 w) :
  Calls Tryd.prog 91 #[.slice none 0 0, .int .i64 n] w fun e w' => ∃ v, e = .returned v ∧ Kd.R (Kd.int .u8) 5 w' w0.heap.size (fun _ => True) v [] ∧ Below w.heap.size w w' := by
 obtain ⟨m, rfl⟩ : ∃ m : Nat, n = m := ⟨n.toNat, by omega⟩
 by_cases hm : m = 0
 ·subst hm
  refine (Any8.slices_Grow_room laysGrow none 0 0 0 w (Nat.le_refl _) (by omega) (by omega) (Nat.le_refl _)).mono ?_
  rintro e w' ⟨rfl, rfl⟩
  exact ⟨_, rfl, Kd.R_nil _ _ _ _ _, Below.refl _ _⟩
 ·obtain ⟨i0, hi, hz⟩ := Option.map_eq_some_iff.1 infoU
  simp only [Prod.mk.injEq] at hz
  obtain ⟨z0, z1, z2⟩ := hz
  refine (Any8.slices_Grow_grow laysGrow i0 (.int .u8 0) hi z0 (by omega) none 0 0 m [] w (Nat.le_refl _) (by omega) (by rw [z2]; omega) (by omega) (by simp) (fun _ => rfl) (fun a h => by cases h)).mono ?_
  rintro e w' ⟨rfl, rfl⟩
  refine ⟨_, rfl, ⟨fun _ _ => trivial, [], ⟨by simp, .inr ⟨w.heap.size, _, _, rfl, hB.size, blk_new w.drew _, Nat.zero_le _, ?_, ?_, by simp⟩⟩, ?_⟩, ?_⟩
  ·exact grownCap_le_maxLen _ _ _ _ (by unfold maxLen; omega)
  ·have hg := grownCap_ge w (0 + m) 0 (renGrow.t 25)
   have e1 : (Value.int .u8 0).cells.size = 1 := rfl
   have e2 : (Kd.int .u8).sz = 1 := rfl
   simp only [Array.size_append, size_zeroCells, e1, e2, Nat.zero_add] at hg ⊢
   simp
   omega
  ·exact Reps.none _ _
  ·exact below_alloc (below_drew1 (Below.refl _ _)) _
theorem at_BB {w : World} {A : Option Addr} {n : Nat} {xs : List (List Int)} (h : Kd.C (Kd.slice 5 (Kd.int .u8)) w A n xs) (i : Int) (h0 : 0 ≤ i) (h1 : i < n) : ∃ ad A0 c0, A = some ad ∧ w.cell? (ad.add i.toNat) = some (.slice A0 (xs.getD i.toNat []).length c0) ∧ (xs.getD i.toNat []).length ≤ c0 ∧ Kd.C (Kd.int .u8) w A0 (xs.getD i.toNat []).length (xs.getD i.toNat []) := by
 obtain ⟨ad, c, e, _, hK, hc0⟩ := Kd.C_get h [] i h0 h1
 have hc : ∀ j u, c[j]? = some u → w.cell? (ad.add (i.toNat * 1 + j)) = some u := hc0
 obtain ⟨A0, c0, rfl, l0, g0⟩ := hK
 exact ⟨ad, A0, c0, e, by have hq := hc 0 _ rfl; rwa [Nat.mul_one, Nat.add_zero] at hq, l0, g0⟩
def tot (L : List (List Int)) (i : Nat) : Nat := (L.take i).flatten.length
theorem tot_succ (L : List (List Int)) (i : Nat) (h : i < L.length) : tot L (i + 1) = tot L i + (L.getD i []).length := by
 unfold tot
 rw [List.take_succ_eq_append_getElem h, List.flatten_append, List.length_append]
 simp [List.getD, List.getElem?_eq_getElem h]
theorem tot_le (L : List (List Int)) (i : Nat) : tot L i ≤ L.flatten.length := by
 unfold tot
 have h : (L.take i ++ L.drop i).flatten.length = (L.take i).flatten.length + (L.drop i).flatten.length := by rw [List.flatten_append, List.length_append]
 rw [List.take_append_drop] at h
 omega
set_option maxHeartbeats 8000000 in
set_option maxRecDepth 100000 in
theorem concat_calls (A0 : Option Addr) (c0 : Nat) (L : List (List Int)) (w : World) (hr : Kd.C (Kd.slice 5 (Kd.int .u8)) w A0 L.length L) (hc : L.length ≤ c0) (hs : L.flatten.length ≤ 140737488355328) (hL : L.length ≤ 9223372036854775807) :
  Calls Tryd.prog 72 #[.slice A0 L.length c0] w fun e w' => ∃ v, e = .returned v ∧ Kd.R (Kd.int .u8) 5 w' w.heap.size (fun _ => True) v L.flatten ∧ Below w.heap.size w w' := by
 have HR0 := Aside0.mk hr
 have HS := Aside0.mk hs
 have HL := Aside0.mk hL
 clear hr hs hL hc
 have HB := Aside0.mk (Below.refl w.heap.size w)
 go_enter Tryd.func72, Tryd.ntmps72
 go_wp2
 go_loopg [3, 11] L.length (fun kq v3 v11 w' => ∃ (i : Nat), Aside0 (i + kq = L.length) ∧ v3 = .int .i64 (tot L i : Int) ∧ v11 = .int .i64 (i : Int) ∧ Aside0 (Below w.heap.size w w'))
 case atStart => exact ⟨0, ⟨by omega⟩, rq, rq, HB⟩
 case round =>
  clear HB
  obtain ⟨i, HI, rfl, rfl, HB⟩ := hrel
  cases gk with
  | zero =>
   have hi : i = L.length := by have := HI.out; omega
   subst hi
   have t0 : decide ((L.length : Int) < (L.length : Int)) = false := by simp
   have T := Aside0.mk (tot_le L L.length)
   go_wp2_with (first | (refine gF 91 24 Tryd.func91 #[.slice none 0 0, .int .i64 (tot L L.length : Int)] rfl rfl ?_; refine (grow_calls (tot L L.length : Int) (by omega) (by have := T.out; have := HS.out; omega) w _ HB.out).mono ?_; rintro e w2 ⟨v6, rfl, ho, hb⟩; refine ⟨_, rfl, ?_⟩; have n_ := aC ho (aE (below_step HB.out hb)); clear HB; obtain ⟨HO, HB⟩ := n_; clear ho hb))
   clear t0 T HI
   go_loopg [6, 27] L.length (fun kq v6 v27 w' => ∃ (i : Nat), Aside0 (i + kq = L.length) ∧ v27 = .int .i64 (i : Int) ∧ Aside0 (Kd.R (Kd.int .u8) 5 w' w.heap.size (fun _ => True) v6 (L.take i).flatten) ∧ Aside0 (Below w.heap.size w w'))
   case atStart => exact ⟨0, ⟨by omega⟩, rq, HO, HB⟩
   case round =>
    clear HB HO
    obtain ⟨i, HI, rfl, HO, HB⟩ := hrel
    cases gk with
    | zero =>
     have hi : i = L.length := by have := HI.out; omega
     subst hi
     have t0 : decide ((L.length : Int) < (L.length : Int)) = false := by simp
     go_wp2
     go_ret
     exact ⟨_, re, by have h := HO.out; rwa [List.take_length] at h, HB.out⟩
    | succ k1 =>
     have hi : i < L.length := by have := HI.out; omega
     have t0 : decide ((i : Int) < (L.length : Int)) = true := decide_eq_true (by omega)
     obtain ⟨ad, A1, c1, e1, x0, hl, hC⟩ := at_BB HR0.out (i : Int) (by omega) (by omega)
     simp only [Int.toNat_natCast] at x0 hl hC
     replace x0 := hcB HB.out x0
     have ts := tot_succ L i hi
     have tf : (L.take (i + 1)).flatten = (L.take i).flatten ++ L.getD i [] := by
      rw [List.take_succ_eq_append_getElem hi, List.flatten_append]
      simp [List.getD, List.getElem?_eq_getElem hi]
     generalize el : L.getD i [] = l at x0 ts hl hC tf
     clear el
     have tl := tot_le L (i + 1)
     have LM := Aside0.mk (show ((L.take i).flatten.length + l.length) * 1 ≤ 140737488355328 by have h1 := HS.out; have h2 : tot L i = (L.take i).flatten.length := rfl; omega)
     have HC := Aside0.mk hC
     have TF := Aside0.mk tf
     have p1 : (0 ≤ (i : Int)) = True := eq_true (by omega)
     have p2 : ((i : Int) < (L.length : Int)) = True := eq_true (by omega)
     clear ts tl hl hC tf
     cases e1
     go_wp2_with (first | ((with_reducible refine gate_builtin (b := .append) (xs := #[.tmp 31, .tmp 32]) rfl ?_); at_builtin; refine Kd.R_append_rows (Kd.int .u8) (w0 := w) w.heap.size rfl (.tmp 31) (.tmp 32) 44 5 (.int .u8 0) 1 rfl Tryd.underlying44 infoU rfl (by decide) (by omega) u6 (L.take i).flatten l _ _ _ (fun _ => True) (fun _ => False) rfl rfl ?aO ?aR (fun _ _ h => h) (fun _ h => h.elim) ?aF ?aB ?aS ?aL ?_; (case aR => exact Kd.C_below HC.out HB.out); (case aB => exact HB.out); (case aF => exact (fun _ _ => trivial)); (case aO => exact HO.out); (case aS => exact below_size HB.out); (case aL => exact LM.out); intro v33 w5 ho hb hg hat; have n_ := aC ho (aE hb); clear HB HO; obtain ⟨HO, HB⟩ := n_; clear ho hb hg hat))
     go_roundg k1
     case measure => omega
     case rel => exact ⟨i + 1, ⟨by have := HI.out; omega⟩, by (have := HL.out; simp [i64_w]; unfold wrap64; omega), ⟨by rw [TF.out]; exact HO.out⟩, HB⟩
  | succ k1 =>
   have hi : i < L.length := by have := HI.out; omega
   have t0 : decide ((i : Int) < (L.length : Int)) = true := decide_eq_true (by omega)
   obtain ⟨ad, A1, c1, e1, x0, hl, hC⟩ := at_BB HR0.out (i : Int) (by omega) (by omega)
   simp only [Int.toNat_natCast] at x0 hl hC
   replace x0 := hcB HB.out x0
   have ts := tot_succ L i hi
   generalize el : L.getD i [] = l at x0 ts hl hC
   clear el
   have tl := tot_le L (i + 1)
   have hS := HS.out
   have ew : wrap64 ((tot L i : Int) + (l.length : Int)) = (tot L (i + 1) : Int) := by unfold wrap64; omega
   have t1 : decide ((tot L (i + 1) : Int) < 0) = false := decide_eq_false (by omega)
   have p1 : (0 ≤ (i : Int)) = True := eq_true (by omega)
   have p2 : ((i : Int) < (L.length : Int)) = True := eq_true (by omega)
   clear ts tl hS hl hC
   cases e1
   go_wp2
   go_roundg k1
   case measure => omega
   case rel => exact ⟨i + 1, ⟨by have := HI.out; omega⟩, rq, by (have := HL.out; simp [i64_w]; unfold wrap64; omega), HB⟩
end Go.Proofs.YtacdchogjpeffaaDoor.PNoteGets
