-- printed (wip/tools/myprint.py)
import Derived.Test.YtacdchogjpeffaaDoorPNoteOutlinesx0
namespace Go.Proofs.YtacdchogjpeffaaDoor.PNoteOutlines
open Go.RowKit Go.Proofs.YtacdchogjpeffaaDoorW.PrintWords Go.Proofs.YtacdchogjpeffaaDoorW.PrintLast Go.Proofs.YtacdchogjpeffaaDoorW.PrintMore
attribute [local go_sem] max2_int min2_int max_two min_two max_three min_three max_four min_four
set_option linter.unusedVariables false
set_option linter.unusedSimpArgs false
mutual
def incunablelaw25_room.l0 : Nat → List (S61) → Int → Int → Int → Option (Int)
 | 0, _, _, _, _ => none
 | k + 1, x0, x1, x2, x7 => if x7 < (x0.length : Int) then (if x2 ≥ 0 then (if 0 ≤ x7 then ((incunablelaw25_room.f k ((rd_T61 x0 x7).f2) (wrap64 (x1 - 1)) (wrap64 ((wrap64 (x2 - 1)) - (((rd_T61 x0 x7).f0).size : Int)))).bind fun t103 => (incunablelaw25_room.l0 k x0 x1 t103 (wrap64 (x7 + 1)))) else (none)) else (some x2)) else (some x2)
def incunablelaw25_room.f : Nat → List (S61) → Int → Int → Option (Int)
 | 0, _, _, _ => none
 | k + 1, l0, a1, a2 => if a1 = 0 then (some (-1)) else (incunablelaw25_room.l0 k l0 a1 a2 0)
end
theorem incunablelaw25_room.mono_l : ∀ k, (∀ y0 y1 y2, LeO (incunablelaw25_room.f k y0 y1 y2) (incunablelaw25_room.f (k + 1) y0 y1 y2)) ∧ (∀ y0 y1 y2 y3, LeO (incunablelaw25_room.l0 k y0 y1 y2 y3) (incunablelaw25_room.l0 (k + 1) y0 y1 y2 y3))
 | 0 => ⟨fun _ _ _ r h => by simp [incunablelaw25_room.f] at h, fun _ _ _ _ r h => by simp [incunablelaw25_room.l0] at h⟩
 | k + 1 => by
  obtain ⟨ih0, ih1⟩ := incunablelaw25_room.mono_l k
  refine ⟨?_, ?_⟩
  ·intro y0 y1 y2
   unfold incunablelaw25_room.f
   repeat' first
   | (with_reducible exact ih0 _ _ _)
   | (with_reducible exact ih1 _ _ _ _)
   | (with_reducible first | exact LeO.refl _ | exact LeO.none _ | refine LeO.ite ?_ ?_ | refine LeO.bind ?_ (fun _ => ?_))
  ·intro y0 y1 y2 y3
   unfold incunablelaw25_room.l0
   repeat' first
   | (with_reducible exact ih0 _ _ _)
   | (with_reducible exact ih1 _ _ _ _)
   | (with_reducible first | exact LeO.refl _ | exact LeO.none _ | refine LeO.ite ?_ ?_ | refine LeO.bind ?_ (fun _ => ?_))
theorem incunablelaw25_room.mono : ∀ a0 a1 a2 k, LeO (incunablelaw25_room.f k a0 a1 a2) (incunablelaw25_room.f (k + 1) a0 a1 a2) := by
 intro a0 a1 a2 k
 obtain ⟨ih0, ih1⟩ := incunablelaw25_room.mono_l k
 exact ih0 a0 a1 a2
def incunablelaw25_room.T6 : Bool × List (List Nat × List Nat) := (true, [([], []), ([], []), ([0, 1], [0, 1]), ([2], [2]), ([3], [3]), ([], []), ([5], [5]), ([], []), ([7], [7]), ([], []), ([], []), ([9, 10], [9, 10]), ([11], [11]), ([12], [12]), ([13], [13]), ([8, 14], [8, 14]), ([4, 6, 15], [4, 6, 15]), ([16, 16, 0, 1, 2, 3, 4, 5, 6, 7, 8, 9, 10, 11, 12, 13, 14, 15, 16], [7, 16])])
def incunablelaw25_room.B6 : List Nat := [0, 0, 3, 7, 15, 0, 32, 0, 128, 0, 0, 1536, 3584, 7680, 15872, 32640, 65535, 131071]
theorem incunablelaw25_room.tab6 : rtab .any (opsOf Tryd.f38 6) = incunablelaw25_room.T6 := by kernel_rfl
theorem incunablelaw25_room.bits6 : waitsOk incunablelaw25_room.T6.2 incunablelaw25_room.B6 = true := by kernel_rfl
set_option maxHeartbeats 8000000 in
set_option maxRecDepth 100000 in
theorem incunablelaw25_room.calls (k : Nat) : ∀ (A0 : Option Addr) (c0 : Nat) (l0 : List (S61)) (a1 : Int) (a2 : Int) (r : Int) (w : World) (hr0 : Kd.C k61 w A0 l0.length l0) (hc0 : l0.length ≤ c0) (h : incunablelaw25_room.f k l0 a1 a2 = some r),
  Calls Tryd.prog 38 #[.slice A0 l0.length c0, .int .i64 a1, .int .i64 a2] w fun e w' => e = .returned (.int .i64 r) ∧ Below w.heap.size w w' := by
 induction k using Nat.strongRecOn with
 | _ k ih =>
 intro A0 c0 l0 a1 a2 r w hr0 hc0 h
 cases k with
 | zero => exact absurd h (by simp [incunablelaw25_room.f])
 | succ k =>
 simp only [incunablelaw25_room.f] at h
 have HR0 := Aside0.mk hr0
 have HC0 := Aside0.mk hc0
 clear hr0 hc0
 have HB := Aside0.mk (Below.refl w.heap.size w)
 have H : (if a1 = 0 then (some (-1)) else (incunablelaw25_room.l0 k l0 a1 a2 0)) = some r := h
 clear h
 rcases iE H with H1 | H1 <;> clear H <;> obtain ⟨H, c4b0, c4b1, c4⟩ := H1
 ·obtain rfl := Option.some.inj H
  go_enter Tryd.func38, Tryd.ntmps38
  go_wp2
  go_ret
  exact ⟨re, bl⟩
 ·have H' := Aside0.mk H
  clear H
  go_enter Tryd.func38, Tryd.ntmps38
  go_wp2
  go_loopg [2, 7] k (fun kq v2 v7 w' => ∃ (x2_1 : Int) (x7_1 : Int), v2 = .int .i64 x2_1 ∧ v7 = .int .i64 x7_1 ∧ Aside0 (incunablelaw25_room.l0 kq l0 a1 x2_1 x7_1 = some r) ∧ Aside0 (kq ≤ k) ∧ Aside0 (Below w.heap.size w w'))
  case atStart => exact ⟨(a2), (0), rq, rq, H', ⟨Nat.le_refl _⟩, ⟨bl⟩⟩
  case round =>
   clear H'
   obtain ⟨x2_1, x7_1, rfl, rfl, HA, HK1, HB⟩ := hrel
   cases gk with
   | zero => exact absurd HA.out (by simp [incunablelaw25_room.l0])
   | succ k1 =>
    have H := HA.out
    clear HA
    simp only [incunablelaw25_room.l0] at H
    rcases iL H with H1 | H1 <;> clear H <;> obtain ⟨H, c5b0⟩ := H1
    ·rcases iL H with H1 | H1 <;> clear H <;> obtain ⟨H, c6b0⟩ := H1
     ·by_cases c7 : 0 ≤ x7_1
      ·rw [if_pos c7] at H
       have c7b0 := decide_eq_true c7
       clear c7
       obtain ⟨t103, A8, H⟩ := oB H
       try dsimp only at H
       have H' := Aside0.mk H
       clear H
       try go_wp2
       have n_ := aE (below_drew1 HB.out)
       clear HB
       have HB := n_
       clear n_
       have p101 : 0 ≤ (x7_1 : Int) := dt
       have q101 : x7_1 < (l0.length : Int) := dt
       obtain ⟨ad101, A101_2, c101_2, e101, hx101_0, hx101_1, hx101_2, hl101_2, hi101_2⟩ := at_T61 HR0.out x7_1 p101 q101
       have hw101_2 := hx101_2
       have hw101_1 := hx101_1
       have hw101_0 := hx101_0
       cases e101
       replace hx101_0 := hcB HB.out hx101_0
       replace hx101_1 := hcB HB.out hx101_1
       replace hx101_2 := hcB HB.out hx101_2
       have HR101_2 := Aside0.mk hi101_2
       have HC101_2 := Aside0.mk hl101_2
       clear hi101_2 hl101_2
       replace p101 := eq_true p101
       replace q101 := eq_true q101
       have p102 : 0 ≤ (x7_1 : Int) := dt
       have q102 : x7_1 < (l0.length : Int) := dt
       obtain ⟨ad102, A102_2, c102_2, e102, hx102_0, hx102_1, hx102_2, hl102_2, hi102_2⟩ := at_T61 HR0.out x7_1 p102 q102
       have hw102_2 := hx102_2
       have hw102_1 := hx102_1
       have hw102_0 := hx102_0
       obtain rfl : ad101 = ad102 := (by injection e102)
       replace hx102_0 := hcB HB.out hx102_0
       replace hx102_1 := hcB HB.out hx102_1
       replace hx102_2 := hcB HB.out hx102_2
       have HR102_2 := Aside0.mk hi102_2
       have HC102_2 := Aside0.mk hl102_2
       clear hi102_2 hl102_2
       replace p102 := eq_true p102
       replace q102 := eq_true q102
       have ea_ := Option.some.inj (hx101_2.symm.trans hx102_2)
       injection ea_ with ea_ en_ ec_
       subst ea_
       subst ec_
       clear en_
       refine st 18 (fun w' => w'.cell? (ad101.add ((x7_1).toNat * 3)) = some (.string ((rd_T61 l0 x7_1).f0)) ∧ w'.cell? ⟨(ad101.add ((x7_1).toNat * 3)).block, (ad101.add ((x7_1).toNat * 3)).off + 1, none⟩ = some (.int .i64 ((rd_T61 l0 x7_1).f1)) ∧ w'.cell? ⟨(ad101.add ((x7_1).toNat * 3)).block, (ad101.add ((x7_1).toNat * 3)).off + 2, none⟩ = some (.slice A101_2 ((rd_T61 l0 x7_1).f2).length c101_2) ∧ w'.cell? (ad101.add ((x7_1).toNat * 3)) = some (.string ((rd_T61 l0 x7_1).f0)) ∧ w'.cell? ⟨(ad101.add ((x7_1).toNat * 3)).block, (ad101.add ((x7_1).toNat * 3)).off + 1, none⟩ = some (.int .i64 ((rd_T61 l0 x7_1).f1)) ∧ w'.cell? ⟨(ad101.add ((x7_1).toNat * 3)).block, (ad101.add ((x7_1).toNat * 3)).off + 2, none⟩ = some (.slice A101_2 ((rd_T61 l0 x7_1).f2).length c101_2)) [] (bv 18 0) incunablelaw25_room.tab6 incunablelaw25_room.bits6 ⟨(hcB HB.out hw101_0), (hcB HB.out hw101_1), (hcB HB.out hw101_2), (hcB HB.out hw102_0), (hcB HB.out hw102_1), (hcB HB.out hw102_2)⟩ (fun hHeld HT_ HW_ => ?_)
       generalize wr.drew = w9 at HB HR101_2 HR102_2 hx101_0 hx101_1 hx101_2 hx102_0 hx102_1 hx102_2 hHeld ⊢
       refine pu 0 20 (bv 18 1) HT_ rfl rfl ?_
       refine pu 1 21 (bv 18 3) HT_ rfl rfl ?_
       refine pu 2 22 (bv 18 7) HT_ rfl rfl ?_
       refine pu 3 23 (bv 18 15) HT_ rfl rfl ?_
       refine pu 5 25 (bv 18 47) HT_ rfl rfl ?_
       refine pu 6 26 (bv 18 111) HT_ rfl rfl ?_
       refine pu 7 27 (bv 18 239) HT_ rfl rfl ?_
       refine pu 8 28 (bv 18 495) HT_ rfl rfl ?_
       refine pu 9 29 (bv 18 1007) HT_ rfl rfl ?_
       refine pu 10 30 (bv 18 2031) HT_ rfl rfl ?_
       refine pu 11 31 (bv 18 4079) HT_ rfl rfl ?_
       refine pu 12 32 (bv 18 8175) HT_ rfl rfl ?_
       refine tk 4 24 (bv 18 8191) HT_ HW_ hHeld rfl rfl (by rintro w' ⟨s0, s1, s2, s3, s4, s5⟩; exact yl) ?_
       refine tk 13 33 (bv 18 16383) HT_ HW_ hHeld rfl rfl (by rintro w' ⟨s0, s1, s2, s3, s4, s5⟩; exact yl) ?_
       refine pu 14 34 (bv 18 32767) HT_ rfl rfl ?_
       refine pu 15 35 (bv 18 65535) HT_ rfl rfl ?_
       refine one_ (i := 16) (N := some 36) (bv 18 131071) rfl rfl (one_of HT_.out (by kernel_rfl)) (by decide) (fun K hK => ?_)
       refine gK Tryd.func38 rfl #[.slice A101_2 ((rd_T61 l0 x7_1).f2).length c101_2, .int .i64 (wrap64 (a1 - 1)), .int .i64 (wrap64 ((wrap64 (x2_1 - 1)) - (((rd_T61 l0 x7_1).f0).size : Int)))] rfl rfl ?_
       with_reducible refine (ih k1 (by have := HK1.out; omega) _ _ ((rd_T61 l0 x7_1).f2) (wrap64 (a1 - 1)) (wrap64 ((wrap64 (x2_1 - 1)) - (((rd_T61 l0 x7_1).f0).size : Int))) t103 _ ?side1 ?side2 A8.out).mono ?_
       (case side1 => exact cU (Kd.C_below HR101_2.out HB.out))
       (case side2 => exact HC101_2.out)
       rintro e w10 ⟨rfl, hb⟩
       refine ⟨_, rfl, ?_⟩
       have n_ := aE (bs hb)
       clear HB
       have HB := n_
       clear n_
       (try clear hb)
       (try clear hb2)
       (try clear hk)
       (try clear hi)
       refine hK.out _ _ ⟨(hcB HB.out hw101_0), (hcB HB.out hw101_1), (hcB HB.out hw101_2), (hcB HB.out hw102_0), (hcB HB.out hw102_1), (hcB HB.out hw102_2)⟩ (fun hHeld => ?_)
       clear hK K
       refine nm (some 36) ?_
       refine pu 17 2 (bv 18 262143) HT_ rfl rfl ?_
       refine done_ (done_of HT_.out (by kernel_rfl)) ?_
       try go_wp2
       go_roundg k1
       case measure => have := HK1.out; omega
       case rel => exact ⟨(t103), (wrap64 (x7_1 + 1)), rq, rq, H', ⟨by have := HK1.out; omega⟩, ⟨bl⟩⟩
      ·rw [if_neg c7] at H
       exact absurd H (by simp)
     ·obtain rfl := Option.some.inj H
      go_wp2
      go_ret
      exact ⟨re, bl⟩
    ·obtain rfl := Option.some.inj H
     go_wp2
     go_ret
     exact ⟨re, bl⟩
def incunablelaw25_Heavy.f (k : Nat) (l0 : List (S61)) : Option (Bool) := (incunablelaw25_room.f k l0 60 6000).bind fun t104 => (some (decide (t104 < 0)))
theorem incunablelaw25_Heavy.mono : ∀ a0 k, LeO (incunablelaw25_Heavy.f k a0) (incunablelaw25_Heavy.f (k + 1) a0) := by
 intro a0 k
 unfold incunablelaw25_Heavy.f
 repeat' first
   | (with_reducible exact incunablelaw25_room.mono _ _ _ _)
   | (with_reducible first | exact LeO.refl _ | exact LeO.none _ | refine LeO.ite ?_ ?_ | refine LeO.bind ?_ (fun _ => ?_))
set_option maxHeartbeats 8000000 in
set_option maxRecDepth 100000 in
theorem incunablelaw25_Heavy.calls (k : Nat) (A0 : Option Addr) (c0 : Nat) (l0 : List (S61)) (r : Bool) (w : World) (hr0 : Kd.C k61 w A0 l0.length l0) (hc0 : l0.length ≤ c0) (h : incunablelaw25_Heavy.f k l0 = some r) :
  Calls Tryd.prog 10 #[.slice A0 l0.length c0] w fun e w' => e = .returned (.bool r) ∧ Below w.heap.size w w' := by
 have HR0 := Aside0.mk hr0
 have HC0 := Aside0.mk hc0
 clear hr0 hc0
 have HB := Aside0.mk (Below.refl w.heap.size w)
 have H : ((incunablelaw25_room.f k l0 60 6000).bind fun t104 => (some (decide (t104 < 0)))) = some r := h
 clear h
 obtain ⟨t104, A2, H⟩ := oB H
 try dsimp only at H
 obtain rfl := Option.some.inj H
 go_enter Tryd.func10, Tryd.ntmps10
 go_wp2_with (first | (refine gF 38 4 Tryd.func38 #[.slice A0 l0.length c0, .int .i64 60, .int .i64 6000] rfl rfl ?_; (with_reducible refine (incunablelaw25_room.calls k _ _ l0 60 6000 t104 _ ?side1 ?side2 A2.out).mono ?_); (case side1 => exact cU HR0.out); (case side2 => exact HC0.out); rintro e w3 ⟨rfl, hb⟩; refine ⟨_, rfl, ?_⟩; have n_ := aE (bs hb); clear HB; have HB := n_; clear n_))
 go_ret
 exact ⟨re, bl⟩
def strings_Trim.f (a0 a1 : ByteArray) : Option ByteArray := if a0.size < 4294967281 then (if a1.size < 4294967281 then (if a1.data.toList.all (fun b => decide (b.toNat < 128)) = true then some ⟨(Go.Lib.trimS a0.data.toList a1.data.toList).toArray⟩ else none) else none) else none
theorem strings_Trim.calls (a0 a1 : ByteArray) (r : ByteArray) (w : World) (h : strings_Trim.f a0 a1 = some r) :
  Calls Tryd.prog 104 #[.string a0, .string a1] w fun e w' => e = .returned (.string r) ∧ Below w.heap.size w w' := by
 unfold strings_Trim.f at h
 split at h
 ·next h0 =>
  split at h
  ·next h1 =>
   split at h
   ·next h2 =>
    obtain rfl := Option.some.inj h
    exact trim_calls a0 a1 h0 h1 h2 w
   ·cases h
  ·cases h
 ·cases h
def note_isName.f (a0 : ByteArray) : Option (Bool) := if a0.toList = ([] : List UInt8) then (some false) else (if (a0.size : Int) ≤ 30 then (if 0 < (a0.size : Int) then (if (bt a0 0) ≥ 97 then (if (bt a0 0) ≤ 122 then ((strings_Trim.f a0 (⟨#[97, 98, 99, 100, 101, 102, 103, 104, 105, 106, 107, 108, 109, 110, 111, 112, 113, 114, 115, 116, 117, 118, 119, 120, 121, 122, 48, 49, 50, 51, 52, 53, 54, 55, 56, 57, 45]⟩ : ByteArray)).bind fun t105 => (some (t105.toList == ([] : List UInt8)))) else (some false)) else (some false)) else (none)) else (some false))
set_option maxHeartbeats 8000000 in
set_option maxRecDepth 100000 in
theorem note_isName.calls (a0 : ByteArray) (r : Bool) (w : World) (h : note_isName.f a0 = some r) :
  Calls Tryd.prog 96 #[.string a0] w fun e w' => e = .returned (.bool r) ∧ Below w.heap.size w w' := by
 have HB := Aside0.mk (Below.refl w.heap.size w)
 have H := h
 unfold note_isName.f at H
 clear h
 rcases iE H with H1 | H1 <;> clear H <;> obtain ⟨H, c2b0, c2b1, c2⟩ := H1
 ·obtain rfl := Option.some.inj H
  go_enter Tryd.func96, Tryd.ntmps96
  go_wp2
  go_ret
  exact ⟨re, bl⟩
 ·by_cases c3 : (a0.size : Int) ≤ 30
  ·rw [if_pos c3] at H
   have c3b0 := decide_eq_true c3
   have c3b1 : decide (a0.size ≤ 30) = true := decide_eq_true (by omega)
   clear c3
   by_cases c4 : 0 < (a0.size : Int)
   ·rw [if_pos c4] at H
    have c4b0 := decide_eq_true c4
    have c4b1 : decide (0 < a0.size) = true := decide_eq_true (by omega)
    clear c4
    rcases iL H with H1 | H1 <;> clear H <;> obtain ⟨H, c6b0⟩ := H1
    ·rcases iL H with H1 | H1 <;> clear H <;> obtain ⟨H, c8b0⟩ := H1
     ·obtain ⟨t105, A9, H⟩ := oB H
      try dsimp only at H
      obtain rfl := Option.some.inj H
      have p5 : 0 ≤ (0 : Int) := (by omega)
      have q5 : 0 < a0.size := (by have : (0 : Int) < (a0.size : Int) := dt; omega)
      have hx5 : ∀ h : 0 < a0.size, ((a0[0]'h).toNat : Int) = bt a0 0 := bt_at a0 0
      clear p5
      have qi5 : (0 < (a0.size : Int)) = True := eq_true (dt)
      replace q5 := eq_true q5
      have p7 : 0 ≤ (0 : Int) := (by omega)
      have q7 : 0 < a0.size := (by have : (0 : Int) < (a0.size : Int) := dt; omega)
      have hx7 : ∀ h : 0 < a0.size, ((a0[0]'h).toNat : Int) = bt a0 0 := bt_at a0 0
      clear p7
      have qi7 : (0 < (a0.size : Int)) = True := eq_true (dt)
      replace q7 := eq_true q7
      go_enter Tryd.func96, Tryd.ntmps96
      go_wp2_with (first | (go_at_call 104; (with_reducible refine (strings_Trim.calls a0 (⟨#[97, 98, 99, 100, 101, 102, 103, 104, 105, 106, 107, 108, 109, 110, 111, 112, 113, 114, 115, 116, 117, 118, 119, 120, 121, 122, 48, 49, 50, 51, 52, 53, 54, 55, 56, 57, 45]⟩ : ByteArray) t105 _ A9.out).mono ?_); rintro e w10 ⟨rfl, hb⟩; have n_ := aE (bs hb); clear HB; have HB := n_; clear n_))
      go_ret
      exact ⟨re, bl⟩
     ·obtain rfl := Option.some.inj H
      have p5 : 0 ≤ (0 : Int) := (by omega)
      have q5 : 0 < a0.size := (by have : (0 : Int) < (a0.size : Int) := dt; omega)
      have hx5 : ∀ h : 0 < a0.size, ((a0[0]'h).toNat : Int) = bt a0 0 := bt_at a0 0
      clear p5
      have qi5 : (0 < (a0.size : Int)) = True := eq_true (dt)
      replace q5 := eq_true q5
      have p7 : 0 ≤ (0 : Int) := (by omega)
      have q7 : 0 < a0.size := (by have : (0 : Int) < (a0.size : Int) := dt; omega)
      have hx7 : ∀ h : 0 < a0.size, ((a0[0]'h).toNat : Int) = bt a0 0 := bt_at a0 0
      clear p7
      have qi7 : (0 < (a0.size : Int)) = True := eq_true (dt)
      replace q7 := eq_true q7
      go_enter Tryd.func96, Tryd.ntmps96
      go_wp2
      go_ret
      exact ⟨re, bl⟩
    ·obtain rfl := Option.some.inj H
     have p5 : 0 ≤ (0 : Int) := (by omega)
     have q5 : 0 < a0.size := (by have : (0 : Int) < (a0.size : Int) := dt; omega)
     have hx5 : ∀ h : 0 < a0.size, ((a0[0]'h).toNat : Int) = bt a0 0 := bt_at a0 0
     clear p5
     have qi5 : (0 < (a0.size : Int)) = True := eq_true (dt)
     replace q5 := eq_true q5
     go_enter Tryd.func96, Tryd.ntmps96
     go_wp2
     go_ret
     exact ⟨re, bl⟩
   ·rw [if_neg c4] at H
    exact absurd H (by simp)
  ·rw [if_neg c3] at H
   have c3b0 := decide_eq_false c3
   have c3b1 : decide (a0.size ≤ 30) = false := decide_eq_false (by omega)
   clear c3
   obtain rfl := Option.some.inj H
   go_enter Tryd.func96, Tryd.ntmps96
   go_wp2
   go_ret
   exact ⟨re, bl⟩
def note_isExpr.f (a0_0 : Int) (a0_1 : ByteArray) (a0_2 : Int) (l0_3 : List (S33)) : Option (Bool) := if a0_0 = 0 then (if a0_1.toList = ([] : List UInt8) then (some (a0_2 == 0)) else (some false)) else (if a0_0 = 1 then ((note_isName.f a0_1).bind fun t107 => (if t107 = true then (if a0_2 = 0 then (some ((l0_3.length : Int) == 0)) else (some false)) else (some false))) else (if a0_0 = 2 then (if a0_1.toList = ([] : List UInt8) then (if a0_2 ≥ (-999999) then (if a0_2 ≤ 999999 then (some ((l0_3.length : Int) == 0)) else (some false)) else (some false)) else (some false)) else (if a0_0 = 3 then (if (a0_1.size : Int) ≤ 200 then (if a0_2 = 0 then (some ((l0_3.length : Int) == 0)) else (some false)) else (some false)) else (some false))))
set_option maxHeartbeats 8000000 in
set_option maxRecDepth 100000 in
theorem note_isExpr.calls (a0_0 : Int) (a0_1 : ByteArray) (a0_2 : Int) (A0_3 : Option Addr) (c0_3 : Nat) (l0_3 : List (S33)) (r : Bool) (w : World) (hr0_3 : Kd.C k33 w A0_3 l0_3.length l0_3) (hc0_3 : l0_3.length ≤ c0_3) (h : note_isExpr.f a0_0 a0_1 a0_2 l0_3 = some r) :
  Calls Tryd.prog 80 #[.agg #[.int .i64 a0_0, .string a0_1, .int .i64 a0_2, .slice A0_3 l0_3.length c0_3]] w fun e w' => e = .returned (.bool r) ∧ Below w.heap.size w w' := by
 have hu33 := Tryd.underlying33
 have HR0_3 := Aside0.mk hr0_3
 have HC0_3 := Aside0.mk hc0_3
 clear hr0_3 hc0_3
 have HB := Aside0.mk (Below.refl w.heap.size w)
 have H := h
 unfold note_isExpr.f at H
 clear h
 rcases iE H with H1 | H1 <;> clear H <;> obtain ⟨H, c2b0, c2b1, c2⟩ := H1
 ·rcases iE H with H1 | H1 <;> clear H <;> obtain ⟨H, c3b0, c3b1, c3⟩ := H1
  ·obtain rfl := Option.some.inj H
   go_enter Tryd.func80, Tryd.ntmps80
   go_wp2_with (first | ((with_reducible refine gd 1 rfl ?_); (try (refine gate_guard (by rfl) ?_; dsimp only)); refine bx 1 #[.int .i64 a0_0, .string a0_1, .int .i64 a0_2, .slice A0_3 l0_3.length c0_3] 33 rfl rfl ?_; intro gb106 hg w4 hbox hb; have n_ := aC (bs hb) (aC hbox (aC (gz hg) (aE (gz hg)))); clear HB; obtain ⟨HB, BK106, GW106, GE106⟩ := n_; clear hb hbox hg; obtain ⟨hcz5_0, hcz5_1, hcz5_2, hcz5_3, hfz5_0, hfz5_1, hfz5_2, hfz5_3⟩ := cz4f BK106.out))
   go_ret
   exact ⟨re, bl⟩
  ·obtain rfl := Option.some.inj H
   go_enter Tryd.func80, Tryd.ntmps80
   go_wp2_with (first | ((with_reducible refine gd 1 rfl ?_); (try (refine gate_guard (by rfl) ?_; dsimp only)); refine bx 1 #[.int .i64 a0_0, .string a0_1, .int .i64 a0_2, .slice A0_3 l0_3.length c0_3] 33 rfl rfl ?_; intro gb106 hg w6 hbox hb; have n_ := aC (bs hb) (aC hbox (aC (gz hg) (aE (gz hg)))); clear HB; obtain ⟨HB, BK106, GW106, GE106⟩ := n_; clear hb hbox hg; obtain ⟨hcz7_0, hcz7_1, hcz7_2, hcz7_3, hfz7_0, hfz7_1, hfz7_2, hfz7_3⟩ := cz4f BK106.out))
   go_ret
   exact ⟨re, bl⟩
 ·rcases iE H with H1 | H1 <;> clear H <;> obtain ⟨H, c8b0, c8b1, c8⟩ := H1
  ·obtain ⟨t107, A9, H⟩ := oB H
   try dsimp only at H
   by_cases c10 : t107 = true
   ·subst c10
    rw [if_pos rfl] at H
    rcases iE H with H1 | H1 <;> clear H <;> obtain ⟨H, c11b0, c11b1, c11⟩ := H1
    ·obtain rfl := Option.some.inj H
     go_enter Tryd.func80, Tryd.ntmps80
     go_wp2_with (first | ((with_reducible refine gd 1 rfl ?_); (try (refine gate_guard (by rfl) ?_; dsimp only)); refine bx 1 #[.int .i64 a0_0, .string a0_1, .int .i64 a0_2, .slice A0_3 l0_3.length c0_3] 33 rfl rfl ?_; intro gb106 hg w12 hbox hb; have n_ := aC (bs hb) (aC hbox (aC (gz hg) (aE (gz hg)))); clear HB; obtain ⟨HB, BK106, GW106, GE106⟩ := n_; clear hb hbox hg; obtain ⟨hcz13_0, hcz13_1, hcz13_2, hcz13_3, hfz13_0, hfz13_1, hfz13_2, hfz13_3⟩ := cz4f BK106.out) | (refine gF 96 19 Tryd.func96 #[.string a0_1] rfl rfl ?_; (with_reducible refine (note_isName.calls a0_1 true _ A9.out).mono ?_); rintro e w14 ⟨rfl, hb⟩; refine ⟨_, rfl, ?_⟩; have n_ := aC (blk_below (bU BK106.out) hb) (aE (bs hb)); clear BK106 HB; obtain ⟨BK106, HB⟩ := n_; obtain ⟨hcz15_0, hcz15_1, hcz15_2, hcz15_3, hfz15_0, hfz15_1, hfz15_2, hfz15_3⟩ := cz4f BK106.out))
     go_ret
     exact ⟨re, bl⟩
    ·obtain rfl := Option.some.inj H
     go_enter Tryd.func80, Tryd.ntmps80
     go_wp2_with (first | ((with_reducible refine gd 1 rfl ?_); (try (refine gate_guard (by rfl) ?_; dsimp only)); refine bx 1 #[.int .i64 a0_0, .string a0_1, .int .i64 a0_2, .slice A0_3 l0_3.length c0_3] 33 rfl rfl ?_; intro gb106 hg w16 hbox hb; have n_ := aC (bs hb) (aC hbox (aC (gz hg) (aE (gz hg)))); clear HB; obtain ⟨HB, BK106, GW106, GE106⟩ := n_; clear hb hbox hg; obtain ⟨hcz17_0, hcz17_1, hcz17_2, hcz17_3, hfz17_0, hfz17_1, hfz17_2, hfz17_3⟩ := cz4f BK106.out) | (refine gF 96 19 Tryd.func96 #[.string a0_1] rfl rfl ?_; (with_reducible refine (note_isName.calls a0_1 true _ A9.out).mono ?_); rintro e w18 ⟨rfl, hb⟩; refine ⟨_, rfl, ?_⟩; have n_ := aC (blk_below (bU BK106.out) hb) (aE (bs hb)); clear BK106 HB; obtain ⟨BK106, HB⟩ := n_; obtain ⟨hcz19_0, hcz19_1, hcz19_2, hcz19_3, hfz19_0, hfz19_1, hfz19_2, hfz19_3⟩ := cz4f BK106.out))
     go_ret
     exact ⟨re, bl⟩
   ·replace c10 := Bool.eq_false_iff.mpr c10
    subst c10
    rw [if_neg Bool.false_ne_true] at H
    obtain rfl := Option.some.inj H
    go_enter Tryd.func80, Tryd.ntmps80
    go_wp2_with (first | ((with_reducible refine gd 1 rfl ?_); (try (refine gate_guard (by rfl) ?_; dsimp only)); refine bx 1 #[.int .i64 a0_0, .string a0_1, .int .i64 a0_2, .slice A0_3 l0_3.length c0_3] 33 rfl rfl ?_; intro gb106 hg w20 hbox hb; have n_ := aC (bs hb) (aC hbox (aC (gz hg) (aE (gz hg)))); clear HB; obtain ⟨HB, BK106, GW106, GE106⟩ := n_; clear hb hbox hg; obtain ⟨hcz21_0, hcz21_1, hcz21_2, hcz21_3, hfz21_0, hfz21_1, hfz21_2, hfz21_3⟩ := cz4f BK106.out) | (refine gF 96 19 Tryd.func96 #[.string a0_1] rfl rfl ?_; (with_reducible refine (note_isName.calls a0_1 false _ A9.out).mono ?_); rintro e w22 ⟨rfl, hb⟩; refine ⟨_, rfl, ?_⟩; have n_ := aC (blk_below (bU BK106.out) hb) (aE (bs hb)); clear BK106 HB; obtain ⟨BK106, HB⟩ := n_))
    go_ret
    exact ⟨re, bl⟩
  ·rcases iE H with H1 | H1 <;> clear H <;> obtain ⟨H, c23b0, c23b1, c23⟩ := H1
   ·rcases iE H with H1 | H1 <;> clear H <;> obtain ⟨H, c24b0, c24b1, c24⟩ := H1
    ·rcases iL H with H1 | H1 <;> clear H <;> obtain ⟨H, c25b0⟩ := H1
     ·rcases iL H with H1 | H1 <;> clear H <;> obtain ⟨H, c26b0⟩ := H1
      ·obtain rfl := Option.some.inj H
       go_enter Tryd.func80, Tryd.ntmps80
       go_wp2_with (first | ((with_reducible refine gd 1 rfl ?_); (try (refine gate_guard (by rfl) ?_; dsimp only)); refine bx 1 #[.int .i64 a0_0, .string a0_1, .int .i64 a0_2, .slice A0_3 l0_3.length c0_3] 33 rfl rfl ?_; intro gb106 hg w27 hbox hb; have n_ := aC (bs hb) (aC hbox (aC (gz hg) (aE (gz hg)))); clear HB; obtain ⟨HB, BK106, GW106, GE106⟩ := n_; clear hb hbox hg; obtain ⟨hcz28_0, hcz28_1, hcz28_2, hcz28_3, hfz28_0, hfz28_1, hfz28_2, hfz28_3⟩ := cz4f BK106.out))
       go_ret
       exact ⟨re, bl⟩
      ·obtain rfl := Option.some.inj H
       go_enter Tryd.func80, Tryd.ntmps80
       go_wp2_with (first | ((with_reducible refine gd 1 rfl ?_); (try (refine gate_guard (by rfl) ?_; dsimp only)); refine bx 1 #[.int .i64 a0_0, .string a0_1, .int .i64 a0_2, .slice A0_3 l0_3.length c0_3] 33 rfl rfl ?_; intro gb106 hg w29 hbox hb; have n_ := aC (bs hb) (aC hbox (aC (gz hg) (aE (gz hg)))); clear HB; obtain ⟨HB, BK106, GW106, GE106⟩ := n_; clear hb hbox hg; obtain ⟨hcz30_0, hcz30_1, hcz30_2, hcz30_3, hfz30_0, hfz30_1, hfz30_2, hfz30_3⟩ := cz4f BK106.out))
       go_ret
       exact ⟨re, bl⟩
     ·obtain rfl := Option.some.inj H
      go_enter Tryd.func80, Tryd.ntmps80
      go_wp2_with (first | ((with_reducible refine gd 1 rfl ?_); (try (refine gate_guard (by rfl) ?_; dsimp only)); refine bx 1 #[.int .i64 a0_0, .string a0_1, .int .i64 a0_2, .slice A0_3 l0_3.length c0_3] 33 rfl rfl ?_; intro gb106 hg w31 hbox hb; have n_ := aC (bs hb) (aC hbox (aC (gz hg) (aE (gz hg)))); clear HB; obtain ⟨HB, BK106, GW106, GE106⟩ := n_; clear hb hbox hg; obtain ⟨hcz32_0, hcz32_1, hcz32_2, hcz32_3, hfz32_0, hfz32_1, hfz32_2, hfz32_3⟩ := cz4f BK106.out))
      go_ret
      exact ⟨re, bl⟩
    ·obtain rfl := Option.some.inj H
     go_enter Tryd.func80, Tryd.ntmps80
     go_wp2_with (first | ((with_reducible refine gd 1 rfl ?_); (try (refine gate_guard (by rfl) ?_; dsimp only)); refine bx 1 #[.int .i64 a0_0, .string a0_1, .int .i64 a0_2, .slice A0_3 l0_3.length c0_3] 33 rfl rfl ?_; intro gb106 hg w33 hbox hb; have n_ := aC (bs hb) (aC hbox (aC (gz hg) (aE (gz hg)))); clear HB; obtain ⟨HB, BK106, GW106, GE106⟩ := n_; clear hb hbox hg; obtain ⟨hcz34_0, hcz34_1, hcz34_2, hcz34_3, hfz34_0, hfz34_1, hfz34_2, hfz34_3⟩ := cz4f BK106.out))
     go_ret
     exact ⟨re, bl⟩
   ·rcases iE H with H1 | H1 <;> clear H <;> obtain ⟨H, c35b0, c35b1, c35⟩ := H1
    ·by_cases c36 : (a0_1.size : Int) ≤ 200
     ·rw [if_pos c36] at H
      have c36b0 := decide_eq_true c36
      have c36b1 : decide (a0_1.size ≤ 200) = true := decide_eq_true (by omega)
      clear c36
      rcases iE H with H1 | H1 <;> clear H <;> obtain ⟨H, c37b0, c37b1, c37⟩ := H1
      ·obtain rfl := Option.some.inj H
       go_enter Tryd.func80, Tryd.ntmps80
       go_wp2_with (first | ((with_reducible refine gd 1 rfl ?_); (try (refine gate_guard (by rfl) ?_; dsimp only)); refine bx 1 #[.int .i64 a0_0, .string a0_1, .int .i64 a0_2, .slice A0_3 l0_3.length c0_3] 33 rfl rfl ?_; intro gb106 hg w38 hbox hb; have n_ := aC (bs hb) (aC hbox (aC (gz hg) (aE (gz hg)))); clear HB; obtain ⟨HB, BK106, GW106, GE106⟩ := n_; clear hb hbox hg; obtain ⟨hcz39_0, hcz39_1, hcz39_2, hcz39_3, hfz39_0, hfz39_1, hfz39_2, hfz39_3⟩ := cz4f BK106.out))
       go_ret
       exact ⟨re, bl⟩
      ·obtain rfl := Option.some.inj H
       go_enter Tryd.func80, Tryd.ntmps80
       go_wp2_with (first | ((with_reducible refine gd 1 rfl ?_); (try (refine gate_guard (by rfl) ?_; dsimp only)); refine bx 1 #[.int .i64 a0_0, .string a0_1, .int .i64 a0_2, .slice A0_3 l0_3.length c0_3] 33 rfl rfl ?_; intro gb106 hg w40 hbox hb; have n_ := aC (bs hb) (aC hbox (aC (gz hg) (aE (gz hg)))); clear HB; obtain ⟨HB, BK106, GW106, GE106⟩ := n_; clear hb hbox hg; obtain ⟨hcz41_0, hcz41_1, hcz41_2, hcz41_3, hfz41_0, hfz41_1, hfz41_2, hfz41_3⟩ := cz4f BK106.out))
       go_ret
       exact ⟨re, bl⟩
     ·rw [if_neg c36] at H
      have c36b0 := decide_eq_false c36
      have c36b1 : decide (a0_1.size ≤ 200) = false := decide_eq_false (by omega)
      clear c36
      obtain rfl := Option.some.inj H
      go_enter Tryd.func80, Tryd.ntmps80
      go_wp2_with (first | ((with_reducible refine gd 1 rfl ?_); (try (refine gate_guard (by rfl) ?_; dsimp only)); refine bx 1 #[.int .i64 a0_0, .string a0_1, .int .i64 a0_2, .slice A0_3 l0_3.length c0_3] 33 rfl rfl ?_; intro gb106 hg w42 hbox hb; have n_ := aC (bs hb) (aC hbox (aC (gz hg) (aE (gz hg)))); clear HB; obtain ⟨HB, BK106, GW106, GE106⟩ := n_; clear hb hbox hg; obtain ⟨hcz43_0, hcz43_1, hcz43_2, hcz43_3, hfz43_0, hfz43_1, hfz43_2, hfz43_3⟩ := cz4f BK106.out))
      go_ret
      exact ⟨re, bl⟩
    ·obtain rfl := Option.some.inj H
     go_enter Tryd.func80, Tryd.ntmps80
     go_wp2_with (first | ((with_reducible refine gd 1 rfl ?_); (try (refine gate_guard (by rfl) ?_; dsimp only)); refine bx 1 #[.int .i64 a0_0, .string a0_1, .int .i64 a0_2, .slice A0_3 l0_3.length c0_3] 33 rfl rfl ?_; intro gb106 hg w44 hbox hb; have n_ := aC (bs hb) (aC hbox (aC (gz hg) (aE (gz hg)))); clear HB; obtain ⟨HB, BK106, GW106, GE106⟩ := n_; clear hb hbox hg; obtain ⟨hcz45_0, hcz45_1, hcz45_2, hcz45_3, hfz45_0, hfz45_1, hfz45_2, hfz45_3⟩ := cz4f BK106.out))
     go_ret
     exact ⟨re, bl⟩
end Go.Proofs.YtacdchogjpeffaaDoor.PNoteOutlines
