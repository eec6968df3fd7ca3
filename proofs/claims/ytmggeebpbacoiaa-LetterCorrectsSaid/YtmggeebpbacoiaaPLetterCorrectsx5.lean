-- Written by a program of this session (wip/tools/myprint.py) over the kit's print. Not trusted: Lean checks it.
import Derived.Test.YtmggeebpbacoiaaPLetterCorrectsx0
import Derived.Test.YtmggeebpbacoiaaPLetterCorrectsx1
import Derived.Test.YtmggeebpbacoiaaPLetterCorrectsx2
import Derived.Test.YtmggeebpbacoiaaPLetterCorrectsx4
namespace Go.Proofs.Ytmggeebpbacoiaa.PLetterCorrects
open Go.RowKit Go.Proofs.YtmggeebpbacoiaaW.PrintWords Go.Proofs.YtmggeebpbacoiaaW.PrintLast Go.Proofs.YtmggeebpbacoiaaW.PrintMore
attribute [local go_sem] max2_int min2_int max_two min_two max_three min_three max_four min_four   -- for this text's walks alone
set_option linter.unusedVariables false
set_option linter.unusedSimpArgs false

/-! ### incunablelaw30_LetterCorrects: function 4 -/
mutual
def incunablelaw30_LetterCorrects.l0 : Nat → List ByteArray → ByteArray → Int → Int → List ByteArray → Int → Int → Option (Bool)
  | 0, _, _, _, _, _, _, _ => none
  | k + 1, x0, x1, x2, x7, x16, x17, x18 => if x18 < x17 then (if 0 ≤ x18 then (if x18 < (x16.length : Int) then (incunablelaw30_LetterCorrects.l0 k x0 x1 x2 (wrap64 (x7 + ((rdOf ByteArray.empty x16 x18).size : Int))) x16 x17 (wrap64 (x18 + 1))) else (none)) else (none)) else (if (x0.length : Int) > 2000 then (incunablelaw30_LetterCorrects.j1 k x0 x1 x2 true) else (incunablelaw30_LetterCorrects.j1 k x0 x1 x2 (decide (x7 > 20000))))
def incunablelaw30_LetterCorrects.j1 : Nat → List ByteArray → ByteArray → Int → Bool → Option (Bool)
  | 0, _, _, _, _ => none
  | k + 1, x0, x1, x2, x33 => if x33 = true then ((incunablelaw30_Awake.f k).bind fun t151 => (some t151)) else ((letter_Correct.f k x0 x1 x2).bind fun bt152 => ((incunableref30_Correct.f k x0 x1 x2).bind fun bt154 => (if bt152.1.toList = bt154.1.toList then (if bt152.2 = bt154.2 then ((incunablelaw30_Awake.f k).bind fun t156 => (some t156)) else (some false)) else (some false))))
end
def incunablelaw30_LetterCorrects.f (k : Nat) (l0 : List ByteArray) (a1 : ByteArray) (a2 : Int) : Option (Bool) := incunablelaw30_LetterCorrects.l0 k l0 a1 a2 (a1.size : Int) l0 (l0.length : Int) 0
theorem incunablelaw30_LetterCorrects.mono_l : ∀ k, (∀ y0 y1 y2 y3 y4 y5 y6, LeO (incunablelaw30_LetterCorrects.l0 k y0 y1 y2 y3 y4 y5 y6) (incunablelaw30_LetterCorrects.l0 (k + 1) y0 y1 y2 y3 y4 y5 y6)) ∧ (∀ y0 y1 y2 y3, LeO (incunablelaw30_LetterCorrects.j1 k y0 y1 y2 y3) (incunablelaw30_LetterCorrects.j1 (k + 1) y0 y1 y2 y3))
  | 0 => ⟨fun _ _ _ _ _ _ _ r h => by simp [incunablelaw30_LetterCorrects.l0] at h, fun _ _ _ _ r h => by simp [incunablelaw30_LetterCorrects.j1] at h⟩
  | k + 1 => by
    obtain ⟨ih0, ih1⟩ := incunablelaw30_LetterCorrects.mono_l k
    refine ⟨?_, ?_⟩
    · intro y0 y1 y2 y3 y4 y5 y6
      unfold incunablelaw30_LetterCorrects.l0
      repeat' first
      | (with_reducible exact ih0 _ _ _ _ _ _ _)
      | (with_reducible exact ih1 _ _ _ _)
      | (with_reducible exact incunablelaw30_Awake.mono _)
      | (with_reducible exact incunableref30_Correct.mono _ _ _ _)
      | (with_reducible exact letter_Correct.mono _ _ _ _)
      | (with_reducible exact LeO.refl _)
      | (with_reducible exact LeO.none _)
      | (with_reducible refine LeO.ite ?_ ?_)
      | (with_reducible refine LeO.bind ?_ (fun _ => ?_))
      | exact ih0 _ _ _ _ _ _ _
      | exact ih1 _ _ _ _
      | exact incunablelaw30_Awake.mono _
      | exact incunableref30_Correct.mono _ _ _ _
      | exact letter_Correct.mono _ _ _ _
      | exact LeO.none _
      | refine LeO.ite ?_ ?_
      | refine LeO.bind ?_ (fun _ => ?_)
    · intro y0 y1 y2 y3
      unfold incunablelaw30_LetterCorrects.j1
      repeat' first
      | (with_reducible exact ih0 _ _ _ _ _ _ _)
      | (with_reducible exact ih1 _ _ _ _)
      | (with_reducible exact incunablelaw30_Awake.mono _)
      | (with_reducible exact incunableref30_Correct.mono _ _ _ _)
      | (with_reducible exact letter_Correct.mono _ _ _ _)
      | (with_reducible exact LeO.refl _)
      | (with_reducible exact LeO.none _)
      | (with_reducible refine LeO.ite ?_ ?_)
      | (with_reducible refine LeO.bind ?_ (fun _ => ?_))
      | exact ih0 _ _ _ _ _ _ _
      | exact ih1 _ _ _ _
      | exact incunablelaw30_Awake.mono _
      | exact incunableref30_Correct.mono _ _ _ _
      | exact letter_Correct.mono _ _ _ _
      | exact LeO.none _
      | refine LeO.ite ?_ ?_
      | refine LeO.bind ?_ (fun _ => ?_)
theorem incunablelaw30_LetterCorrects.mono : ∀ a0 a1 a2 k, LeO (incunablelaw30_LetterCorrects.f k a0 a1 a2) (incunablelaw30_LetterCorrects.f (k + 1) a0 a1 a2) := by
  intro a0 a1 a2 k
  obtain ⟨ih0, ih1⟩ := incunablelaw30_LetterCorrects.mono_l k
  unfold incunablelaw30_LetterCorrects.f
  repeat' first
      | (with_reducible exact ih0 _ _ _ _ _ _ _)
      | (with_reducible exact ih1 _ _ _ _)
      | (with_reducible exact incunablelaw30_Awake.mono _)
      | (with_reducible exact incunableref30_Correct.mono _ _ _ _)
      | (with_reducible exact letter_Correct.mono _ _ _ _)
      | (with_reducible exact LeO.refl _)
      | (with_reducible exact LeO.none _)
      | (with_reducible refine LeO.ite ?_ ?_)
      | (with_reducible refine LeO.bind ?_ (fun _ => ?_))
      | exact ih0 _ _ _ _ _ _ _
      | exact ih1 _ _ _ _
      | exact incunablelaw30_Awake.mono _
      | exact incunableref30_Correct.mono _ _ _ _
      | exact letter_Correct.mono _ _ _ _
      | exact LeO.none _
      | refine LeO.ite ?_ ?_
      | refine LeO.bind ?_ (fun _ => ?_)
set_option maxHeartbeats 8000000 in
set_option maxRecDepth 100000 in
theorem incunablelaw30_LetterCorrects.calls (k : Nat) (A0 : Option Addr) (c0 : Nat) (l0 : List ByteArray) (a1 : ByteArray) (a2 : Int) (r : Bool) (w : World) (hr0 : Kd.C Kd.string w A0 l0.length l0) (hc0 : l0.length ≤ c0) (h : incunablelaw30_LetterCorrects.f k l0 a1 a2 = some r) (hr_ : r = true) :
    Calls Try.prog 4 #[.slice A0 l0.length c0, .string a1, .int .i64 a2] w fun e w' => e = .returned (.bool r) ∧ Below w.heap.size w w' := by
  have HR_ := Aside0.mk hr_
  clear hr_
  have HR0 := Aside0.mk hr0
  have HC0 := Aside0.mk hc0
  clear hr0 hc0
  have HB := Aside0.mk (Below.refl w.heap.size w)
  have H : (incunablelaw30_LetterCorrects.l0 k l0 a1 a2 (a1.size : Int) l0 (l0.length : Int) 0) = some r := h
  clear h
  have H' := Aside0.mk H
  clear H
  go_enter Try.func4, Try.ntmps4
  go_wp2
  go_loopg [7, 18] k (fun kq v7 v18 w' => ∃ (x7_1 : Int) (x18_1 : Int), v7 = .int .i64 x7_1 ∧ v18 = .int .i64 x18_1 ∧ Aside0 (incunablelaw30_LetterCorrects.l0 kq l0 a1 a2 x7_1 l0 (l0.length : Int) x18_1 = some r) ∧ Aside0 (kq ≤ k) ∧ Aside0 (Below w.heap.size w w'))
  case atStart => exact ⟨((a1.size : Int)), (0), (by first | rfl | (simp; done) | (simp [*]; done)), (by first | rfl | (simp; done) | (simp [*]; done)), H', ⟨Nat.le_refl _⟩, ⟨by repeat (first | (with_reducible first | exact HB.out | apply below_alloc | apply pw_below_drewN | apply below_drew1) | exact HB.out)⟩⟩
  case round =>
    clear H'
    try clear p2
    obtain ⟨x7_1, x18_1, rfl, rfl, HA, HK1, HB⟩ := hrel
    cases gk with
    | zero => exact absurd HA.out (by simp [incunablelaw30_LetterCorrects.l0])
    | succ k1 =>
      have H := HA.out
      clear HA
      simp only [incunablelaw30_LetterCorrects.l0] at H
      by_cases c4 : x18_1 < (l0.length : Int)
      · rw [if_pos c4] at H
        have c4b0 : decide (x18_1 < (l0.length : Int)) = true := decide_eq_true c4
        clear c4
        by_cases c5 : 0 ≤ x18_1
        · rw [if_pos c5] at H
          have c5b0 : decide (0 ≤ x18_1) = true := decide_eq_true c5
          clear c5
          by_cases c6 : x18_1 < (l0.length : Int)
          · rw [if_pos c6] at H
            have c6b0 : decide (x18_1 < (l0.length : Int)) = true := decide_eq_true c6
            clear c6
            have H' := Aside0.mk H
            clear H
            have p150 : 0 ≤ (x18_1 : Int) := of_decide_eq_true (by first | (with_reducible assumption) | assumption)
            have q150 : x18_1 < (l0.length : Int) := of_decide_eq_true (by first | (with_reducible assumption) | assumption)
            obtain ⟨ad150, e150, hx150_0⟩ := Kd.at_string HR0.out x18_1 p150 q150
            cases e150
            replace hx150_0 := (HB.out.cell (World.block_lt_of_cell? w _ hx150_0)).trans hx150_0
            replace p150 := eq_true p150
            replace q150 := eq_true q150
            go_wp2
            go_roundg k1
            case measure => have := HK1.out; omega
            case rel => exact ⟨(wrap64 (x7_1 + ((rdOf ByteArray.empty l0 x18_1).size : Int))), (wrap64 (x18_1 + 1)), (by first | rfl | (simp; done) | (simp [*]; done)), (by first | rfl | (simp; done) | (simp [*]; done)), H', ⟨by have := HK1.out; omega⟩, ⟨by repeat (first | (with_reducible first | exact HB.out | apply below_alloc | apply pw_below_drewN | apply below_drew1) | exact HB.out)⟩⟩
          · rw [if_neg c6] at H
            exact absurd H (by simp)
        · rw [if_neg c5] at H
          exact absurd H (by simp)
      · rw [if_neg c4] at H
        have c4b0 : decide (x18_1 < (l0.length : Int)) = false := decide_eq_false c4
        clear c4
        have HC7 := Aside0.mk H
        clear H
        go_upto_region 7 with (fail)
        go_cut [33] (fun v33 wc => ∃ (kq : Nat) (x33_6 : Bool), v33 = .bool x33_6 ∧ Aside0 (incunablelaw30_LetterCorrects.j1 kq l0 a1 a2 x33_6 = some r) ∧ Aside0 (kq ≤ k1) ∧ Aside0 (Below w.heap.size w wc))
        case first =>
          have H := HC7.out
          clear HC7
          by_cases c8 : (l0.length : Int) > 2000
          · rw [if_pos c8] at H
            have c8b0 : decide (2000 < (l0.length : Int)) = true := decide_eq_true c8
            have c8b1 : decide (2000 < l0.length) = true := decide_eq_true (by omega)
            clear c8
            (first | rw [c8b0] | (simp only [i64_w, i32_w]; rw [c8b0]) | skip)
            have H' := Aside0.mk H
            clear H
            go_wp2
            go_meet
            case rel => exact ⟨_, (true), (by first | rfl | (simp; done) | (simp [*]; done)), H', ⟨by have := HK1.out; first | omega | exact Nat.le_refl _⟩, ⟨by repeat (first | (with_reducible first | exact HB.out | apply below_alloc | apply pw_below_drewN | apply below_drew1) | exact HB.out)⟩⟩
          · rw [if_neg c8] at H
            have c8b0 : decide (2000 < (l0.length : Int)) = false := decide_eq_false c8
            have c8b1 : decide (2000 < l0.length) = false := decide_eq_false (by omega)
            clear c8
            (first | rw [c8b0] | (simp only [i64_w, i32_w]; rw [c8b0]) | skip)
            have H' := Aside0.mk H
            clear H
            go_wp2
            go_meet
            case rel => exact ⟨_, (decide (x7_1 > 20000)), (by first | rfl | (simp; done) | (simp [*]; done)), H', ⟨by have := HK1.out; first | omega | exact Nat.le_refl _⟩, ⟨by repeat (first | (with_reducible first | exact HB.out | apply below_alloc | apply pw_below_drewN | apply below_drew1) | exact HB.out)⟩⟩
        case rest =>
          clear HC7
          try clear p1
          try clear q1
          try clear hx1
          try clear p2
          try clear c4
          try clear c4b0
          try clear c5
          try clear c5b0
          try clear c6
          try clear c6b0
          try clear p6
          try clear c8
          try clear c8b0
          try clear c8b1
          try clear hx150_0
          try clear p150
          try clear p2
          try clear q150
          obtain ⟨kq, x33_6, rfl, HA, HJ6, HB⟩ := hcut
          cases kq with
          | zero => exact absurd HA.out (by simp [incunablelaw30_LetterCorrects.j1])
          | succ kj6 =>
            have H := HA.out
            clear HA
            simp only [incunablelaw30_LetterCorrects.j1] at H
            by_cases c9 : x33_6 = true
            · subst c9
              have H1 : ((incunablelaw30_Awake.f kj6).bind fun t151 => (some t151)) = some r := by rw [if_pos rfl] at H; exact H
              clear H
              have H := H1
              clear H1
              replace H := Option.bind_eq_some_iff.mp H
              obtain ⟨t151, A100, H⟩ := H
              replace H : (some t151) = some r := H
              have A10 := Aside0.mk A100
              clear A100
              obtain rfl := Option.some.inj H
              go_wp2_with (first | ((with_reducible refine gate_callee (f := 6) rfl ?_); refine goesL_ (some 34) rfl rfl Try.func6 (by kernel_rfl) rfl #[] rfl (by (try simp only [List.map_toArray, List.map_cons, List.map_nil]); first | done | rfl | (simp only [List.length_drop, List.length_take]; rfl)) ?_; (with_reducible refine (incunablelaw30_Awake.calls kj6  t151 _ A10.out).mono ?_); rintro e w11 ⟨rfl, hb⟩; refine ⟨_, rfl, ?_⟩; have n0_ := Aside0.mk (below_step (by repeat (first | (with_reducible first | exact HB.out | apply below_alloc | apply pw_below_drewN | apply below_drew1) | exact HB.out)) hb); clear HB; have HB := n0_; clear n0_; (try clear hb); (try clear hb2); (try clear hk); (try clear hi)))
              go_ret
              exact ⟨by first | rfl | (simp [errW_none, errW_some] <;> rfl) | (simp [*, errW_none, errW_some] <;> rfl), by repeat (first | (with_reducible first | exact HB.out | apply below_alloc | apply pw_below_drewN | apply below_drew1) | exact HB.out)⟩
            · replace c9 := Bool.eq_false_iff.mpr c9
              subst c9
              have H1 : ((letter_Correct.f kj6 l0 a1 a2).bind fun bt152 => ((incunableref30_Correct.f kj6 l0 a1 a2).bind fun bt154 => (if bt152.1.toList = bt154.1.toList then (if bt152.2 = bt154.2 then ((incunablelaw30_Awake.f kj6).bind fun t156 => (some t156)) else (some false)) else (some false)))) = some r := by rw [if_neg (show ¬ (false = true) by decide)] at H; exact H
              clear H
              have H := H1
              clear H1
              replace H := Option.bind_eq_some_iff.mp H
              obtain ⟨⟨t152, t153⟩, A120, H⟩ := H
              replace H : ((incunableref30_Correct.f kj6 l0 a1 a2).bind fun bt154 => (if t152.toList = bt154.1.toList then (if t153 = bt154.2 then ((incunablelaw30_Awake.f kj6).bind fun t156 => (some t156)) else (some false)) else (some false))) = some r := H
              have A12 := Aside0.mk A120
              clear A120
              replace H := Option.bind_eq_some_iff.mp H
              obtain ⟨⟨t154, t155⟩, A130, H⟩ := H
              replace H : (if t152.toList = t154.toList then (if t153 = t155 then ((incunablelaw30_Awake.f kj6).bind fun t156 => (some t156)) else (some false)) else (some false)) = some r := H
              have A13 := Aside0.mk A130
              clear A130
              by_cases c14 : t152.toList = t154.toList
              · rw [if_pos c14] at H
                have c14b0 : (t152.toList == t154.toList) = true := beq_iff_eq.mpr c14
                have c14b1 : (t152.toList != t154.toList) = false := bne_eq_false_iff_eq.mpr c14
                clear c14
                by_cases c15 : t153 = t155
                · rw [if_pos c15] at H
                  have c15b0 : (t153 == t155) = true := beq_iff_eq.mpr c15
                  have c15b1 : (t153 != t155) = false := bne_eq_false_iff_eq.mpr c15
                  clear c15
                  replace H := Option.bind_eq_some_iff.mp H
                  obtain ⟨t156, A160, H⟩ := H
                  replace H : (some t156) = some r := H
                  have A16 := Aside0.mk A160
                  clear A160
                  obtain rfl := Option.some.inj H
                  go_wp2_with (first | ((with_reducible refine gate_callee (f := 9) rfl ?_); refine goesL_ (some 39) rfl rfl Try.func9 (by kernel_rfl) rfl #[.slice A0 l0.length c0, .string a1, .int .i64 a2] rfl (by (try simp only [List.map_toArray, List.map_cons, List.map_nil]); first | done | rfl | (simp only [List.length_drop, List.length_take]; rfl)) ?_; (with_reducible refine (letter_Correct.calls kj6 _ _ l0 a1 a2 t152 t153 _ ?side1 ?side2 A12.out).mono ?_); (case side1 => repeat (first | exact (Kd.C_below HR0.out HB.out) | (with_reducible refine Kd.C_alloc ?_ _) | (with_reducible refine Kd.C_drewN ?_ _) | (with_reducible refine Kd.C_drew ?_))); (case side2 => exact HC0.out); rintro e w17 ⟨rfl, hb⟩; refine ⟨_, rfl, ?_⟩; have n0_ := Aside0.mk (below_step (by repeat (first | (with_reducible first | exact HB.out | apply below_alloc | apply pw_below_drewN | apply below_drew1) | exact HB.out)) hb); clear HB; have HB := n0_; clear n0_; (try clear hb); (try clear hb2); (try clear hk); (try clear hi)) | ((with_reducible refine gate_callee (f := 10) rfl ?_); refine goesL_ (some 46) rfl rfl Try.func10 (by kernel_rfl) rfl #[.slice A0 l0.length c0, .string a1, .int .i64 a2] rfl (by (try simp only [List.map_toArray, List.map_cons, List.map_nil]); first | done | rfl | (simp only [List.length_drop, List.length_take]; rfl)) ?_; (with_reducible refine (incunableref30_Correct.calls kj6 _ _ l0 a1 a2 t154 t155 _ ?side1 ?side2 A13.out).mono ?_); (case side1 => repeat (first | exact (Kd.C_below HR0.out HB.out) | (with_reducible refine Kd.C_alloc ?_ _) | (with_reducible refine Kd.C_drewN ?_ _) | (with_reducible refine Kd.C_drew ?_))); (case side2 => exact HC0.out); rintro e w18 ⟨rfl, hb⟩; refine ⟨_, rfl, ?_⟩; have n0_ := Aside0.mk (below_step (by repeat (first | (with_reducible first | exact HB.out | apply below_alloc | apply pw_below_drewN | apply below_drew1) | exact HB.out)) hb); clear HB; have HB := n0_; clear n0_; (try clear hb); (try clear hb2); (try clear hk); (try clear hi)) | (go_at_call 6; (with_reducible refine (incunablelaw30_Awake.calls kj6  t156 _ A16.out).mono ?_); rintro e w19 ⟨rfl, hb⟩; have n0_ := Aside0.mk (below_step (by repeat (first | (with_reducible first | exact HB.out | apply below_alloc | apply pw_below_drewN | apply below_drew1) | exact HB.out)) hb); clear HB; have HB := n0_; clear n0_; (try clear hb); (try clear hb2); (try clear hk); (try clear hi)))
                  go_ret
                  exact ⟨by first | rfl | (simp [errW_none, errW_some] <;> rfl) | (simp [*, errW_none, errW_some] <;> rfl), by repeat (first | (with_reducible first | exact HB.out | apply below_alloc | apply pw_below_drewN | apply below_drew1) | exact HB.out)⟩
                · rw [if_neg c15] at H
                  have c15b0 : (t153 == t155) = false := beq_eq_false_iff_ne.mpr c15
                  have c15b1 : (t153 != t155) = true := bne_iff_ne.mpr c15
                  exact absurd ((Option.some.inj H).trans HR_.out) (by decide)
              · rw [if_neg c14] at H
                have c14b0 : (t152.toList == t154.toList) = false := beq_eq_false_iff_ne.mpr c14
                have c14b1 : (t152.toList != t154.toList) = true := bne_iff_ne.mpr c14
                exact absurd ((Option.some.inj H).trans HR_.out) (by decide)

/-- THE ONE PURE STATEMENT of incunablelaw30_LetterCorrects: yours. -/
def incunablelaw30_LetterCorrects.Pure : Prop := ∀ (l0 : List ByteArray) (a1 : ByteArray) (a2 : Int), (l0.length ≤ 9223372036854775807 ∧ l0.length * 16 ≤ 140737488351232 ∧ ∀ y0_ ∈ l0, y0_.size ≤ 140737488351232) → (a1.size ≤ 140737488351232) → ((Lit.int .i64 a2).wf = true) → ∃ k, incunablelaw30_LetterCorrects.f k l0 a1 a2 = some true
theorem incunablelaw30_LetterCorrects.walk (P : incunablelaw30_LetterCorrects.Pure) (A0 : Option Addr) (c0 : Nat) (l0 : List ByteArray) (a1 : ByteArray) (a2 : Int) (w : World) (hr0 : Kd.C Kd.string w A0 l0.length l0) (hc0 : l0.length ≤ c0) (g0 : l0.length ≤ 9223372036854775807 ∧ l0.length * 16 ≤ 140737488351232 ∧ ∀ y0_ ∈ l0, y0_.size ≤ 140737488351232) (g1 : a1.size ≤ 140737488351232) (g2 : (Lit.int .i64 a2).wf = true) :
    Calls Try.prog 4 #[.slice A0 l0.length c0, .string a1, .int .i64 a2] w fun e w' => e = .returned (.bool true) ∧ Below w.heap.size w w' := by
  obtain ⟨k, h⟩ := P l0 a1 a2 g0 g1 g2
  refine (incunablelaw30_LetterCorrects.calls k A0 c0 l0 a1 a2 true w hr0 hc0 h rfl).mono ?_
  rintro e w' ⟨rfl, hd⟩
  exact ⟨rfl, hd⟩

end Go.Proofs.Ytmggeebpbacoiaa.PLetterCorrects
