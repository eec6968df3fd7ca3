-- Written by a program of this session (wip/tools/myprint.py) over the kit's print. Not trusted: Lean checks it.
import Derived.Test.YtmggeebpbacoiaaPLetterWordsx0
import Derived.Test.YtmggeebpbacoiaaPLetterWordsx1
import Derived.Test.YtmggeebpbacoiaaPLetterWordsx2
namespace Go.Proofs.Ytmggeebpbacoiaa.PLetterWords
open Go.RowKit Go.Proofs.YtmggeebpbacoiaaW.PrintWords Go.Proofs.YtmggeebpbacoiaaW.PrintLast Go.Proofs.YtmggeebpbacoiaaW.PrintMore
attribute [local go_sem] max2_int min2_int max_two min_two max_three min_three max_four min_four   -- for this text's walks alone
set_option linter.unusedVariables false
set_option linter.unusedSimpArgs false

/-! ### incunableref30_Words: function 8 -/
def incunableref30_Words.f (k : Nat) (a0 : ByteArray) (a1 : ByteArray) : Option (Int × Int) := if (a0.size : Int) > 100 then (some (0, 2)) else (if (a1.size : Int) > 100 then (some (0, 2)) else ((incunableref30_words.f k a0 a1).bind fun t136 => (some (t136, 0))))
theorem incunableref30_Words.mono : ∀ a0 a1 k, LeO (incunableref30_Words.f k a0 a1) (incunableref30_Words.f (k + 1) a0 a1) := by
  intro a0 a1 k
  unfold incunableref30_Words.f
  repeat' first
      | (with_reducible exact incunableref30_words.mono _ _ _)
      | (with_reducible exact LeO.refl _)
      | (with_reducible exact LeO.none _)
      | (with_reducible refine LeO.ite ?_ ?_)
      | (with_reducible refine LeO.bind ?_ (fun _ => ?_))
      | exact incunableref30_words.mono _ _ _
      | exact LeO.none _
      | refine LeO.ite ?_ ?_
      | refine LeO.bind ?_ (fun _ => ?_)
set_option maxHeartbeats 8000000 in
set_option maxRecDepth 100000 in
theorem incunableref30_Words.calls (k : Nat) (a0 : ByteArray) (a1 : ByteArray) (r1 : Int) (r2 : Int) (w : World) (h : incunableref30_Words.f k a0 a1 = some (r1, r2)) :
    Calls Try.prog 8 #[.string a0, .string a1] w fun e w' => e = .returned (.tuple #[.int .i64 r1, .int .i64 r2]) ∧ Below w.heap.size w w' := by
  have HB := Aside0.mk (Below.refl w.heap.size w)
  have H : (if (a0.size : Int) > 100 then (some (0, 2)) else (if (a1.size : Int) > 100 then (some (0, 2)) else ((incunableref30_words.f k a0 a1).bind fun t136 => (some (t136, 0))))) = some (r1, r2) := h
  clear h
  by_cases c3 : (a0.size : Int) > 100
  · rw [if_pos c3] at H
    have c3b0 : decide (100 < (a0.size : Int)) = true := decide_eq_true c3
    have c3b1 : decide (100 < a0.size) = true := decide_eq_true (by omega)
    clear c3
    simp only [Option.some.injEq, Prod.mk.injEq] at H
    obtain ⟨rfl, rfl⟩ := H
    go_enter Try.func8, Try.ntmps8
    go_wp2
    go_ret2
    exact ⟨by first | rfl | (simp [errW_none, errW_some] <;> rfl) | (simp [*, errW_none, errW_some] <;> rfl), by repeat (first | (with_reducible first | exact HB.out | apply below_alloc | apply pw_below_drewN | apply below_drew1) | exact HB.out)⟩
  · rw [if_neg c3] at H
    have c3b0 : decide (100 < (a0.size : Int)) = false := decide_eq_false c3
    have c3b1 : decide (100 < a0.size) = false := decide_eq_false (by omega)
    clear c3
    by_cases c4 : (a1.size : Int) > 100
    · rw [if_pos c4] at H
      have c4b0 : decide (100 < (a1.size : Int)) = true := decide_eq_true c4
      have c4b1 : decide (100 < a1.size) = true := decide_eq_true (by omega)
      clear c4
      simp only [Option.some.injEq, Prod.mk.injEq] at H
      obtain ⟨rfl, rfl⟩ := H
      go_enter Try.func8, Try.ntmps8
      go_wp2
      go_ret2
      exact ⟨by first | rfl | (simp [errW_none, errW_some] <;> rfl) | (simp [*, errW_none, errW_some] <;> rfl), by repeat (first | (with_reducible first | exact HB.out | apply below_alloc | apply pw_below_drewN | apply below_drew1) | exact HB.out)⟩
    · rw [if_neg c4] at H
      have c4b0 : decide (100 < (a1.size : Int)) = false := decide_eq_false c4
      have c4b1 : decide (100 < a1.size) = false := decide_eq_false (by omega)
      clear c4
      replace H := Option.bind_eq_some_iff.mp H
      obtain ⟨t136, A50, H⟩ := H
      replace H : (some (t136, 0)) = some (r1, r2) := H
      have A5 := Aside0.mk A50
      clear A50
      simp only [Option.some.injEq, Prod.mk.injEq] at H
      obtain ⟨rfl, rfl⟩ := H
      go_enter Try.func8, Try.ntmps8
      go_wp2_with (first | ((with_reducible refine gate_callee (f := 16) rfl ?_); refine goesL_ (some 16) rfl rfl Try.func16 (by kernel_rfl) rfl #[.string a0, .string a1] rfl (by (try simp only [List.map_toArray, List.map_cons, List.map_nil]); first | done | rfl | (simp only [List.length_drop, List.length_take]; rfl)) ?_; (with_reducible refine (incunableref30_words.calls k a0 a1 t136 _ A5.out).mono ?_); rintro e w6 ⟨rfl, hb⟩; refine ⟨_, rfl, ?_⟩; have n0_ := Aside0.mk (below_step (by repeat (first | (with_reducible first | exact HB.out | apply below_alloc | apply pw_below_drewN | apply below_drew1) | exact HB.out)) hb); clear HB; have HB := n0_; clear n0_; (try clear hb); (try clear hb2); (try clear hk); (try clear hi)))
      go_ret2
      exact ⟨by first | rfl | (simp [errW_none, errW_some] <;> rfl) | (simp [*, errW_none, errW_some] <;> rfl), by repeat (first | (with_reducible first | exact HB.out | apply below_alloc | apply pw_below_drewN | apply below_drew1) | exact HB.out)⟩

/-! ### incunablelaw30_LetterWords: function 3 -/
mutual
def incunablelaw30_LetterWords.j0 : Nat → ByteArray → ByteArray → ByteArray → Int → Int → Bool → Option (Bool)
  | 0, _, _, _, _, _, _ => none
  | k + 1, x0, x1, x2, x7, x8, x60 => if x60 = true then (some false) else (if x8 = 0 then (incunablelaw30_LetterWords.j1 k x0 x1 x2 x7 (decide ((x2.size : Int) > 100))) else (incunablelaw30_LetterWords.j1 k x0 x1 x2 x7 true))
def incunablelaw30_LetterWords.j1 : Nat → ByteArray → ByteArray → ByteArray → Int → Bool → Option (Bool)
  | 0, _, _, _, _, _ => none
  | k + 1, x0, x1, x2, x7, x67 => if x67 = true then ((incunablelaw30_Awake.f k).bind fun t144 => (some t144)) else ((letter_Words.f k x0 x2).bind fun bt145 => ((letter_Words.f k x2 x1).bind fun bt147 => (if bt145.2 = 0 then (if bt147.2 = 0 then (if x7 ≤ (wrap64 (bt145.1 + bt147.1)) then (if ((x7 == 0) == (x0.toList == x1.toList)) = true then ((incunablelaw30_Awake.f k).bind fun t149 => (some t149)) else (some false)) else (some false)) else (some false)) else (some false))))
end
def incunablelaw30_LetterWords.f (k : Nat) (a0 : ByteArray) (a1 : ByteArray) (a2 : ByteArray) : Option (Bool) := if (wrap64 ((wrap64 ((a0.size : Int) + (a1.size : Int))) + (a2.size : Int))) > 1000 then ((incunablelaw30_Awake.f k).bind fun t137 => (some t137)) else ((letter_Words.f k a0 a1).bind fun bt138 => ((letter_Words.f k a1 a0).bind fun bt140 => ((incunableref30_Words.f k a0 a1).bind fun bt142 => (if bt138.1 = bt142.1 then (if bt140.1 = bt142.1 then (if bt138.2 = bt142.2 then (incunablelaw30_LetterWords.j0 k a0 a1 a2 bt138.1 bt138.2 (bt140.2 != bt142.2)) else (incunablelaw30_LetterWords.j0 k a0 a1 a2 bt138.1 bt138.2 true)) else (incunablelaw30_LetterWords.j0 k a0 a1 a2 bt138.1 bt138.2 true)) else (incunablelaw30_LetterWords.j0 k a0 a1 a2 bt138.1 bt138.2 true)))))
theorem incunablelaw30_LetterWords.mono_l : ∀ k, (∀ y0 y1 y2 y3 y4 y5, LeO (incunablelaw30_LetterWords.j0 k y0 y1 y2 y3 y4 y5) (incunablelaw30_LetterWords.j0 (k + 1) y0 y1 y2 y3 y4 y5)) ∧ (∀ y0 y1 y2 y3 y4, LeO (incunablelaw30_LetterWords.j1 k y0 y1 y2 y3 y4) (incunablelaw30_LetterWords.j1 (k + 1) y0 y1 y2 y3 y4))
  | 0 => ⟨fun _ _ _ _ _ _ r h => by simp [incunablelaw30_LetterWords.j0] at h, fun _ _ _ _ _ r h => by simp [incunablelaw30_LetterWords.j1] at h⟩
  | k + 1 => by
    obtain ⟨ih0, ih1⟩ := incunablelaw30_LetterWords.mono_l k
    refine ⟨?_, ?_⟩
    · intro y0 y1 y2 y3 y4 y5
      unfold incunablelaw30_LetterWords.j0
      repeat' first
      | (with_reducible exact ih0 _ _ _ _ _ _)
      | (with_reducible exact ih1 _ _ _ _ _)
      | (with_reducible exact incunablelaw30_Awake.mono _)
      | (with_reducible exact incunableref30_Words.mono _ _ _)
      | (with_reducible exact letter_Words.mono _ _ _)
      | (with_reducible exact LeO.refl _)
      | (with_reducible exact LeO.none _)
      | (with_reducible refine LeO.ite ?_ ?_)
      | (with_reducible refine LeO.bind ?_ (fun _ => ?_))
      | exact ih0 _ _ _ _ _ _
      | exact ih1 _ _ _ _ _
      | exact incunablelaw30_Awake.mono _
      | exact incunableref30_Words.mono _ _ _
      | exact letter_Words.mono _ _ _
      | exact LeO.none _
      | refine LeO.ite ?_ ?_
      | refine LeO.bind ?_ (fun _ => ?_)
    · intro y0 y1 y2 y3 y4
      unfold incunablelaw30_LetterWords.j1
      repeat' first
      | (with_reducible exact ih0 _ _ _ _ _ _)
      | (with_reducible exact ih1 _ _ _ _ _)
      | (with_reducible exact incunablelaw30_Awake.mono _)
      | (with_reducible exact incunableref30_Words.mono _ _ _)
      | (with_reducible exact letter_Words.mono _ _ _)
      | (with_reducible exact LeO.refl _)
      | (with_reducible exact LeO.none _)
      | (with_reducible refine LeO.ite ?_ ?_)
      | (with_reducible refine LeO.bind ?_ (fun _ => ?_))
      | exact ih0 _ _ _ _ _ _
      | exact ih1 _ _ _ _ _
      | exact incunablelaw30_Awake.mono _
      | exact incunableref30_Words.mono _ _ _
      | exact letter_Words.mono _ _ _
      | exact LeO.none _
      | refine LeO.ite ?_ ?_
      | refine LeO.bind ?_ (fun _ => ?_)
theorem incunablelaw30_LetterWords.mono : ∀ a0 a1 a2 k, LeO (incunablelaw30_LetterWords.f k a0 a1 a2) (incunablelaw30_LetterWords.f (k + 1) a0 a1 a2) := by
  intro a0 a1 a2 k
  obtain ⟨ih0, ih1⟩ := incunablelaw30_LetterWords.mono_l k
  unfold incunablelaw30_LetterWords.f
  repeat' first
      | (with_reducible exact ih0 _ _ _ _ _ _)
      | (with_reducible exact ih1 _ _ _ _ _)
      | (with_reducible exact incunablelaw30_Awake.mono _)
      | (with_reducible exact incunableref30_Words.mono _ _ _)
      | (with_reducible exact letter_Words.mono _ _ _)
      | (with_reducible exact LeO.refl _)
      | (with_reducible exact LeO.none _)
      | (with_reducible refine LeO.ite ?_ ?_)
      | (with_reducible refine LeO.bind ?_ (fun _ => ?_))
      | exact ih0 _ _ _ _ _ _
      | exact ih1 _ _ _ _ _
      | exact incunablelaw30_Awake.mono _
      | exact incunableref30_Words.mono _ _ _
      | exact letter_Words.mono _ _ _
      | exact LeO.none _
      | refine LeO.ite ?_ ?_
      | refine LeO.bind ?_ (fun _ => ?_)
set_option maxHeartbeats 8000000 in
set_option maxRecDepth 100000 in
theorem incunablelaw30_LetterWords.calls (k : Nat) (a0 : ByteArray) (a1 : ByteArray) (a2 : ByteArray) (r : Bool) (w : World) (h : incunablelaw30_LetterWords.f k a0 a1 a2 = some r) (hr_ : r = true) :
    Calls Try.prog 3 #[.string a0, .string a1, .string a2] w fun e w' => e = .returned (.bool r) ∧ Below w.heap.size w w' := by
  have HR_ := Aside0.mk hr_
  clear hr_
  have HB := Aside0.mk (Below.refl w.heap.size w)
  have H : (if (wrap64 ((wrap64 ((a0.size : Int) + (a1.size : Int))) + (a2.size : Int))) > 1000 then ((incunablelaw30_Awake.f k).bind fun t137 => (some t137)) else ((letter_Words.f k a0 a1).bind fun bt138 => ((letter_Words.f k a1 a0).bind fun bt140 => ((incunableref30_Words.f k a0 a1).bind fun bt142 => (if bt138.1 = bt142.1 then (if bt140.1 = bt142.1 then (if bt138.2 = bt142.2 then (incunablelaw30_LetterWords.j0 k a0 a1 a2 bt138.1 bt138.2 (bt140.2 != bt142.2)) else (incunablelaw30_LetterWords.j0 k a0 a1 a2 bt138.1 bt138.2 true)) else (incunablelaw30_LetterWords.j0 k a0 a1 a2 bt138.1 bt138.2 true)) else (incunablelaw30_LetterWords.j0 k a0 a1 a2 bt138.1 bt138.2 true)))))) = some r := h
  clear h
  by_cases c4 : (wrap64 ((wrap64 ((a0.size : Int) + (a1.size : Int))) + (a2.size : Int))) > 1000
  · rw [if_pos c4] at H
    have c4b0 : decide (1000 < (wrap64 ((wrap64 ((a0.size : Int) + (a1.size : Int))) + (a2.size : Int)))) = true := decide_eq_true c4
    clear c4
    replace H := Option.bind_eq_some_iff.mp H
    obtain ⟨t137, A50, H⟩ := H
    replace H : (some t137) = some r := H
    have A5 := Aside0.mk A50
    clear A50
    obtain rfl := Option.some.inj H
    go_enter Try.func3, Try.ntmps3
    go_wp2_with (first | ((with_reducible refine gate_callee (f := 6) rfl ?_); refine goesL_ (some 24) rfl rfl Try.func6 (by kernel_rfl) rfl #[] rfl (by (try simp only [List.map_toArray, List.map_cons, List.map_nil]); first | done | rfl | (simp only [List.length_drop, List.length_take]; rfl)) ?_; (with_reducible refine (incunablelaw30_Awake.calls k  t137 _ A5.out).mono ?_); rintro e w6 ⟨rfl, hb⟩; refine ⟨_, rfl, ?_⟩; have n0_ := Aside0.mk (below_step (by repeat (first | (with_reducible first | exact HB.out | apply below_alloc | apply pw_below_drewN | apply below_drew1) | exact HB.out)) hb); clear HB; have HB := n0_; clear n0_; (try clear hb); (try clear hb2); (try clear hk); (try clear hi)))
    go_ret
    exact ⟨by first | rfl | (simp [errW_none, errW_some] <;> rfl) | (simp [*, errW_none, errW_some] <;> rfl), by repeat (first | (with_reducible first | exact HB.out | apply below_alloc | apply pw_below_drewN | apply below_drew1) | exact HB.out)⟩
  · rw [if_neg c4] at H
    have c4b0 : decide (1000 < (wrap64 ((wrap64 ((a0.size : Int) + (a1.size : Int))) + (a2.size : Int)))) = false := decide_eq_false c4
    clear c4
    replace H := Option.bind_eq_some_iff.mp H
    obtain ⟨⟨t138, t139⟩, A70, H⟩ := H
    replace H : ((letter_Words.f k a1 a0).bind fun bt140 => ((incunableref30_Words.f k a0 a1).bind fun bt142 => (if t138 = bt142.1 then (if bt140.1 = bt142.1 then (if t139 = bt142.2 then (incunablelaw30_LetterWords.j0 k a0 a1 a2 t138 t139 (bt140.2 != bt142.2)) else (incunablelaw30_LetterWords.j0 k a0 a1 a2 t138 t139 true)) else (incunablelaw30_LetterWords.j0 k a0 a1 a2 t138 t139 true)) else (incunablelaw30_LetterWords.j0 k a0 a1 a2 t138 t139 true)))) = some r := H
    have A7 := Aside0.mk A70
    clear A70
    replace H := Option.bind_eq_some_iff.mp H
    obtain ⟨⟨t140, t141⟩, A80, H⟩ := H
    replace H : ((incunableref30_Words.f k a0 a1).bind fun bt142 => (if t138 = bt142.1 then (if t140 = bt142.1 then (if t139 = bt142.2 then (incunablelaw30_LetterWords.j0 k a0 a1 a2 t138 t139 (t141 != bt142.2)) else (incunablelaw30_LetterWords.j0 k a0 a1 a2 t138 t139 true)) else (incunablelaw30_LetterWords.j0 k a0 a1 a2 t138 t139 true)) else (incunablelaw30_LetterWords.j0 k a0 a1 a2 t138 t139 true))) = some r := H
    have A8 := Aside0.mk A80
    clear A80
    replace H := Option.bind_eq_some_iff.mp H
    obtain ⟨⟨t142, t143⟩, A90, H⟩ := H
    replace H : (if t138 = t142 then (if t140 = t142 then (if t139 = t143 then (incunablelaw30_LetterWords.j0 k a0 a1 a2 t138 t139 (t141 != t143)) else (incunablelaw30_LetterWords.j0 k a0 a1 a2 t138 t139 true)) else (incunablelaw30_LetterWords.j0 k a0 a1 a2 t138 t139 true)) else (incunablelaw30_LetterWords.j0 k a0 a1 a2 t138 t139 true)) = some r := H
    have A9 := Aside0.mk A90
    clear A90
    have HC10 := Aside0.mk H
    clear H
    go_enter Try.func3, Try.ntmps3
    go_upto_region 6 with (first | ((with_reducible refine gate_callee (f := 7) rfl ?_); refine goesL_ (some 28) rfl rfl Try.func7 (by kernel_rfl) rfl #[.string a0, .string a1] rfl (by (try simp only [List.map_toArray, List.map_cons, List.map_nil]); first | done | rfl | (simp only [List.length_drop, List.length_take]; rfl)) ?_; (with_reducible refine (letter_Words.calls k a0 a1 t138 t139 _ A7.out).mono ?_); rintro e w11 ⟨rfl, hb⟩; refine ⟨_, rfl, ?_⟩; have n0_ := Aside0.mk (below_step (by repeat (first | (with_reducible first | exact HB.out | apply below_alloc | apply pw_below_drewN | apply below_drew1) | exact HB.out)) hb); clear HB; have HB := n0_; clear n0_; (try clear hb); (try clear hb2); (try clear hk); (try clear hi)) | ((with_reducible refine gate_callee (f := 7) rfl ?_); refine goesL_ (some 34) rfl rfl Try.func7 (by kernel_rfl) rfl #[.string a1, .string a0] rfl (by (try simp only [List.map_toArray, List.map_cons, List.map_nil]); first | done | rfl | (simp only [List.length_drop, List.length_take]; rfl)) ?_; (with_reducible refine (letter_Words.calls k a1 a0 t140 t141 _ A8.out).mono ?_); rintro e w12 ⟨rfl, hb⟩; refine ⟨_, rfl, ?_⟩; have n0_ := Aside0.mk (below_step (by repeat (first | (with_reducible first | exact HB.out | apply below_alloc | apply pw_below_drewN | apply below_drew1) | exact HB.out)) hb); clear HB; have HB := n0_; clear n0_; (try clear hb); (try clear hb2); (try clear hk); (try clear hi)) | ((with_reducible refine gate_callee (f := 8) rfl ?_); refine goesL_ (some 40) rfl rfl Try.func8 (by kernel_rfl) rfl #[.string a0, .string a1] rfl (by (try simp only [List.map_toArray, List.map_cons, List.map_nil]); first | done | rfl | (simp only [List.length_drop, List.length_take]; rfl)) ?_; (with_reducible refine (incunableref30_Words.calls k a0 a1 t142 t143 _ A9.out).mono ?_); rintro e w13 ⟨rfl, hb⟩; refine ⟨_, rfl, ?_⟩; have n0_ := Aside0.mk (below_step (by repeat (first | (with_reducible first | exact HB.out | apply below_alloc | apply pw_below_drewN | apply below_drew1) | exact HB.out)) hb); clear HB; have HB := n0_; clear n0_; (try clear hb); (try clear hb2); (try clear hk); (try clear hi)))
    (try simp only [Act.put, List.setIfInBounds_toArray, List.set_cons_zero, List.set_cons_succ])
    go_cut [60] (fun v60 wc => ∃ (kq : Nat) (x60_9 : Bool), v60 = .bool x60_9 ∧ Aside0 (incunablelaw30_LetterWords.j0 kq a0 a1 a2 t138 t139 x60_9 = some r) ∧ Aside0 (kq ≤ k) ∧ Aside0 (Below w.heap.size w wc))
    case first =>
      have H := HC10.out
      clear HC10
      by_cases c14 : t138 = t142
      · rw [if_pos c14] at H
        have c14b0 : (t138 == t142) = true := beq_iff_eq.mpr c14
        have c14b1 : (t138 != t142) = false := bne_eq_false_iff_eq.mpr c14
        clear c14
        (first | rw [c14b0] | (simp only [i64_w, i32_w]; rw [c14b0]) | skip)
        by_cases c15 : t140 = t142
        · rw [if_pos c15] at H
          have c15b0 : (t140 == t142) = true := beq_iff_eq.mpr c15
          have c15b1 : (t140 != t142) = false := bne_eq_false_iff_eq.mpr c15
          clear c15
          by_cases c16 : t139 = t143
          · rw [if_pos c16] at H
            have c16b0 : (t139 == t143) = true := beq_iff_eq.mpr c16
            have c16b1 : (t139 != t143) = false := bne_eq_false_iff_eq.mpr c16
            clear c16
            have H' := Aside0.mk H
            clear H
            go_wp2
            go_meet
            case rel => exact ⟨_, ((t141 != t143)), (by first | rfl | (simp; done) | (simp [*]; done)), H', ⟨by first | omega | exact Nat.le_refl _⟩, ⟨by repeat (first | (with_reducible first | exact HB.out | apply below_alloc | apply pw_below_drewN | apply below_drew1) | exact HB.out)⟩⟩
          · rw [if_neg c16] at H
            have c16b0 : (t139 == t143) = false := beq_eq_false_iff_ne.mpr c16
            have c16b1 : (t139 != t143) = true := bne_iff_ne.mpr c16
            have H' := Aside0.mk H
            clear H
            go_wp2
            go_meet
            case rel => exact ⟨_, (true), (by first | rfl | (simp; done) | (simp [*]; done)), H', ⟨by first | omega | exact Nat.le_refl _⟩, ⟨by repeat (first | (with_reducible first | exact HB.out | apply below_alloc | apply pw_below_drewN | apply below_drew1) | exact HB.out)⟩⟩
        · rw [if_neg c15] at H
          have c15b0 : (t140 == t142) = false := beq_eq_false_iff_ne.mpr c15
          have c15b1 : (t140 != t142) = true := bne_iff_ne.mpr c15
          have H' := Aside0.mk H
          clear H
          go_wp2
          go_meet
          case rel => exact ⟨_, (true), (by first | rfl | (simp; done) | (simp [*]; done)), H', ⟨by first | omega | exact Nat.le_refl _⟩, ⟨by repeat (first | (with_reducible first | exact HB.out | apply below_alloc | apply pw_below_drewN | apply below_drew1) | exact HB.out)⟩⟩
      · rw [if_neg c14] at H
        have c14b0 : (t138 == t142) = false := beq_eq_false_iff_ne.mpr c14
        have c14b1 : (t138 != t142) = true := bne_iff_ne.mpr c14
        (first | rw [c14b0] | (simp only [i64_w, i32_w]; rw [c14b0]) | skip)
        have H' := Aside0.mk H
        clear H
        go_wp2
        go_meet
        case rel => exact ⟨_, (true), (by first | rfl | (simp; done) | (simp [*]; done)), H', ⟨by first | omega | exact Nat.le_refl _⟩, ⟨by repeat (first | (with_reducible first | exact HB.out | apply below_alloc | apply pw_below_drewN | apply below_drew1) | exact HB.out)⟩⟩
    case rest =>
      clear HC10
      try clear c1
      try clear p2
      try clear c3
      try clear c4
      try clear c4b0
      try clear c6
      try clear p6
      try clear c7
      try clear c8
      try clear c14
      try clear c14b0
      try clear c14b1
      try clear c15
      try clear c15b0
      try clear c15b1
      try clear c16
      try clear c16b0
      try clear c16b1
      obtain ⟨kq, x60_9, rfl, HA, HJ9, HB⟩ := hcut
      cases kq with
      | zero => exact absurd HA.out (by simp [incunablelaw30_LetterWords.j0])
      | succ kj9 =>
        have H := HA.out
        clear HA
        simp only [incunablelaw30_LetterWords.j0] at H
        by_cases c17 : x60_9 = true
        · subst c17
          have H1 : (some false) = some r := by rw [if_pos rfl] at H; exact H
          clear H
          have H := H1
          clear H1
          exact absurd ((Option.some.inj H).trans HR_.out) (by decide)
        · replace c17 := Bool.eq_false_iff.mpr c17
          subst c17
          have H1 : (if t139 = 0 then (incunablelaw30_LetterWords.j1 kj9 a0 a1 a2 t138 (decide ((a2.size : Int) > 100))) else (incunablelaw30_LetterWords.j1 kj9 a0 a1 a2 t138 true)) = some r := by rw [if_neg (show ¬ (false = true) by decide)] at H; exact H
          clear H
          have H := H1
          clear H1
          have HC18 := Aside0.mk H
          clear H
          go_upto_region 8 with (fail)
          go_cut [67] (fun v67 wc => ∃ (kq : Nat) (x67_17 : Bool), v67 = .bool x67_17 ∧ Aside0 (incunablelaw30_LetterWords.j1 kq a0 a1 a2 t138 x67_17 = some r) ∧ Aside0 (kq ≤ kj9) ∧ Aside0 (Below w.heap.size w wc))
          case first =>
            have H := HC18.out
            clear HC18
            by_cases c19 : t139 = 0
            · rw [if_pos c19] at H
              have c19b0 : (t139 == 0) = true := beq_iff_eq.mpr c19
              have c19b1 : (t139 != 0) = false := bne_eq_false_iff_eq.mpr c19
              clear c19
              (first | rw [c19b0] | (simp only [i64_w, i32_w]; rw [c19b0]) | skip)
              have H' := Aside0.mk H
              clear H
              go_wp2
              go_meet
              case rel => exact ⟨_, (decide ((a2.size : Int) > 100)), (by first | rfl | (simp; done) | (simp [*]; done)), H', ⟨by have := HJ9.out; first | omega | exact Nat.le_refl _⟩, ⟨by repeat (first | (with_reducible first | exact HB.out | apply below_alloc | apply pw_below_drewN | apply below_drew1) | exact HB.out)⟩⟩
            · rw [if_neg c19] at H
              have c19b0 : (t139 == 0) = false := beq_eq_false_iff_ne.mpr c19
              have c19b1 : (t139 != 0) = true := bne_iff_ne.mpr c19
              (first | rw [c19b0] | (simp only [i64_w, i32_w]; rw [c19b0]) | skip)
              have H' := Aside0.mk H
              clear H
              go_wp2
              go_meet
              case rel => exact ⟨_, (true), (by first | rfl | (simp; done) | (simp [*]; done)), H', ⟨by have := HJ9.out; first | omega | exact Nat.le_refl _⟩, ⟨by repeat (first | (with_reducible first | exact HB.out | apply below_alloc | apply pw_below_drewN | apply below_drew1) | exact HB.out)⟩⟩
          case rest =>
            clear HC18
            try clear c1
            try clear p2
            try clear c3
            try clear c4
            try clear c4b0
            try clear c6
            try clear p6
            try clear c7
            try clear c8
            try clear c14
            try clear c14b0
            try clear c14b1
            try clear c15
            try clear c15b0
            try clear c15b1
            try clear c16
            try clear c16b0
            try clear c16b1
            try clear c17
            try clear c19
            try clear c19b0
            try clear c19b1
            try clear p2
            try clear p6
            obtain ⟨kq, x67_17, rfl, HA, HJ17, HB⟩ := hcut
            cases kq with
            | zero => exact absurd HA.out (by simp [incunablelaw30_LetterWords.j1])
            | succ kj17 =>
              have H := HA.out
              clear HA
              simp only [incunablelaw30_LetterWords.j1] at H
              by_cases c20 : x67_17 = true
              · subst c20
                have H1 : ((incunablelaw30_Awake.f kj17).bind fun t144 => (some t144)) = some r := by rw [if_pos rfl] at H; exact H
                clear H
                have H := H1
                clear H1
                replace H := Option.bind_eq_some_iff.mp H
                obtain ⟨t144, A210, H⟩ := H
                replace H : (some t144) = some r := H
                have A21 := Aside0.mk A210
                clear A210
                obtain rfl := Option.some.inj H
                go_wp2_with (first | ((with_reducible refine gate_callee (f := 6) rfl ?_); refine goesL_ (some 68) rfl rfl Try.func6 (by kernel_rfl) rfl #[] rfl (by (try simp only [List.map_toArray, List.map_cons, List.map_nil]); first | done | rfl | (simp only [List.length_drop, List.length_take]; rfl)) ?_; (with_reducible refine (incunablelaw30_Awake.calls kj17  t144 _ A21.out).mono ?_); rintro e w22 ⟨rfl, hb⟩; refine ⟨_, rfl, ?_⟩; have n0_ := Aside0.mk (below_step (by repeat (first | (with_reducible first | exact HB.out | apply below_alloc | apply pw_below_drewN | apply below_drew1) | exact HB.out)) hb); clear HB; have HB := n0_; clear n0_; (try clear hb); (try clear hb2); (try clear hk); (try clear hi)))
                go_ret
                exact ⟨by first | rfl | (simp [errW_none, errW_some] <;> rfl) | (simp [*, errW_none, errW_some] <;> rfl), by repeat (first | (with_reducible first | exact HB.out | apply below_alloc | apply pw_below_drewN | apply below_drew1) | exact HB.out)⟩
              · replace c20 := Bool.eq_false_iff.mpr c20
                subst c20
                have H1 : ((letter_Words.f kj17 a0 a2).bind fun bt145 => ((letter_Words.f kj17 a2 a1).bind fun bt147 => (if bt145.2 = 0 then (if bt147.2 = 0 then (if t138 ≤ (wrap64 (bt145.1 + bt147.1)) then (if ((t138 == 0) == (a0.toList == a1.toList)) = true then ((incunablelaw30_Awake.f kj17).bind fun t149 => (some t149)) else (some false)) else (some false)) else (some false)) else (some false)))) = some r := by rw [if_neg (show ¬ (false = true) by decide)] at H; exact H
                clear H
                have H := H1
                clear H1
                replace H := Option.bind_eq_some_iff.mp H
                obtain ⟨⟨t145, t146⟩, A230, H⟩ := H
                replace H : ((letter_Words.f kj17 a2 a1).bind fun bt147 => (if t146 = 0 then (if bt147.2 = 0 then (if t138 ≤ (wrap64 (t145 + bt147.1)) then (if ((t138 == 0) == (a0.toList == a1.toList)) = true then ((incunablelaw30_Awake.f kj17).bind fun t149 => (some t149)) else (some false)) else (some false)) else (some false)) else (some false))) = some r := H
                have A23 := Aside0.mk A230
                clear A230
                replace H := Option.bind_eq_some_iff.mp H
                obtain ⟨⟨t147, t148⟩, A240, H⟩ := H
                replace H : (if t146 = 0 then (if t148 = 0 then (if t138 ≤ (wrap64 (t145 + t147)) then (if ((t138 == 0) == (a0.toList == a1.toList)) = true then ((incunablelaw30_Awake.f kj17).bind fun t149 => (some t149)) else (some false)) else (some false)) else (some false)) else (some false)) = some r := H
                have A24 := Aside0.mk A240
                clear A240
                by_cases c25 : t146 = 0
                · rw [if_pos c25] at H
                  have c25b0 : (t146 == 0) = true := beq_iff_eq.mpr c25
                  have c25b1 : (t146 != 0) = false := bne_eq_false_iff_eq.mpr c25
                  clear c25
                  by_cases c26 : t148 = 0
                  · rw [if_pos c26] at H
                    have c26b0 : (t148 == 0) = true := beq_iff_eq.mpr c26
                    have c26b1 : (t148 != 0) = false := bne_eq_false_iff_eq.mpr c26
                    clear c26
                    by_cases c27 : t138 ≤ (wrap64 (t145 + t147))
                    · rw [if_pos c27] at H
                      have c27b0 : decide (t138 ≤ (wrap64 (t145 + t147))) = true := decide_eq_true c27
                      clear c27
                      by_cases c28 : ((t138 == 0) == (a0.toList == a1.toList)) = true
                      · rw [if_pos c28] at H
                        have c28b0 : ((t138 == 0) == (a0.toList == a1.toList)) = true := c28
                        (try (have c28b1 : decide ((t138 == 0) = (a0.toList == a1.toList)) = true := by simpa using c28))
                        (try (have c28b2 : ((t138 == 0) == (a0.toList == a1.toList)) = true := by simpa using c28))
                        clear c28
                        replace H := Option.bind_eq_some_iff.mp H
                        obtain ⟨t149, A290, H⟩ := H
                        replace H : (some t149) = some r := H
                        have A29 := Aside0.mk A290
                        clear A290
                        obtain rfl := Option.some.inj H
                        go_wp2_with (first | ((with_reducible refine gate_callee (f := 7) rfl ?_); refine goesL_ (some 72) rfl rfl Try.func7 (by kernel_rfl) rfl #[.string a0, .string a2] rfl (by (try simp only [List.map_toArray, List.map_cons, List.map_nil]); first | done | rfl | (simp only [List.length_drop, List.length_take]; rfl)) ?_; (with_reducible refine (letter_Words.calls kj17 a0 a2 t145 t146 _ A23.out).mono ?_); rintro e w30 ⟨rfl, hb⟩; refine ⟨_, rfl, ?_⟩; have n0_ := Aside0.mk (below_step (by repeat (first | (with_reducible first | exact HB.out | apply below_alloc | apply pw_below_drewN | apply below_drew1) | exact HB.out)) hb); clear HB; have HB := n0_; clear n0_; (try clear hb); (try clear hb2); (try clear hk); (try clear hi)) | ((with_reducible refine gate_callee (f := 7) rfl ?_); refine goesL_ (some 78) rfl rfl Try.func7 (by kernel_rfl) rfl #[.string a2, .string a1] rfl (by (try simp only [List.map_toArray, List.map_cons, List.map_nil]); first | done | rfl | (simp only [List.length_drop, List.length_take]; rfl)) ?_; (with_reducible refine (letter_Words.calls kj17 a2 a1 t147 t148 _ A24.out).mono ?_); rintro e w31 ⟨rfl, hb⟩; refine ⟨_, rfl, ?_⟩; have n0_ := Aside0.mk (below_step (by repeat (first | (with_reducible first | exact HB.out | apply below_alloc | apply pw_below_drewN | apply below_drew1) | exact HB.out)) hb); clear HB; have HB := n0_; clear n0_; (try clear hb); (try clear hb2); (try clear hk); (try clear hi)) | (go_at_call 6; (with_reducible refine (incunablelaw30_Awake.calls kj17  t149 _ A29.out).mono ?_); rintro e w32 ⟨rfl, hb⟩; have n0_ := Aside0.mk (below_step (by repeat (first | (with_reducible first | exact HB.out | apply below_alloc | apply pw_below_drewN | apply below_drew1) | exact HB.out)) hb); clear HB; have HB := n0_; clear n0_; (try clear hb); (try clear hb2); (try clear hk); (try clear hi)))
                        go_ret
                        exact ⟨by first | rfl | (simp [errW_none, errW_some] <;> rfl) | (simp [*, errW_none, errW_some] <;> rfl), by repeat (first | (with_reducible first | exact HB.out | apply below_alloc | apply pw_below_drewN | apply below_drew1) | exact HB.out)⟩
                      · rw [if_neg c28] at H
                        have c28b0 : ((t138 == 0) == (a0.toList == a1.toList)) = false := by simpa using c28
                        (try (have c28b1 : decide ((t138 == 0) = (a0.toList == a1.toList)) = false := by simpa using c28))
                        (try (have c28b2 : ((t138 == 0) == (a0.toList == a1.toList)) = false := by simpa using c28))
                        (try (have c28b3 : ¬ ((t138 == 0) = (a0.toList == a1.toList)) := by simpa using c28))
                        clear c28
                        exact absurd ((Option.some.inj H).trans HR_.out) (by decide)
                    · rw [if_neg c27] at H
                      have c27b0 : decide (t138 ≤ (wrap64 (t145 + t147))) = false := decide_eq_false c27
                      clear c27
                      exact absurd ((Option.some.inj H).trans HR_.out) (by decide)
                  · rw [if_neg c26] at H
                    have c26b0 : (t148 == 0) = false := beq_eq_false_iff_ne.mpr c26
                    have c26b1 : (t148 != 0) = true := bne_iff_ne.mpr c26
                    exact absurd ((Option.some.inj H).trans HR_.out) (by decide)
                · rw [if_neg c25] at H
                  have c25b0 : (t146 == 0) = false := beq_eq_false_iff_ne.mpr c25
                  have c25b1 : (t146 != 0) = true := bne_iff_ne.mpr c25
                  exact absurd ((Option.some.inj H).trans HR_.out) (by decide)

/-- THE ONE PURE STATEMENT of incunablelaw30_LetterWords: yours. -/
def incunablelaw30_LetterWords.Pure : Prop := ∀ (a0 : ByteArray) (a1 : ByteArray) (a2 : ByteArray), (a0.size ≤ 140737488351232) → (a1.size ≤ 140737488351232) → (a2.size ≤ 140737488351232) → ∃ k, incunablelaw30_LetterWords.f k a0 a1 a2 = some true
theorem incunablelaw30_LetterWords.walk (P : incunablelaw30_LetterWords.Pure) (a0 : ByteArray) (a1 : ByteArray) (a2 : ByteArray) (w : World)  (g0 : a0.size ≤ 140737488351232) (g1 : a1.size ≤ 140737488351232) (g2 : a2.size ≤ 140737488351232) :
    Calls Try.prog 3 #[.string a0, .string a1, .string a2] w fun e w' => e = .returned (.bool true) ∧ Below w.heap.size w w' := by
  obtain ⟨k, h⟩ := P a0 a1 a2 g0 g1 g2
  refine (incunablelaw30_LetterWords.calls k a0 a1 a2 true w h rfl).mono ?_
  rintro e w' ⟨rfl, hd⟩
  exact ⟨rfl, hd⟩

end Go.Proofs.Ytmggeebpbacoiaa.PLetterWords
