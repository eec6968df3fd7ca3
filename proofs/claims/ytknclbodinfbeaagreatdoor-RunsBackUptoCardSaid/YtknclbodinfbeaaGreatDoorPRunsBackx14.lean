-- printed (wip/tools/myprint.py)
import Derived.Test.YtknclbodinfbeaaGreatDoorPRunsBackx0
import Derived.Test.YtknclbodinfbeaaGreatDoorPRunsBackx11
import Derived.Test.YtknclbodinfbeaaGreatDoorPRunsBackx13
namespace Go.Proofs.YtknclbodinfbeaaGreatDoor.PRunsBack
open Go.RowKit Go.Proofs.YtknclbodinfbeaaGreatDoorW.PrintWords Go.Proofs.YtknclbodinfbeaaGreatDoorW.PrintLast Go.Proofs.YtknclbodinfbeaaGreatDoorW.PrintMore
attribute [local go_sem] yo ym yC yD xU xT yn yq
set_option linter.unusedVariables false
set_option linter.unusedSimpArgs false
set_option maxHeartbeats 8000000
set_option maxRecDepth 100000
mutual
def vq.j0 : Nat → List Int → Int → Bool → Option (List Int)
 | 0, _, _, _ => none
 | k + 1, x0, x6, e => if e = true then (none) else (if 0 ≤ (wrap64 (x6)) then (if (wrap64 (x6) : Int).toNat ≤ 281474976710656 then ((some (List.replicate (wrap64 (x6) : Int).toNat 0 : List Int)).bind fun d => (vq.l0 k (cpy d 0 d.length x0) ((min x0.length d.length : Nat) : Int))) else (none)) else (none))
def vq.l0 : Nat → List Int → Int → Option (List Int)
 | 0, _, _ => none
 | k + 1, x7, x8 => if x8 < (x7.length : Int) then (if 0 ≤ x8 then (if x8 ≤ (x7.length : Int) then ((some (x7.drop (x8 : Int).toNat : List Int)).bind fun d => ((some (x7.take (x8 : Int).toNat : List Int)).bind fun e => (vq.l0 k (cpy x7 ((x8 : Int).toNat) d.length e) (wrap64 (x8 + ((min e.length d.length : Nat) : Int)))))) else (none)) else (none)) else (some x7)
end
def vq.f (k : Nat) (l0 : List Int) (a1 : Int) : Option (List Int) := if a1 < 0 then (none) else ((bits_Mul.f (IntKind.u64.wrap ((l0.length : Int))) (IntKind.u64.wrap (a1))).bind fun d => (if d.1 > 0 then (vq.j0 k l0 d.2 true) else (vq.j0 k l0 d.2 (decide (d.2 > 9223372036854775807)))))
theorem vq.wt : ∀ k, (∀ y0 y1 y2, vK (vq.j0 k y0 y1 y2) (vq.j0 (k + 1) y0 y1 y2)) ∧ (∀ y0 y1, vK (vq.l0 k y0 y1) (vq.l0 (k + 1) y0 y1))
 | 0 => ⟨fun _ _ _ r h => by simp [vq.j0] at h, fun _ _ r h => by simp [vq.l0] at h⟩
 | k + 1 => by
  obtain ⟨ih0, ih1⟩ := vq.wt k
  refine ⟨?_, ?_⟩
  ·intro y0 y1 y2
   unfold vq.j0
   repeat' first
   | (with_reducible exact ih0 _ _ _)
   | (with_reducible exact ih1 _ _)
   | (with_reducible first | exact vK.refl _ | exact vK.none _ | apply vK.ite | apply vK.bind | intro)
  ·intro y0 y1
   unfold vq.l0
   repeat' first
   | (with_reducible exact ih0 _ _ _)
   | (with_reducible exact ih1 _ _)
   | (with_reducible first | exact vK.refl _ | exact vK.none _ | apply vK.ite | apply vK.bind | intro)
theorem vq.mono : ∀ a0 a1 k, vK (vq.f k a0 a1) (vq.f (k + 1) a0 a1) := by
 intro a0 a1 k
 obtain ⟨ih0, ih1⟩ := vq.wt k
 unfold vq.f
 repeat' first
   | (with_reducible exact ih0 _ _ _)
   | (with_reducible exact ih1 _ _)
   | (with_reducible first | exact vK.refl _ | exact vK.none _ | apply vK.ite | apply vK.bind | intro)
def vq.T9 : Bool × List (List Nat × List Nat) := (true, [([], []), ([], []), ([], []), ([1, 2], [1, 2]), ([], []), ([], []), ([4, 5], [4, 5]), ([3, 6], [3, 6]), ([0, 7], [0, 7]), ([8, 7, 0, 1, 2, 3, 4, 5, 6, 7, 8], [0, 2, 5, 8])])
def vq.B9 : List Nat := [0, 0, 0, 6, 0, 0, 48, 126, 255, 511]
theorem vq.tab9 : zi .any (opsOf Tryz.f46 9) = vq.T9 := by kernel_rfl
theorem vq.bits9 : yv vq.T9.2 vq.B9 = true := by kernel_rfl
theorem vq.calls (k : Nat) (A0 : Option Addr) (c0 : Nat) (l0 : List Int) (a1 : Int) (r : List Int) (w : World) (hr0 : Kd.C (Kd.int .u8) w A0 l0.length l0) (b7 : l0.length ≤ c0) (h : vq.f k l0 a1 = some r) :
  Calls Tryz.prog 46 #[.slice A0 l0.length c0, .int .i64 a1] w fun e w' => ∃ b8 : Value, e = .returned (b8) ∧ Kd.R (Kd.int .u8) 5 w' w.heap.size (fun _ => True) b8 r ∧ Below w.heap.size w w' := by
 have d4 := aE hr0
 have f4 := aE b7
 clear hr0 b7
 have HB := bR w
 have H := h
 unfold vq.f at H
 clear h
 by_cases c3 : a1 < 0
 ·rw [if_pos c3] at H
  exact nB H
 ·rw [if_neg c3] at H
  have e8 := decide_eq_false c3
  clear c3
  obtain ⟨⟨b9, J⟩, A4, H⟩ := oB H
  try dsimp only at H
  have b0 := aE H
  clear H
  go_enter Tryz.func46, Tryz.ntmps46
  go_upto_region 4 with (first | ((with_reducible refine gf 64 rfl ?_); refine gL (some 18) rfl rfl Tryz.func64 rfl #[.int .u64 (IntKind.u64.wrap ((l0.length : Int))), .int .u64 (IntKind.u64.wrap (a1))] rfl ?_; (with_reducible refine (bits_Mul.calls (IntKind.u64.wrap ((l0.length : Int))) (IntKind.u64.wrap (a1)) b9 J _ A4.out).mono ?_); rintro e w' ⟨rfl, ⟨nd, rfl⟩⟩; refine ⟨_, rfl, ?_⟩))
  (try simp only [Act.put, List.setIfInBounds_toArray, List.set_cons_zero, List.set_cons_succ])
  go_cut [26] (fun d5 wc => ∃ (kq : Nat) (E : Bool), d5 = .bool E ∧ Aside0 (vq.j0 kq l0 J E = some r) ∧ Aside0 (kq ≤ k) ∧ Aside0 (Below w.heap.size w wc))
  case first =>
   have H := b0.out
   clear b0
   rcases iL H with H1 | H1 <;> clear H <;> obtain ⟨H, T⟩ := H1
   ·(first | rw [T] | (simp only [xS, zK]; rw [T]) | skip)
    have H' := aE H
    clear H
    go_wp2
    go_meet
    case rel => exact ⟨_, (true), rq, H', ⟨by first | omega | exact Nat.le_refl _⟩, ⟨bl⟩⟩
   ·(first | rw [T] | (simp only [xS, zK]; rw [T]) | skip)
    have H' := aE H
    clear H
    go_wp2
    go_meet
    case rel => exact ⟨_, (decide (J > 9223372036854775807)), rq, H', ⟨by first | omega | exact Nat.le_refl _⟩, ⟨bl⟩⟩
  case rest =>
   clear b0
   obtain ⟨kq, E, rfl, HA, d0, HB⟩ := hcut
   cases kq with
   | zero => exact absurd HA.out (by simp [vq.j0])
   | succ kj4 =>
    have H := HA.out
    clear HA
    simp only [vq.j0] at H
    by_cases c7 : E = true
    ·subst c7
     rw [if_pos rfl] at H
     exact nB H
    ·replace c7 := Bool.eq_false_iff.mpr c7
     subst c7
     rw [if_neg Bool.false_ne_true] at H
     obtain ⟨G, X⟩ : ∃ j_ : Int, (wrap64 (J)) = j_ := ⟨_, rfl⟩
     replace H : (if 0 ≤ (G) then (if (G : Int).toNat ≤ 281474976710656 then ((some (List.replicate (G : Int).toNat 0 : List Int)).bind fun q => (vq.l0 kj4 (cpy q 0 q.length l0) ((min l0.length q.length : Nat) : Int))) else (none)) else (none)) = some r := by first | (rw [X] at H; exact H) | (simp only [X] at H ⊢; exact H)
     have d6 : (IntKind.i64.wrap (J)) = G := (xS _).trans X
     by_cases c9 : 0 ≤ (G)
     ·rw [if_pos c9] at H
      have e9 := eq_true c9
      have f0 := decide_eq_true c9
      clear c9
      by_cases c10 : (G : Int).toNat ≤ 281474976710656
      ·rw [if_pos c10] at H
       have d7 := eq_true c10
       have d8 := decide_eq_true c10
       clear c10
       obtain ⟨q, hy_⟩ : ∃ y_ : List Int, y_ = (List.replicate (G : Int).toNat 0) := ⟨_, rfl⟩
       replace H : (vq.l0 kj4 (cpy q 0 q.length l0) ((min l0.length q.length : Nat) : Int)) = some r := rh
       have Z := aE hy_
       clear hy_
       obtain ⟨a8, hy_⟩ : ∃ y_ : List Int, y_ = (cpy q 0 q.length l0) := ⟨_, rfl⟩
       replace H : (vq.l0 kj4 a8 ((min l0.length q.length : Nat) : Int)) = some r := rh
       have b1 := aE hy_
       clear hy_
       have H' := aE H
       clear H
       (try apply_assumption)
       go_wp2_with (first | ((with_reducible refine gd 30 rfl ?_); refine Kd.jN (Kd.int .u8) _ 5 rfl (N := 30) rfl 22 _ _ rfl G rfl rfl Tryz.underlying22 (.int .u8 0) 1 info5 rfl (by decide) (by omega) 0 (ok := fun _ => True) (okp := fun _ => True) rfl (fun _ hk => hk) trivial (dt) (Nat.le_trans (Nat.mul_le_mul_right _ (dt : G.toNat ≤ 281474976710656)) (by omega)) (Below.refl _ _) (Nat.le_refl _) ?_; intro f1 f5 L hb hg_ hnew_; clear hg_ hnew_; (first | rw [← Z.out] at L | (simp only [Int.reduceToNat] at L; rw [← Z.out] at L)); have n_ := aC (Kd.vS L bz) (aE (bs hb)); clear HB; obtain ⟨D, HB⟩ := n_; clear hb L; obtain ⟨B, x, d1⟩ := Kd.vY D.out; subst d1) | ((with_reducible refine wU (b := .copy) (xs := #[.tmp 31, .tmp 32]) rfl ?_); skip; have hk_ : 0 + q.length ≤ q.length := (by first | omega | (have h_ := (Kd.R_reads' (D.out)).1; omega)); refine Kd.R_copyin 0 (w0 := w) w.heap.size rfl (.tmp 31) (.tmp 32) 22 22 5 rfl Tryz.underlying22 (by kernel_rfl) (n := q.length) (c := x) (k := 0) (A0 := B) (xs := q) (ys := l0) rfl rfl ?hA (rU D.out) ?aR hk_ bl bz ?_; (case hA => exact (by first | rfl | (rw [if_pos rfl]) | (split <;> simp; done) | (split <;> simp [Go.Addr.add]))); (case aR => repeat (first | exact (Kd.wz d4.out HB.out) | (with_reducible refine Kd.yi ?_ _) | (with_reducible refine Kd.yg ?_ _) | (with_reducible refine Kd.yr ?_))); intro f6 ho hb hg; clear hk_; rw [← b1.out] at ho; have n_ := aC ho (aE hb); clear D HB; obtain ⟨D, HB⟩ := n_; clear ho hb hg))
       go_loopg [8] kj4 (fun kq v8 w' => ∃ (j : List Int) (d : Int), v8 = .int .i64 d ∧ Aside0 (vq.l0 kq j d = some r) ∧ Aside0 (kq ≤ kj4) ∧ Aside0 (Kd.R (Kd.int .u8) 5 w' w.heap.size (fun _ => True) (.slice B q.length x) j) ∧ Aside0 (Below w.heap.size w w'))
       case atStart => exact ⟨(a8), (((min l0.length q.length : Nat) : Int)), rq, H', ⟨Nat.le_refl _⟩, ⟨rU D.out⟩, ⟨bl⟩⟩
       case round =>
        clear H'
        obtain ⟨j, d, rfl, HA, d2, s, HB⟩ := hrel
        have z := (Kd.R_reads' s.out).1
        rw [z] at s
        (try simp only [z])
        cases gk with
        | zero => exact absurd HA.out (by simp [vq.l0])
        | succ k2 =>
         have H := HA.out
         clear HA
         simp only [vq.l0] at H
         by_cases Y : d < (j.length : Int)
         ·rw [if_pos Y] at H
          have M := decide_eq_true Y
          (try (have u := M; simp only [z] at u))
          clear Y
          by_cases a0 : 0 ≤ d
          ·rw [if_pos a0] at H
           have d9 := eq_true a0
           have e0 := decide_eq_true a0
           clear a0
           by_cases a2 : d ≤ (j.length : Int)
           ·rw [if_pos a2] at H
            have e1 := eq_true a2
            have b2 := decide_eq_true a2
            (try (have I := b2; simp only [z] at I))
            clear a2
            obtain ⟨t, hy_⟩ : ∃ y_ : List Int, y_ = (j.drop (d : Int).toNat) := ⟨_, rfl⟩
            replace H : ((some (j.take (d : Int).toNat : List Int)).bind fun y => (vq.l0 k2 (cpy j ((d : Int).toNat) t.length y) (wrap64 (d + ((min y.length t.length : Nat) : Int))))) = some r := rh
            have a3 := aE hy_
            clear hy_
            have e2 := eq_true (dt : 0 ≤ d)
            have e3 := eq_true (dt : d ≤ (j.length : Int))
            obtain ⟨y, hy_⟩ : ∃ y_ : List Int, y_ = (j.take (d : Int).toNat) := ⟨_, rfl⟩
            replace H : (vq.l0 k2 (cpy j ((d : Int).toNat) t.length y) (wrap64 (d + ((min y.length t.length : Nat) : Int)))) = some r := rh
            have a4 := aE hy_
            clear hy_
            obtain ⟨a9, hy_⟩ : ∃ y_ : List Int, y_ = (cpy j ((d : Int).toNat) t.length y) := ⟨_, rfl⟩
            replace H : (vq.l0 k2 a9 (wrap64 (d + ((min y.length t.length : Nat) : Int)))) = some r := rh
            have b3 := aE hy_
            clear hy_
            have H' := aE H
            clear H
            try go_wp2
            have n_ := aC (Kd.jT s.out) (aE (vy HB.out))
            clear s HB
            obtain ⟨s, HB⟩ := n_
            have b4 : (d : Int) ≤ ((j.length : Int) : Int) := dt
            obtain ⟨f2, a5, _, hsz21, _⟩ := info_parts info5
            have hroom21 : j.length ≤ x := (Kd.R_reads' s.out).2.1
            have hC21 : Kd.C (Kd.int .u8) _ B j.length j := (Kd.R_reads' s.out).2.2
            have d3 : (0 : Int) ≤ (d : Int) := dt
            have hcut21 := cut_from (P := Tryz.prog) 22 5 .i64 Tryz.underlying22 a5 1 hsz21 B j.length x d d3 b4
            have hr21 := Kd.C_drop (m := (d : Int).toNat) (c := x) hC21 (by omega) hroom21
            obtain ⟨e4, hA21⟩ : ∃ A1, A1 = (if x = (d : Int).toNat then B else (B : Option Addr).map (·.add ((d : Int).toNat * 1))) := ⟨_, rfl⟩
            obtain ⟨e5, a6⟩ : ∃ c1, c1 = x - (d : Int).toNat := ⟨_, rfl⟩
            have hy21 : t.length = j.length - (d : Int).toNat := (by rw [a3.out, List.length_drop] <;> omega)
            rw [show (j).drop (d : Int).toNat = t from a3.out.symm] at hr21
            replace hr21 : Kd.C (Kd.int .u8) _ e4 t.length t := (by rw [hA21]; exact hr21)
            rw [← hy21, ← hA21, ← a6] at hcut21
            have b5 := aE hr21
            have e6 := aE (show t.length ≤ e5 from by rw [hy21, a6]; exact Nat.sub_le_sub_right hroom21 _)
            clear hr21 hC21 hroom21 a5 hsz21 a6
            have KY21 := aE hy21
            have KA21 := aE hA21
            clear hy21 hA21
            have KL21 := aE (show (d : Int).toNat ≤ j.length from by omega)
            replace b4 := eq_true b4
            have b6 : (d : Int) ≤ ((j.length : Int) : Int) := dt
            obtain ⟨f3, a7, _, hsz22, _⟩ := info_parts info5
            have hroom22 : j.length ≤ x := (Kd.R_reads' s.out).2.1
            have hC22 : Kd.C (Kd.int .u8) _ B j.length j := (Kd.R_reads' s.out).2.2
            have hcut22 := cut_to (P := Tryz.prog) 22 5 .i64 Tryz.underlying22 a7 B j.length x d (dt) b6 hroom22
            have hr22 := Kd.C_take (m := (d : Int).toNat) hC22 (by omega)
            have hy22 : y.length = (d : Int).toNat := (by rw [a4.out, List.length_take]; omega)
            rw [← a4.out] at hr22
            rw [← hy22] at hcut22
            have O := aE hr22
            have e7 := aE (show y.length ≤ x from by omega)
            clear hr22 hC22 hroom22 a7 hsz22
            have KY22 := aE hy22
            clear hy22
            have KL22 := aE (show (d : Int).toNat ≤ j.length from by omega)
            replace b6 := eq_true b6
            refine st 10 (fun w' => True) [] (bv 10 0) vq.tab9 vq.bits9 trivial (fun hHeld HT_ HW_ => ?_)
            generalize wr.drew = f7 at s HB b5 O hHeld ⊢
            refine pu 0 38 (bv 10 1) HT_ rfl rfl ?_
            refine pu 1 39 (bv 10 3) HT_ rfl rfl ?_
            refine pu 2 40 (bv 10 7) HT_ rfl rfl ?_
            refine pu 3 41 (bv 10 15) HT_ rfl rfl ?_
            refine pu 4 42 (bv 10 31) HT_ rfl rfl ?_
            refine pu 5 43 (bv 10 63) HT_ rfl rfl ?_
            refine pu 6 44 (bv 10 127) HT_ rfl rfl ?_
            refine yA (i := 7) (N := some 45) (bv 10 255) rfl rfl (xl HT_.out (by kernel_rfl)) (by decide) (fun K hK => ?_)
            skip
            have hk_ : (d : Int).toNat + t.length ≤ j.length := (by have h_ := KY21.out; have h2_ := KL21.out; omega)
            refine Kd.R_copyin_step 0 (w0 := w) w.heap.size (by rfl) (.tmp 41) (.tmp 44) 22 22 5 rfl Tryz.underlying22 (by kernel_rfl) (n := j.length) (c := x) (k := (d : Int).toNat) (A0 := B) (xs := j) (ys := y) rfl rfl ?hA (rU s.out) ?aR hk_ bl bz ?_
            (case hA => exact KA21.out)
            (case aR => repeat (first | exact (by repeat (first | (with_reducible exact O.out) | (with_reducible refine Kd.yi ?_ _) | (with_reducible refine Kd.yg ?_ _) | (with_reducible refine Kd.yr ?_) | exact O.out)) | (with_reducible refine Kd.yi ?_ _) | (with_reducible refine Kd.yg ?_ _) | (with_reducible refine Kd.yr ?_)))
            intro f8 ho hb hg
            clear hk_
            rw [← b3.out] at ho
            have n_ := aC ho (aE hb)
            clear s HB
            obtain ⟨s, HB⟩ := n_
            clear ho hb hg
            refine hK.out _ _ trivial (fun hHeld => ?_)
            clear hK K
            refine nm (some 45) ?_
            refine pu 8 46 (bv 10 511) HT_ rfl rfl ?_
            refine pu 9 8 (bv 10 1023) HT_ rfl rfl ?_
            refine zd (xZ HT_.out (by kernel_rfl)) ?_
            try go_wp2
            (try simp only [← z])
            go_roundg k2
            case measure => have := d0.out; have := d2.out; omega
            case rel => exact ⟨(a9), (wrap64 (d + ((min y.length t.length : Nat) : Int))), rq, H', ⟨by have := d0.out; have := d2.out; omega⟩, ⟨by (try simp only [z]); (with_reducible repeat (first | apply Kd.R_alloc | apply Kd.qE | apply Kd.jT)); exact s.out⟩, ⟨bl⟩⟩
           ·rw [if_neg a2] at H
            exact nB H
          ·rw [if_neg a0] at H
           exact nB H
         ·rw [if_neg Y] at H
          have M := decide_eq_false Y
          (try (have u := M; simp only [z] at u))
          clear Y
          obtain rfl := Option.some.inj H
          go_wp2
          go_ret
          exact ⟨_, by first | rfl | (simp [wP, wQ] <;> rfl) | (simp only [← X]; first | rfl | (simp [wP, wQ] <;> rfl)) | (simp [*, wP, wQ] <;> rfl), rU s.out, bl⟩
      ·rw [if_neg c10] at H
       exact nB H
     ·rw [if_neg c9] at H
      exact nB H
def wI.l0 : Nat → Int → List Int → Int → List Int → Int → Bool → Option (List Int × Int × Int × Bool)
 | 0, _, _, _, _, _, _ => none
 | k + 1, x1, x8, x9, e, j, q => if (x8.length : Int) < x1 then ((wY.f k e j q (Int.tmod x9 2)).bind fun d => (if d.2.1 = 0 then (if d.1 = 0 then (if x9 > 0 then (some (([] : List Int), 3, d.2.2.1, d.2.2.2)) else (if d.1 > (wrap64 (x1 - (x8.length : Int))) then (some (([] : List Int), 3, d.2.2.1, d.2.2.2)) else ((vq.f k (([(Int.tmod x9 2) % 256] : List Int)) d.1).bind fun r => (if x8.length + r.length < 140737488355328 then (wI.l0 k x1 (x8 ++ r) (wrap64 (x9 + 1)) e d.2.2.1 d.2.2.2) else (none))))) else (if d.1 > (wrap64 (x1 - (x8.length : Int))) then (some (([] : List Int), 3, d.2.2.1, d.2.2.2)) else ((vq.f k (([(Int.tmod x9 2) % 256] : List Int)) d.1).bind fun s => (if x8.length + s.length < 140737488355328 then (wI.l0 k x1 (x8 ++ s) (wrap64 (x9 + 1)) e d.2.2.1 d.2.2.2) else (none))))) else (some (([] : List Int), d.2.1, d.2.2.1, d.2.2.2)))) else (some (x8, 0, j, q))
def wI.f (k : Nat) (d : List Int) (e : Int) (j : Bool) (a1 : Int) (l2 : List Int) : Option (List Int × Int × Int × Bool) := wI.l0 k a1 ([] : List Int) 0 d e j
theorem wI.wt : ∀ k, (∀ y0 y1 y2 y3 y4 y5, vK (wI.l0 k y0 y1 y2 y3 y4 y5) (wI.l0 (k + 1) y0 y1 y2 y3 y4 y5))
 | 0 => fun _ _ _ _ _ _ r h => by simp [wI.l0] at h
 | k + 1 => by
  have ih0 := wI.wt k
  ·intro y0 y1 y2 y3 y4 y5
   unfold wI.l0
   repeat' first
   | (with_reducible exact ih0 _ _ _ _ _ _)
   | (with_reducible exact wY.mono _ _ _ _ _)
   | (with_reducible exact vq.mono _ _ _)
   | (with_reducible first | exact vK.refl _ | exact vK.none _ | apply vK.ite | apply vK.bind | intro)
theorem wI.mono : ∀ a0 a1 a2 a3 a4 k, vK (wI.f k a0 a1 a2 a3 a4) (wI.f (k + 1) a0 a1 a2 a3 a4) := by
 intro a0 a1 a2 a3 a4 k
 have ih0 := wI.wt k
 unfold wI.f
 repeat' first
   | (with_reducible exact ih0 _ _ _ _ _ _)
   | (with_reducible exact wY.mono _ _ _ _ _)
   | (with_reducible exact vq.mono _ _ _)
   | (with_reducible first | exact vK.refl _ | exact vK.none _ | apply vK.ite | apply vK.bind | intro)
theorem wI.calls (k : Nat) (g : Nat) (t : List Int) (a0 : Int) (a2 : Bool) (a1 : Int) (A2 : Option Addr) (c2 : Nat) (l2 : List Int) (r1 : List Int) (r2 : Int) (r3 : Int) (r4 : Bool) (w0 w : World) (hI : vo w0 w g t a0 a2) (hB : Below w0.heap.size w0 w) (hr2 : Kd.C (Kd.int .u8) w A2 l2.length l2) (d2 : l2.length ≤ c2) (hf2 : ∀ ad, A2 = some ad → 0 < l2.length → ad.block ≠ g) (gx : Nat) (hX : Xok g gx tU qf qk tW w) (h : wI.f k t a0 a2 a1 l2 = some (r1, r2, r3, r4)) :
  Calls Tryz.prog 26 #[.pointer (some ⟨gx, 0, none⟩), .int .i64 a1, .slice A2 l2.length c2] w fun e w' => ∃ d3 : Value, e = .returned (.tuple #[d3, .int .i64 r2]) ∧ Kd.R (Kd.int .u8) 5 w' w.heap.size (fun _ => True) d3 r1 ∧ vo w0 w' g t r3 r4 ∧ Below w0.heap.size w0 w' ∧ vr w w' g none := by
 have h6 := aE hr2
 have h7 := aE d2
 clear hr2 d2
 have d := aE hI
 have HK := aE (vr.refl w g none)
 have HL := aE hB.size
 clear hI
 have HW0 := aE hB.size
 have HB := aE hB
 clear hB
 have H : (wI.l0 k a1 ([] : List Int) 0 t a0 a2) = some (r1, r2, r3, r4) := h
 clear h
 have H' := aE H
 clear H
 go_enter Tryz.func26, Tryz.ntmps26
 go_wp2
 go_loopg [8, 9] k (fun kq v8 v9 w' => ∃ (u : List Int) (q : Int) (r : Int) (s : Bool), v9 = .int .i64 q ∧ Aside0 (wI.l0 kq a1 u q t r s = some (r1, r2, r3, r4)) ∧ Aside0 (kq ≤ k) ∧ Aside0 (Kd.R (Kd.int .u8) 5 w' w.heap.size (fun _ => True) v8 u) ∧ Aside0 (vo w0 w' g t r s) ∧ Aside0 (vr w w' g none) ∧ Aside0 (Below w0.heap.size w0 w'))
 case atStart => exact ⟨(([] : List Int)), (0), (a0), (a2), rq, H', ⟨Nat.le_refl _⟩, ⟨by first | exact Kd.yu _ _ _ _ _ | exact Kd.yR _ _ _ _ _ | exact Kd.yS _ _ _ _ _ | exact Kd.yP _ _ _ _ _ | exact Kd.yV _ _ _ _ _⟩, ⟨by repeat (first | (with_reducible first | exact d.out | apply vo.alloc | apply vo.drewN | apply vo.drew | apply vo.xD | apply vo.xC) | exact d.out)⟩, ⟨by repeat (first | (with_reducible first | exact HK.out | apply vr.xQ | apply vI | apply vT | apply vH) | exact HK.out)⟩, ⟨by repeat (first | (with_reducible first | exact HB.out | apply vG | apply vz | apply vy | refine vW ?_ (vo.ge d.out)) | exact HB.out)⟩⟩
 case round =>
  clear H'
  try clear c2
  obtain ⟨u, q, r, s, rfl, HA, a9, j, d, HK, HB⟩ := hrel
  cases gk with
  | zero => exact absurd HA.out (by simp [wI.l0])
  | succ k1 =>
   have H := HA.out
   clear HA
   simp only [wI.l0] at H
   rcases iL H with H1 | H1 <;> clear H <;> obtain ⟨H, f3⟩ := H1
   ·obtain ⟨⟨z, L, B, D⟩, A5, H⟩ := oB H
    try dsimp only at H
    rcases iE H with H1 | H1 <;> clear H <;> obtain ⟨H, f4, f5, c6⟩ := H1
    ·rcases iE H with H1 | H1 <;> clear H <;> obtain ⟨H, f6, f7, c7⟩ := H1
     ·rcases iL H with H1 | H1 <;> clear H <;> obtain ⟨H, f8⟩ := H1
      ·simp only [Option.some.injEq, Prod.mk.injEq] at H
       obtain ⟨rfl, rfl, rfl, rfl⟩ := H
       obtain ⟨h8, h9, e8⟩ := Kd.vY j.out
       subst e8
       go_wp2_with (first | ((with_reducible refine gf 45 rfl ?_); refine gL (some 22) rfl rfl Tryz.func45 rfl #[.pointer (some ⟨gx, 0, none⟩), .int .i64 (Int.tmod q 2)] rfl ?_; (with_reducible refine (wY.calls k1 g t r s (Int.tmod q 2) z L B D w0 _ ?side1 ?side2 gx (hX.keep (by repeat (first | (with_reducible first | exact HK.out | apply vr.xQ | apply vI | apply vT | apply vH) | exact HK.out))) A5.out).mono ?_); (case side1 => repeat (first | (with_reducible first | exact d.out | apply vo.alloc | apply vo.drewN | apply vo.drew | apply vo.xD | apply vo.xC) | exact d.out)); (case side2 => repeat (first | (with_reducible first | exact HB.out | apply vG | apply vz | apply vy | refine vW ?_ (vo.ge d.out)) | exact HB.out)); rintro e i0 ⟨rfl, hi, hb, hk⟩; refine ⟨_, rfl, ?_⟩; have n_ := aC (Kd.vU (Kd.qd (vo.apart (show vo w0 _ g t r s from by repeat (first | (with_reducible first | exact d.out | apply vo.alloc | apply vo.drewN | apply vo.drew | apply vo.xD | apply vo.xC) | exact d.out)) (rU j.out) (by decide)) hk (fun _ h => h.2)) (fun _ h => h.1)) (aC (vr.trans (by repeat (first | (with_reducible first | exact HK.out | apply vr.xQ | apply vI | apply vT | apply vH) | exact HK.out)) hk (.inl rfl)) (aC hb (aE hi))); clear j HK HB d; obtain ⟨j, HK, HB, d⟩ := n_))
       go_ret2
       exact ⟨_, re, by first | exact Kd.yu _ _ _ _ _ | exact Kd.yR _ _ _ _ _ | exact Kd.yS _ _ _ _ _ | exact Kd.yP _ _ _ _ _ | exact Kd.yV _ _ _ _ _, by repeat (first | (with_reducible first | exact d.out | apply vo.alloc | apply vo.drewN | apply vo.drew | apply vo.xD | apply vo.xC) | exact d.out), by repeat (first | (with_reducible first | exact HB.out | apply vG | apply vz | apply vy | refine vW ?_ (vo.ge d.out)) | exact HB.out), by repeat (first | (with_reducible first | exact HK.out | apply vr.xQ | apply vI | apply vT | apply vH) | exact HK.out)⟩
      ·rcases iL H with H1 | H1 <;> clear H <;> obtain ⟨H, e9⟩ := H1
       ·simp only [Option.some.injEq, Prod.mk.injEq] at H
        obtain ⟨rfl, rfl, rfl, rfl⟩ := H
        obtain ⟨f9, g0, d4⟩ := Kd.vY j.out
        subst d4
        go_wp2_with (first | ((with_reducible refine gf 45 rfl ?_); refine gL (some 22) rfl rfl Tryz.func45 rfl #[.pointer (some ⟨gx, 0, none⟩), .int .i64 (Int.tmod q 2)] rfl ?_; (with_reducible refine (wY.calls k1 g t r s (Int.tmod q 2) z L B D w0 _ ?side1 ?side2 gx (hX.keep (by repeat (first | (with_reducible first | exact HK.out | apply vr.xQ | apply vI | apply vT | apply vH) | exact HK.out))) A5.out).mono ?_); (case side1 => repeat (first | (with_reducible first | exact d.out | apply vo.alloc | apply vo.drewN | apply vo.drew | apply vo.xD | apply vo.xC) | exact d.out)); (case side2 => repeat (first | (with_reducible first | exact HB.out | apply vG | apply vz | apply vy | refine vW ?_ (vo.ge d.out)) | exact HB.out)); rintro e i1 ⟨rfl, hi, hb, hk⟩; refine ⟨_, rfl, ?_⟩; have n_ := aC (Kd.vU (Kd.qd (vo.apart (show vo w0 _ g t r s from by repeat (first | (with_reducible first | exact d.out | apply vo.alloc | apply vo.drewN | apply vo.drew | apply vo.xD | apply vo.xC) | exact d.out)) (rU j.out) (by decide)) hk (fun _ h => h.2)) (fun _ h => h.1)) (aC (vr.trans (by repeat (first | (with_reducible first | exact HK.out | apply vr.xQ | apply vI | apply vT | apply vH) | exact HK.out)) hk (.inl rfl)) (aC hb (aE hi))); clear j HK HB d; obtain ⟨j, HK, HB, d⟩ := n_))
        go_ret2
        exact ⟨_, re, by first | exact Kd.yu _ _ _ _ _ | exact Kd.yR _ _ _ _ _ | exact Kd.yS _ _ _ _ _ | exact Kd.yP _ _ _ _ _ | exact Kd.yV _ _ _ _ _, by repeat (first | (with_reducible first | exact d.out | apply vo.alloc | apply vo.drewN | apply vo.drew | apply vo.xD | apply vo.xC) | exact d.out), by repeat (first | (with_reducible first | exact HB.out | apply vG | apply vz | apply vy | refine vW ?_ (vo.ge d.out)) | exact HB.out), by repeat (first | (with_reducible first | exact HK.out | apply vr.xQ | apply vI | apply vT | apply vH) | exact HK.out)⟩
       ·obtain ⟨X, hy_⟩ : ∃ y_ : List Int, y_ = (([(Int.tmod q 2) % 256] : List Int)) := ⟨_, rfl⟩
        replace H : ((vq.f k1 X z).bind fun E => (if u.length + E.length < 140737488355328 then (wI.l0 k1 a1 (u ++ E) (wrap64 (q + 1)) t B D) else (none))) = some (r1, r2, r3, r4) := rh
        have a3 := aE hy_
        clear hy_
        obtain ⟨E, f0, H⟩ := oB H
        try dsimp only at H
        by_cases b0 : u.length + E.length < 140737488355328
        ·rw [if_pos b0] at H
         have b8 := aE b0
         clear b0
         obtain ⟨b2, hy_⟩ : ∃ y_ : List Int, y_ = (u ++ E) := ⟨_, rfl⟩
         replace H : (wI.l0 k1 a1 b2 (wrap64 (q + 1)) t B D) = some (r1, r2, r3, r4) := rh
         have b9 := aE hy_
         clear hy_
         have H' := aE H
         clear H
         obtain ⟨d5, d6, d7⟩ := Kd.vY j.out
         subst d7
         go_wp2_with (first | ((with_reducible refine gf 45 rfl ?_); refine gL (some 22) rfl rfl Tryz.func45 rfl #[.pointer (some ⟨gx, 0, none⟩), .int .i64 (Int.tmod q 2)] rfl ?_; (with_reducible refine (wY.calls k1 g t r s (Int.tmod q 2) z L B D w0 _ ?side1 ?side2 gx (hX.keep (by repeat (first | (with_reducible first | exact HK.out | apply vr.xQ | apply vI | apply vT | apply vH) | exact HK.out))) A5.out).mono ?_); (case side1 => repeat (first | (with_reducible first | exact d.out | apply vo.alloc | apply vo.drewN | apply vo.drew | apply vo.xD | apply vo.xC) | exact d.out)); (case side2 => repeat (first | (with_reducible first | exact HB.out | apply vG | apply vz | apply vy | refine vW ?_ (vo.ge d.out)) | exact HB.out)); rintro e i2 ⟨rfl, hi, hb, hk⟩; refine ⟨_, rfl, ?_⟩; have n_ := aC (Kd.vU (Kd.qd (vo.apart (show vo w0 _ g t r s from by repeat (first | (with_reducible first | exact d.out | apply vo.alloc | apply vo.drewN | apply vo.drew | apply vo.xD | apply vo.xC) | exact d.out)) (rU j.out) (by decide)) hk (fun _ h => h.2)) (fun _ h => h.1)) (aC (vr.trans (by repeat (first | (with_reducible first | exact HK.out | apply vr.xQ | apply vI | apply vT | apply vH) | exact HK.out)) hk (.inl rfl)) (aC hb (aE hi))); clear j HK HB d; obtain ⟨j, HK, HB, d⟩ := n_) | ((with_reducible refine gd 46 rfl ?_); (try (refine xK (by rfl) ?_; dsimp only)); refine Kd.zZ (Kd.int .u8) _ 5 ?hg (N := 46) ?hd (xs := ([(Int.tmod q 2) % 256] : List Int)) (inner := [.int .u8 ((Int.tmod q 2) % 256)]) (ok := fun _ => True) (okp := fun _ => True) ?hr ?hp (fun _ hk => hk) trivial (Below.refl _ _) (Nat.le_refl _) (by simp) ?_; (case hd => rfl); (case hg => rfl); (case hr => first | (go_simp; done) | (go_simp; rfl)); (case hp => exact (xe.one (show Kd.M (Kd.int .u8) _ _ _ ((Int.tmod q 2) % 256) [.int .u8 ((Int.tmod q 2) % 256)] from rfl) (xe.none _ _))); intro g1 i3 O hb hg_ hnew_; clear hg_ hnew_; (first | rw [← a3.out] at O | (simp only [Int.reduceToNat] at O; rw [← a3.out] at O)); have n_ := aC (Kd.R_elder' (rU j.out) (Kd.xc O) hb) (aC (Kd.vS (Kd.R_new' O (Kd.xW (rU j.out))) (zl (w := w) (g := g) (row := none) (by repeat (first | (with_reducible first | exact HK.out | apply vr.xQ | apply vI | apply vT | apply vH) | exact HK.out)))) (aC (vo.below (by repeat (first | (with_reducible first | exact d.out | apply vo.alloc | apply vo.drewN | apply vo.drew | apply vo.xD | apply vo.xC) | exact d.out)) hb) (aC (vr.trans (by repeat (first | (with_reducible first | exact HK.out | apply vr.xQ | apply vI | apply vT | apply vH) | exact HK.out)) (vr.of_below hb g none) (.inl rfl)) (aE (xu (by repeat (first | (with_reducible first | exact HB.out | apply vG | apply vz | apply vy | refine vW ?_ (vo.ge d.out)) | exact HB.out)) hb))))); clear j d HK HB; obtain ⟨j, x, d, HK, HB⟩ := n_; clear hb O; obtain ⟨a4, a5, d8⟩ := Kd.vY x.out; subst d8) | ((with_reducible refine gf 46 rfl ?_); refine gL (some 48) rfl rfl Tryz.func46 rfl #[.slice a4 X.length a5, .int .i64 z] rfl ?_; (with_reducible refine (vq.calls k1 _ _ X z E _ ?side1 ?side2 f0.out).mono ?_); (case side1 => exact cU (Kd.R_reads' x.out).2.2); (case side2 => exact (Kd.R_reads' x.out).2.1); rintro e i4 ⟨g2, rfl, Z, hb⟩; refine ⟨_, rfl, ?_⟩; have n_ := aC (Kd.R_elder' (rU j.out) (Kd.xc Z) hb) (aC (Kd.R_elder' (rU x.out) (Kd.xc Z) hb) (aC (Kd.vS (Kd.R_new' (Kd.R_new' Z (Kd.xW (rU j.out))) (Kd.xW (rU x.out))) (zl (w := w) (g := g) (row := none) (by repeat (first | (with_reducible first | exact HK.out | apply vr.xQ | apply vI | apply vT | apply vH) | exact HK.out)))) (aC (vo.below (by repeat (first | (with_reducible first | exact d.out | apply vo.alloc | apply vo.drewN | apply vo.drew | apply vo.xD | apply vo.xC) | exact d.out)) hb) (aC (vr.trans (by repeat (first | (with_reducible first | exact HK.out | apply vr.xQ | apply vI | apply vT | apply vH) | exact HK.out)) (vr.of_below hb g none) (.inl rfl)) (aE (xu (by repeat (first | (with_reducible first | exact HB.out | apply vG | apply vz | apply vy | refine vW ?_ (vo.ge d.out)) | exact HB.out)) hb)))))); clear j x d HK HB; obtain ⟨j, x, I, d, HK, HB⟩ := n_; obtain ⟨b3, b4, d9⟩ := Kd.vY I.out; subst d9) | ((with_reducible refine wU (b := .append) (xs := #[.tmp 42, .tmp 48]) rfl ?_); (try (refine xK (by rfl) ?_; dsimp only)); at_builtin; refine Kd.xO (Kd.int .u8) w.heap.size rfl (.tmp 42) (.tmp 48) 22 5 (.int .u8 0) 1 rfl Tryz.underlying22 info5 rfl (by decide) (by omega) (.slice d5 u.length d6) u E _ _ _ (fun k_ => some k_ ≠ (.slice a4 X.length a5 : Value).ownBlock ∧ some k_ ≠ (.slice b3 E.length b4 : Value).ownBlock) (fun _ => False) rfl rfl ?aO ?aR (fun _ _ h => h) (fun _ h => h.elim) ?aF (Below.refl _ _) ?aS ?aL ?_; (case aR => repeat (first | exact (Kd.R_reads' I.out).2.2 | (with_reducible refine Kd.yi ?_ _) | (with_reducible refine Kd.yg ?_ _) | (with_reducible refine Kd.yr ?_))); (case aF => exact (fun k_ hk => ⟨Kd.fresh' (Kd.xW (rU x.out)) k_ hk, Kd.fresh' (Kd.xW (rU I.out)) k_ hk⟩)); (case aO => exact (rU (Kd.vU j.out (fun _ hk => ⟨hk.1.2, hk.2⟩)))); (case aS => exact (zl (w := w) (g := g) (row := none) (by repeat (first | (with_reducible first | exact HK.out | apply vr.xQ | apply vI | apply vT | apply vH) | exact HK.out)))); (case aL => have := b8.out; omega); intro g3 i5 ho hb hg hat; rw [← b9.out] at ho; have n_ := aC (vo.grown (by repeat (first | (with_reducible first | exact d.out | apply vo.alloc | apply vo.drewN | apply vo.drew | apply vo.xD | apply vo.xC) | exact d.out)) hg (vo.own_ne d.out j.out (by decide))) (aC (Kd.yG (ok := (fun k_ => some k_ ≠ (.slice b3 E.length b4 : Value).ownBlock)) (rU (Kd.vU x.out (fun _ hk => ⟨hk.2, hk.1.2⟩))) hg hat) (aC (Kd.yG (ok := (fun k_ => some k_ ≠ (.slice a4 X.length a5 : Value).ownBlock)) (rU (Kd.vU I.out (fun _ hk => ⟨hk.2, hk.1.2⟩))) hg hat) (aC (kE (by repeat (first | (with_reducible first | exact HB.out | apply vG | apply vz | apply vy | refine vW ?_ (vo.ge d.out)) | exact HB.out)) HL.out hb) (aC (vr.trans (by repeat (first | (with_reducible first | exact HK.out | apply vr.xQ | apply vI | apply vT | apply vH) | exact HK.out)) (vr.jY hg g) (Kd.R_base2 j.out)) (aE ho))))); clear d x I HB HK j; obtain ⟨d, x, I, HB, HK, c0⟩ := n_; clear ho hb hg hat))
         go_roundg k1
         case measure => have := a9.out; omega
         case rel => exact ⟨(b2), (wrap64 (q + 1)), (B), (D), rq, H', ⟨by have := a9.out; omega⟩, ⟨rU (Kd.vU c0.out (fun _ hk => trivial))⟩, ⟨by repeat (first | (with_reducible first | exact d.out | apply vo.alloc | apply vo.drewN | apply vo.drew | apply vo.xD | apply vo.xC) | exact d.out)⟩, ⟨by repeat (first | (with_reducible first | exact HK.out | apply vr.xQ | apply vI | apply vT | apply vH) | exact HK.out)⟩, ⟨by repeat (first | (with_reducible first | exact HB.out | apply vG | apply vz | apply vy | refine vW ?_ (vo.ge d.out)) | exact HB.out)⟩⟩
        ·rw [if_neg b0] at H
         exact nB H
     ·rcases iL H with H1 | H1 <;> clear H <;> obtain ⟨H, f1⟩ := H1
      ·simp only [Option.some.injEq, Prod.mk.injEq] at H
       obtain ⟨rfl, rfl, rfl, rfl⟩ := H
       obtain ⟨g4, g5, e0⟩ := Kd.vY j.out
       subst e0
       go_wp2_with (first | ((with_reducible refine gf 45 rfl ?_); refine gL (some 22) rfl rfl Tryz.func45 rfl #[.pointer (some ⟨gx, 0, none⟩), .int .i64 (Int.tmod q 2)] rfl ?_; (with_reducible refine (wY.calls k1 g t r s (Int.tmod q 2) z L B D w0 _ ?side1 ?side2 gx (hX.keep (by repeat (first | (with_reducible first | exact HK.out | apply vr.xQ | apply vI | apply vT | apply vH) | exact HK.out))) A5.out).mono ?_); (case side1 => repeat (first | (with_reducible first | exact d.out | apply vo.alloc | apply vo.drewN | apply vo.drew | apply vo.xD | apply vo.xC) | exact d.out)); (case side2 => repeat (first | (with_reducible first | exact HB.out | apply vG | apply vz | apply vy | refine vW ?_ (vo.ge d.out)) | exact HB.out)); rintro e i6 ⟨rfl, hi, hb, hk⟩; refine ⟨_, rfl, ?_⟩; have n_ := aC (Kd.vU (Kd.qd (vo.apart (show vo w0 _ g t r s from by repeat (first | (with_reducible first | exact d.out | apply vo.alloc | apply vo.drewN | apply vo.drew | apply vo.xD | apply vo.xC) | exact d.out)) (rU j.out) (by decide)) hk (fun _ h => h.2)) (fun _ h => h.1)) (aC (vr.trans (by repeat (first | (with_reducible first | exact HK.out | apply vr.xQ | apply vI | apply vT | apply vH) | exact HK.out)) hk (.inl rfl)) (aC hb (aE hi))); clear j HK HB d; obtain ⟨j, HK, HB, d⟩ := n_))
       go_ret2
       exact ⟨_, re, by first | exact Kd.yu _ _ _ _ _ | exact Kd.yR _ _ _ _ _ | exact Kd.yS _ _ _ _ _ | exact Kd.yP _ _ _ _ _ | exact Kd.yV _ _ _ _ _, by repeat (first | (with_reducible first | exact d.out | apply vo.alloc | apply vo.drewN | apply vo.drew | apply vo.xD | apply vo.xC) | exact d.out), by repeat (first | (with_reducible first | exact HB.out | apply vG | apply vz | apply vy | refine vW ?_ (vo.ge d.out)) | exact HB.out), by repeat (first | (with_reducible first | exact HK.out | apply vr.xQ | apply vI | apply vT | apply vH) | exact HK.out)⟩
      ·obtain ⟨Y, hy_⟩ : ∃ y_ : List Int, y_ = (([(Int.tmod q 2) % 256] : List Int)) := ⟨_, rfl⟩
       replace H : ((vq.f k1 Y z).bind fun G => (if u.length + G.length < 140737488355328 then (wI.l0 k1 a1 (u ++ G) (wrap64 (q + 1)) t B D) else (none))) = some (r1, r2, r3, r4) := rh
       have a6 := aE hy_
       clear hy_
       obtain ⟨G, f2, H⟩ := oB H
       try dsimp only at H
       by_cases b1 : u.length + G.length < 140737488355328
       ·rw [if_pos b1] at H
        have c1 := aE b1
        clear b1
        obtain ⟨b5, hy_⟩ : ∃ y_ : List Int, y_ = (u ++ G) := ⟨_, rfl⟩
        replace H : (wI.l0 k1 a1 b5 (wrap64 (q + 1)) t B D) = some (r1, r2, r3, r4) := rh
        have d0 := aE hy_
        clear hy_
        have H' := aE H
        clear H
        obtain ⟨e1, e2, e3⟩ := Kd.vY j.out
        subst e3
        go_wp2_with (first | ((with_reducible refine gf 45 rfl ?_); refine gL (some 22) rfl rfl Tryz.func45 rfl #[.pointer (some ⟨gx, 0, none⟩), .int .i64 (Int.tmod q 2)] rfl ?_; (with_reducible refine (wY.calls k1 g t r s (Int.tmod q 2) z L B D w0 _ ?side1 ?side2 gx (hX.keep (by repeat (first | (with_reducible first | exact HK.out | apply vr.xQ | apply vI | apply vT | apply vH) | exact HK.out))) A5.out).mono ?_); (case side1 => repeat (first | (with_reducible first | exact d.out | apply vo.alloc | apply vo.drewN | apply vo.drew | apply vo.xD | apply vo.xC) | exact d.out)); (case side2 => repeat (first | (with_reducible first | exact HB.out | apply vG | apply vz | apply vy | refine vW ?_ (vo.ge d.out)) | exact HB.out)); rintro e i7 ⟨rfl, hi, hb, hk⟩; refine ⟨_, rfl, ?_⟩; have n_ := aC (Kd.vU (Kd.qd (vo.apart (show vo w0 _ g t r s from by repeat (first | (with_reducible first | exact d.out | apply vo.alloc | apply vo.drewN | apply vo.drew | apply vo.xD | apply vo.xC) | exact d.out)) (rU j.out) (by decide)) hk (fun _ h => h.2)) (fun _ h => h.1)) (aC (vr.trans (by repeat (first | (with_reducible first | exact HK.out | apply vr.xQ | apply vI | apply vT | apply vH) | exact HK.out)) hk (.inl rfl)) (aC hb (aE hi))); clear j HK HB d; obtain ⟨j, HK, HB, d⟩ := n_) | ((with_reducible refine gd 46 rfl ?_); (try (refine xK (by rfl) ?_; dsimp only)); refine Kd.zZ (Kd.int .u8) _ 5 ?hg (N := 46) ?hd (xs := ([(Int.tmod q 2) % 256] : List Int)) (inner := [.int .u8 ((Int.tmod q 2) % 256)]) (ok := fun _ => True) (okp := fun _ => True) ?hr ?hp (fun _ hk => hk) trivial (Below.refl _ _) (Nat.le_refl _) (by simp) ?_; (case hd => rfl); (case hg => rfl); (case hr => first | (go_simp; done) | (go_simp; rfl)); (case hp => exact (xe.one (show Kd.M (Kd.int .u8) _ _ _ ((Int.tmod q 2) % 256) [.int .u8 ((Int.tmod q 2) % 256)] from rfl) (xe.none _ _))); intro g6 i8 T hb hg_ hnew_; clear hg_ hnew_; (first | rw [← a6.out] at T | (simp only [Int.reduceToNat] at T; rw [← a6.out] at T)); have n_ := aC (Kd.R_elder' (rU j.out) (Kd.xc T) hb) (aC (Kd.vS (Kd.R_new' T (Kd.xW (rU j.out))) (zl (w := w) (g := g) (row := none) (by repeat (first | (with_reducible first | exact HK.out | apply vr.xQ | apply vI | apply vT | apply vH) | exact HK.out)))) (aC (vo.below (by repeat (first | (with_reducible first | exact d.out | apply vo.alloc | apply vo.drewN | apply vo.drew | apply vo.xD | apply vo.xC) | exact d.out)) hb) (aC (vr.trans (by repeat (first | (with_reducible first | exact HK.out | apply vr.xQ | apply vI | apply vT | apply vH) | exact HK.out)) (vr.of_below hb g none) (.inl rfl)) (aE (xu (by repeat (first | (with_reducible first | exact HB.out | apply vG | apply vz | apply vy | refine vW ?_ (vo.ge d.out)) | exact HB.out)) hb))))); clear j d HK HB; obtain ⟨j, y, d, HK, HB⟩ := n_; clear hb T; obtain ⟨a7, a8, e4⟩ := Kd.vY y.out; subst e4) | ((with_reducible refine gf 46 rfl ?_); refine gL (some 48) rfl rfl Tryz.func46 rfl #[.slice a7 Y.length a8, .int .i64 z] rfl ?_; (with_reducible refine (vq.calls k1 _ _ Y z G _ ?side1 ?side2 f2.out).mono ?_); (case side1 => exact cU (Kd.R_reads' y.out).2.2); (case side2 => exact (Kd.R_reads' y.out).2.1); rintro e i9 ⟨g7, rfl, Z, hb⟩; refine ⟨_, rfl, ?_⟩; have n_ := aC (Kd.R_elder' (rU j.out) (Kd.xc Z) hb) (aC (Kd.R_elder' (rU y.out) (Kd.xc Z) hb) (aC (Kd.vS (Kd.R_new' (Kd.R_new' Z (Kd.xW (rU j.out))) (Kd.xW (rU y.out))) (zl (w := w) (g := g) (row := none) (by repeat (first | (with_reducible first | exact HK.out | apply vr.xQ | apply vI | apply vT | apply vH) | exact HK.out)))) (aC (vo.below (by repeat (first | (with_reducible first | exact d.out | apply vo.alloc | apply vo.drewN | apply vo.drew | apply vo.xD | apply vo.xC) | exact d.out)) hb) (aC (vr.trans (by repeat (first | (with_reducible first | exact HK.out | apply vr.xQ | apply vI | apply vT | apply vH) | exact HK.out)) (vr.of_below hb g none) (.inl rfl)) (aE (xu (by repeat (first | (with_reducible first | exact HB.out | apply vG | apply vz | apply vy | refine vW ?_ (vo.ge d.out)) | exact HB.out)) hb)))))); clear j y d HK HB; obtain ⟨j, y, J, d, HK, HB⟩ := n_; obtain ⟨b6, b7, e5⟩ := Kd.vY J.out; subst e5) | ((with_reducible refine wU (b := .append) (xs := #[.tmp 42, .tmp 48]) rfl ?_); (try (refine xK (by rfl) ?_; dsimp only)); at_builtin; refine Kd.xO (Kd.int .u8) w.heap.size rfl (.tmp 42) (.tmp 48) 22 5 (.int .u8 0) 1 rfl Tryz.underlying22 info5 rfl (by decide) (by omega) (.slice e1 u.length e2) u G _ _ _ (fun k_ => some k_ ≠ (.slice a7 Y.length a8 : Value).ownBlock ∧ some k_ ≠ (.slice b6 G.length b7 : Value).ownBlock) (fun _ => False) rfl rfl ?aO ?aR (fun _ _ h => h) (fun _ h => h.elim) ?aF (Below.refl _ _) ?aS ?aL ?_; (case aR => repeat (first | exact (Kd.R_reads' J.out).2.2 | (with_reducible refine Kd.yi ?_ _) | (with_reducible refine Kd.yg ?_ _) | (with_reducible refine Kd.yr ?_))); (case aF => exact (fun k_ hk => ⟨Kd.fresh' (Kd.xW (rU y.out)) k_ hk, Kd.fresh' (Kd.xW (rU J.out)) k_ hk⟩)); (case aO => exact (rU (Kd.vU j.out (fun _ hk => ⟨hk.1.2, hk.2⟩)))); (case aS => exact (zl (w := w) (g := g) (row := none) (by repeat (first | (with_reducible first | exact HK.out | apply vr.xQ | apply vI | apply vT | apply vH) | exact HK.out)))); (case aL => have := c1.out; omega); intro g8 j2 ho hb hg hat; rw [← d0.out] at ho; have n_ := aC (vo.grown (by repeat (first | (with_reducible first | exact d.out | apply vo.alloc | apply vo.drewN | apply vo.drew | apply vo.xD | apply vo.xC) | exact d.out)) hg (vo.own_ne d.out j.out (by decide))) (aC (Kd.yG (ok := (fun k_ => some k_ ≠ (.slice b6 G.length b7 : Value).ownBlock)) (rU (Kd.vU y.out (fun _ hk => ⟨hk.2, hk.1.2⟩))) hg hat) (aC (Kd.yG (ok := (fun k_ => some k_ ≠ (.slice a7 Y.length a8 : Value).ownBlock)) (rU (Kd.vU J.out (fun _ hk => ⟨hk.2, hk.1.2⟩))) hg hat) (aC (kE (by repeat (first | (with_reducible first | exact HB.out | apply vG | apply vz | apply vy | refine vW ?_ (vo.ge d.out)) | exact HB.out)) HL.out hb) (aC (vr.trans (by repeat (first | (with_reducible first | exact HK.out | apply vr.xQ | apply vI | apply vT | apply vH) | exact HK.out)) (vr.jY hg g) (Kd.R_base2 j.out)) (aE ho))))); clear d y J HB HK j; obtain ⟨d, y, J, HB, HK, d1⟩ := n_; clear ho hb hg hat))
        go_roundg k1
        case measure => have := a9.out; omega
        case rel => exact ⟨(b5), (wrap64 (q + 1)), (B), (D), rq, H', ⟨by have := a9.out; omega⟩, ⟨rU (Kd.vU d1.out (fun _ hk => trivial))⟩, ⟨by repeat (first | (with_reducible first | exact d.out | apply vo.alloc | apply vo.drewN | apply vo.drew | apply vo.xD | apply vo.xC) | exact d.out)⟩, ⟨by repeat (first | (with_reducible first | exact HK.out | apply vr.xQ | apply vI | apply vT | apply vH) | exact HK.out)⟩, ⟨by repeat (first | (with_reducible first | exact HB.out | apply vG | apply vz | apply vy | refine vW ?_ (vo.ge d.out)) | exact HB.out)⟩⟩
       ·rw [if_neg b1] at H
        exact nB H
    ·simp only [Option.some.injEq, Prod.mk.injEq] at H
     obtain ⟨rfl, rfl, rfl, rfl⟩ := H
     obtain ⟨g9, h3, e6⟩ := Kd.vY j.out
     subst e6
     go_wp2_with (first | ((with_reducible refine gf 45 rfl ?_); refine gL (some 22) rfl rfl Tryz.func45 rfl #[.pointer (some ⟨gx, 0, none⟩), .int .i64 (Int.tmod q 2)] rfl ?_; (with_reducible refine (wY.calls k1 g t r s (Int.tmod q 2) z L B D w0 _ ?side1 ?side2 gx (hX.keep (by repeat (first | (with_reducible first | exact HK.out | apply vr.xQ | apply vI | apply vT | apply vH) | exact HK.out))) A5.out).mono ?_); (case side1 => repeat (first | (with_reducible first | exact d.out | apply vo.alloc | apply vo.drewN | apply vo.drew | apply vo.xD | apply vo.xC) | exact d.out)); (case side2 => repeat (first | (with_reducible first | exact HB.out | apply vG | apply vz | apply vy | refine vW ?_ (vo.ge d.out)) | exact HB.out)); rintro e j3 ⟨rfl, hi, hb, hk⟩; refine ⟨_, rfl, ?_⟩; have n_ := aC (Kd.vU (Kd.qd (vo.apart (show vo w0 _ g t r s from by repeat (first | (with_reducible first | exact d.out | apply vo.alloc | apply vo.drewN | apply vo.drew | apply vo.xD | apply vo.xC) | exact d.out)) (rU j.out) (by decide)) hk (fun _ h => h.2)) (fun _ h => h.1)) (aC (vr.trans (by repeat (first | (with_reducible first | exact HK.out | apply vr.xQ | apply vI | apply vT | apply vH) | exact HK.out)) hk (.inl rfl)) (aC hb (aE hi))); clear j HK HB d; obtain ⟨j, HK, HB, d⟩ := n_))
     go_ret2
     exact ⟨_, re, by first | exact Kd.yu _ _ _ _ _ | exact Kd.yR _ _ _ _ _ | exact Kd.yS _ _ _ _ _ | exact Kd.yP _ _ _ _ _ | exact Kd.yV _ _ _ _ _, by repeat (first | (with_reducible first | exact d.out | apply vo.alloc | apply vo.drewN | apply vo.drew | apply vo.xD | apply vo.xC) | exact d.out), by repeat (first | (with_reducible first | exact HB.out | apply vG | apply vz | apply vy | refine vW ?_ (vo.ge d.out)) | exact HB.out), by repeat (first | (with_reducible first | exact HK.out | apply vr.xQ | apply vI | apply vT | apply vH) | exact HK.out)⟩
   ·simp only [Option.some.injEq, Prod.mk.injEq] at H
    obtain ⟨rfl, rfl, rfl, rfl⟩ := H
    obtain ⟨h4, h5, e7⟩ := Kd.vY j.out
    subst e7
    go_wp2
    go_ret2
    exact ⟨_, re, rU j.out, by repeat (first | (with_reducible first | exact d.out | apply vo.alloc | apply vo.drewN | apply vo.drew | apply vo.xD | apply vo.xC) | exact d.out), by repeat (first | (with_reducible first | exact HB.out | apply vG | apply vz | apply vy | refine vW ?_ (vo.ge d.out)) | exact HB.out), by repeat (first | (with_reducible first | exact HK.out | apply vr.xQ | apply vI | apply vT | apply vH) | exact HK.out)⟩
end Go.Proofs.YtknclbodinfbeaaGreatDoor.PRunsBack
