-- printed (wip/tools/myprint.py)
import Derived.Test.YtknclbodinfbeaaGreatDoorPRunsBackx0
namespace Go.Proofs.YtknclbodinfbeaaGreatDoor.PRunsBack
open Go.RowKit Go.Proofs.YtknclbodinfbeaaGreatDoorW.PrintWords Go.Proofs.YtknclbodinfbeaaGreatDoorW.PrintLast Go.Proofs.YtknclbodinfbeaaGreatDoorW.PrintMore
attribute [local go_sem] yo ym yC yD xU xT yn yq
set_option linter.unusedVariables false
set_option linter.unusedSimpArgs false
set_option maxHeartbeats 8000000
set_option maxRecDepth 100000
def yU.f (a0 : Int) (a1 : Int) : Option (Bool) := if a0 ≥ 0 then (if a1 ≥ 0 then (if a0 ≤ 200 then (if a1 ≤ 200 then (some (decide ((wrap64 (a0 * a1)) ≤ 8192))) else (some false)) else (some false)) else (some false)) else (some false)
theorem yU.calls (a0 : Int) (a1 : Int) (r : Bool) (w : World) (h : yU.f a0 a1 = some r) :
  Calls Tryz.prog 34 #[.int .i64 a0, .int .i64 a1] w fun e w' => e = .returned (.bool r) ∧ wl w w' := by
 have H := h
 unfold yU.f at H
 clear h
 rcases iL H with H1 | H1 <;> clear H <;> obtain ⟨H, d⟩ := H1
 ·rcases iL H with H1 | H1 <;> clear H <;> obtain ⟨H, j⟩ := H1
  ·rcases iL H with H1 | H1 <;> clear H <;> obtain ⟨H, k⟩ := H1
   ·rcases iL H with H1 | H1 <;> clear H <;> obtain ⟨H, q⟩ := H1
    ·obtain rfl := Option.some.inj H
     go_enter Tryz.func34, Tryz.ntmps34
     go_wp2
     go_ret
     exact ⟨by first | rfl | (simp; done) | (simp [*]; done), by repeat (first | exact wl.refl _ | apply wl.step)⟩
    ·obtain rfl := Option.some.inj H
     go_enter Tryz.func34, Tryz.ntmps34
     go_wp2
     go_ret
     exact ⟨by first | rfl | (simp; done) | (simp [*]; done), by repeat (first | exact wl.refl _ | apply wl.step)⟩
   ·obtain rfl := Option.some.inj H
    go_enter Tryz.func34, Tryz.ntmps34
    go_wp2
    go_ret
    exact ⟨by first | rfl | (simp; done) | (simp [*]; done), by repeat (first | exact wl.refl _ | apply wl.step)⟩
  ·obtain rfl := Option.some.inj H
   go_enter Tryz.func34, Tryz.ntmps34
   go_wp2
   go_ret
   exact ⟨by first | rfl | (simp; done) | (simp [*]; done), by repeat (first | exact wl.refl _ | apply wl.step)⟩
 ·obtain rfl := Option.some.inj H
  go_enter Tryz.func34, Tryz.ntmps34
  go_wp2
  go_ret
  exact ⟨by first | rfl | (simp; done) | (simp [*]; done), by repeat (first | exact wl.refl _ | apply wl.step)⟩
mutual
def wx.j0 : Nat → Bool → Int → Int → List Int → Option (Bool)
 | 0, _, _, _, _ => none
 | k + 1, q, e, j, d => if q = true then (some false) else (wx.l0 k d (d.length : Int) 0)
def wx.l0 : Nat → List Int → Int → Int → Option (Bool)
 | 0, _, _, _ => none
 | k + 1, e, j, d => if d < j then (if 0 ≤ d then (if d < (e.length : Int) then (if (rd e d) > 1 then (some false) else (wx.l0 k e j (wrap64 (d + 1)))) else (none)) else (none)) else (some true)
end
def wx.f (k : Nat) (d : Int) (e : Int) (j : List Int) : Option (Bool) := (yU.f d e).bind fun q => (if q = true then (wx.j0 k ((j.length : Int) != (wrap64 (d * e))) d e j) else (wx.j0 k true d e j))
theorem wx.wt : ∀ k, (∀ y0 y1 y2 y3, vK (wx.j0 k y0 y1 y2 y3) (wx.j0 (k + 1) y0 y1 y2 y3)) ∧ (∀ y0 y1 y2, vK (wx.l0 k y0 y1 y2) (wx.l0 (k + 1) y0 y1 y2))
 | 0 => ⟨fun _ _ _ _ r h => by simp [wx.j0] at h, fun _ _ _ r h => by simp [wx.l0] at h⟩
 | k + 1 => by
  obtain ⟨ih0, ih1⟩ := wx.wt k
  refine ⟨?_, ?_⟩
  ·intro y0 y1 y2 y3
   unfold wx.j0
   repeat' first
   | (with_reducible exact ih0 _ _ _ _)
   | (with_reducible exact ih1 _ _ _)
   | (with_reducible first | exact vK.refl _ | exact vK.none _ | apply vK.ite | apply vK.bind | intro)
  ·intro y0 y1 y2
   unfold wx.l0
   repeat' first
   | (with_reducible exact ih0 _ _ _ _)
   | (with_reducible exact ih1 _ _ _)
   | (with_reducible first | exact vK.refl _ | exact vK.none _ | apply vK.ite | apply vK.bind | intro)
theorem wx.mono : ∀ a0 a1 a2 k, vK (wx.f k a0 a1 a2) (wx.f (k + 1) a0 a1 a2) := by
 intro a0 a1 a2 k
 obtain ⟨ih0, ih1⟩ := wx.wt k
 unfold wx.f
 repeat' first
   | (with_reducible exact ih0 _ _ _ _)
   | (with_reducible exact ih1 _ _ _)
   | (with_reducible first | exact vK.refl _ | exact vK.none _ | apply vK.ite | apply vK.bind | intro)
theorem wx.calls (k : Nat) (s : Int) (t : Int) (B : Option Addr) (D : Nat) (j : List Int) (r : Bool) (w : World) (hr0_2 : Kd.C (Kd.int .u8) w B j.length j) (E : j.length ≤ D) (h : wx.f k s t j = some r) :
  Calls Tryz.prog 18 #[.agg #[.int .i64 s, .int .i64 t, .slice B j.length D]] w fun e w' => e = .returned (.bool r) ∧ Below w.heap.size w w' := by
 have hu24 := Tryz.underlying24
 have G := aE hr0_2
 have b8 := aE E
 clear hr0_2 E
 have HB := bR w
 have H := h
 unfold wx.f at H
 clear h
 have O := aE H
 clear H
 go_enter Tryz.func18, Tryz.ntmps18
 go_upto_region 1 with (first | ((with_reducible refine gd 1 rfl ?_); (try (refine xK (by rfl) ?_; dsimp only)); refine bx 1 #[.int .i64 s, .int .i64 t, .slice B j.length D] 24 rfl rfl ?_; intro I hg w3 hbox hb; have n_ := aC (bs hb) (aC hbox (aC (gz hg) (aE (gz hg)))); clear HB; obtain ⟨HB, q, b9, c0⟩ := n_; clear hb hbox hg))
 (try simp only [Act.put, List.setIfInBounds_toArray, List.set_cons_zero, List.set_cons_succ])
 go_cut [21] (fun c1 wc => ∃ (kq : Nat) (z : Bool), c1 = .bool z ∧ Aside0 (wx.j0 kq z s t j = some r) ∧ Aside0 (kq ≤ k) ∧ Aside0 (wc.heap[I]? = some (.cells #[.int .i64 s, .int .i64 t, (.slice B j.length D)] 24 (0, 0))) ∧ Aside0 (Below w.heap.size w wc))
 case first =>
  have H := O.out
  clear O
  obtain ⟨X, A4, H⟩ := oB H
  try dsimp only at H
  by_cases c5 : X = true
  ·subst c5
   rw [if_pos rfl] at H
   have H' := aE H
   clear H
   obtain ⟨a0, a1, a2, a3, a4, a5⟩ := yk q.out
   go_wp2_with (first | ((with_reducible refine gf 34 rfl ?_); refine gL (some 9) rfl rfl Tryz.func34 rfl #[.int .i64 s, .int .i64 t] rfl ?_; (with_reducible refine (yU.calls s t true _ A4.out).mono ?_); rintro e w' ⟨rfl, ⟨nd, rfl⟩⟩; refine ⟨_, rfl, ?_⟩))
   go_meet
   case rel => exact ⟨_, (((j.length : Int) != (wrap64 (s * t)))), rq, H', ⟨by first | omega | exact Nat.le_refl _⟩, ⟨bU q.out⟩, ⟨bl⟩⟩
  ·replace c5 := Bool.eq_false_iff.mpr c5
   subst c5
   rw [if_neg Bool.false_ne_true] at H
   have H' := aE H
   clear H
   obtain ⟨a6, a7, a8, a9, b0, b1⟩ := yk q.out
   go_wp2_with (first | ((with_reducible refine gf 34 rfl ?_); refine gL (some 9) rfl rfl Tryz.func34 rfl #[.int .i64 s, .int .i64 t] rfl ?_; (with_reducible refine (yU.calls s t false _ A4.out).mono ?_); rintro e w' ⟨rfl, ⟨nd, rfl⟩⟩; refine ⟨_, rfl, ?_⟩))
   go_meet
   case rel => exact ⟨_, (true), rq, H', ⟨by first | omega | exact Nat.le_refl _⟩, ⟨bU q.out⟩, ⟨bl⟩⟩
 case rest =>
  clear O
  obtain ⟨kq, z, rfl, HA, Y, q, HB⟩ := hcut
  cases kq with
  | zero => exact absurd HA.out (by simp [wx.j0])
  | succ kj1 =>
   have H := HA.out
   clear HA
   simp only [wx.j0] at H
   by_cases c8 : z = true
   ·subst c8
    rw [if_pos rfl] at H
    obtain rfl := Option.some.inj H
    go_wp2
    go_ret
    exact ⟨re, bl⟩
   ·replace c8 := Bool.eq_false_iff.mpr c8
    subst c8
    rw [if_neg Bool.false_ne_true] at H
    have H' := aE H
    clear H
    obtain ⟨b2, b3, b4, b5, b6, b7⟩ := yk q.out
    go_wp2
    go_loopg [25] kj1 (fun kq d0 w' => ∃ (d : Int), d0 = .int .i64 d ∧ Aside0 (wx.l0 kq j (j.length : Int) d = some r) ∧ Aside0 (kq ≤ kj1) ∧ Aside0 (w'.heap[I]? = some (.cells #[.int .i64 s, .int .i64 t, (.slice B j.length D)] 24 (0, 0))) ∧ Aside0 (Below w.heap.size w w'))
    case atStart => exact ⟨(0), rq, H', ⟨Nat.le_refl _⟩, ⟨bU q.out⟩, ⟨bl⟩⟩
    case round =>
     clear H'
     obtain ⟨d, rfl, HA, Z, q, HB⟩ := hrel
     cases gk with
     | zero => exact absurd HA.out (by simp [wx.l0])
     | succ k2 =>
      have H := HA.out
      clear HA
      simp only [wx.l0] at H
      rcases iL H with H1 | H1 <;> clear H <;> obtain ⟨H, d1⟩ := H1
      ·by_cases L : 0 ≤ d
       ·rw [if_pos L] at H
        have d2 := decide_eq_true L
        clear L
        by_cases M : d < (j.length : Int)
        ·rw [if_pos M] at H
         have d3 := decide_eq_true M
         clear M
         rcases iL H with H1 | H1 <;> clear H <;> obtain ⟨H, d4⟩ := H1
         ·obtain rfl := Option.some.inj H
          have x : 0 ≤ (d : Int) := dt
          have y : d < (j.length : Int) := dt
          obtain ⟨T, J, u⟩ := Kd.yc G.out d x y
          cases J
          replace u := hcB HB.out u
          replace x := eq_true x
          replace y := eq_true y
          go_wp2
          go_ret
          exact ⟨re, bl⟩
         ·have H' := aE H
          clear H
          have x : 0 ≤ (d : Int) := dt
          have y : d < (j.length : Int) := dt
          obtain ⟨T, J, u⟩ := Kd.yc G.out d x y
          cases J
          replace u := hcB HB.out u
          replace x := eq_true x
          replace y := eq_true y
          go_wp2
          go_roundg k2
          case measure => have := Y.out; have := Z.out; omega
          case rel => exact ⟨(wrap64 (d + 1)), rq, H', ⟨by have := Y.out; have := Z.out; omega⟩, ⟨bU q.out⟩, ⟨bl⟩⟩
        ·rw [if_neg M] at H
         exact nB H
       ·rw [if_neg L] at H
        exact nB H
      ·obtain rfl := Option.some.inj H
       go_wp2
       go_ret
       exact ⟨re, bl⟩
def xg.l0 : Nat → List (List Int) → Int → Int → Int → Int → List Int → Option ((List (List Int)))
 | 0, _, _, _, _, _, _ => none
 | k + 1, x3, x6, x7, d, j, e => if x7 < x6 then (if 0 ≤ (wrap64 (x7 * d)) then (if (wrap64 (x7 * d)) ≤ (wrap64 ((wrap64 (x7 + 1)) * d)) then (if (wrap64 ((wrap64 (x7 + 1)) * d)) ≤ (e.length : Int) then (if x3.length < 5864062014805 then (xg.l0 k (x3 ++ [((e.take ((wrap64 ((wrap64 (x7 + 1)) * d)) : Int).toNat).drop ((wrap64 (x7 * d)) : Int).toNat)]) x6 (wrap64 (x7 + 1)) d j e) else (none)) else (none)) else (none)) else (none)) else (some x3)
def xg.f (k : Nat) (e : Int) (d : Int) (j : List Int) : Option ((List (List Int))) := xg.l0 k ([] : List (List Int)) d 0 e d j
theorem xg.wt : ∀ k, (∀ y0 y1 y2 y3 y4 y5, vK (xg.l0 k y0 y1 y2 y3 y4 y5) (xg.l0 (k + 1) y0 y1 y2 y3 y4 y5))
 | 0 => fun _ _ _ _ _ _ r h => by simp [xg.l0] at h
 | k + 1 => by
  have ih0 := xg.wt k
  ·intro y0 y1 y2 y3 y4 y5
   unfold xg.l0
   repeat' first
   | (with_reducible exact ih0 _ _ _ _ _ _)
   | (with_reducible first | exact vK.refl _ | exact vK.none _ | apply vK.ite | apply vK.bind | intro)
theorem xg.mono : ∀ a0 a1 a2 k, vK (xg.f k a0 a1 a2) (xg.f (k + 1) a0 a1 a2) := by
 intro a0 a1 a2 k
 have ih0 := xg.wt k
 unfold xg.f
 repeat' first
   | (with_reducible exact ih0 _ _ _ _ _ _)
   | (with_reducible first | exact vK.refl _ | exact vK.none _ | apply vK.ite | apply vK.bind | intro)
theorem xg.calls (k : Nat) (j : Int) (t : Int) (P0_2_ : Nat → Prop) (D : Option Addr) (y : Nat) (d : List Int) (r : List (List Int)) (w : World) (Y : Kd.V (Kd.int .u8) 5 w w.heap.size (fun k_ => P0_2_ k_) (.slice D d.length y) d) (h : xg.f k j t d = some r) :
  Calls Tryz.prog 19 #[.agg #[.int .i64 j, .int .i64 t, .slice D d.length y]] w fun e w' => ∃ a4 : Value, e = .returned (a4) ∧ Kd.N (Kd.slice 5 (Kd.int .u8)) 22 w' w.heap.size (fun k_ => (P0_2_ k_ ∨ w.heap.size ≤ k_)) a4 r ∧ Below w.heap.size w w' := by
 have hu24 := Tryz.underlying24
 have I := aE (show Kd.V (Kd.int .u8) 5 w w.heap.size (fun k_ => (P0_2_ k_ ∨ w.heap.size ≤ k_)) (.slice D d.length y) d from Kd.z8 Y (fun k_ hk => .inl hk))
 have HB := bR w
 have H : (xg.l0 k ([] : List (List Int)) t 0 j t d) = some r := h
 clear h
 have H' := aE H
 clear H
 go_enter Tryz.func19, Tryz.ntmps19
 go_wp2_with (first | ((with_reducible refine gd 1 rfl ?_); refine bx 1 #[.int .i64 j, .int .i64 t, .slice D d.length y] 24 rfl rfl ?_; intro u hg w2 hbox hb; have n_ := aC (Kd.V_below (Kd.V_elderB (by (with_reducible repeat (first | apply Kd.zC | apply Kd.zD | apply Kd.zS)); exact I.out) u (Nat.le_of_eq hg.symm)) hb) (aC (bs hb) (aC hbox (aC (gz hg) (aE (gz hg))))); clear I HB; obtain ⟨I, HB, x, c0, d0⟩ := n_; clear hb hbox hg; obtain ⟨b4, b5, b6, b7, b8, b9⟩ := yk x.out))
 go_loopg [3, 7] k (fun kq v3 v7 w' => ∃ (E : List (List Int)) (q : Int), v7 = .int .i64 q ∧ Aside0 (xg.l0 kq E t q j t d = some r) ∧ Aside0 (kq ≤ k) ∧ Aside0 (Kd.N (Kd.slice 5 (Kd.int .u8)) 22 w' w.heap.size (fun k_ => (P0_2_ k_ ∨ w.heap.size ≤ k_) ∧ k_ ≠ u) v3 E) ∧ Aside0 (Kd.V (Kd.int .u8) 5 w' w.heap.size (fun k_ => (P0_2_ k_ ∨ w.heap.size ≤ k_) ∧ some k_ ≠ (v3 : Value).ownBlock ∧ k_ ≠ u) (.slice D d.length y) d) ∧ Aside0 (w'.heap[u]? = some (.cells #[.int .i64 j, .int .i64 t, (.slice D d.length y)] 24 (0, 0))) ∧ Aside0 (Below w.heap.size w w'))
 case atStart => exact ⟨(([] : List (List Int))), (0), rq, H', ⟨Nat.le_refl _⟩, ⟨by first | exact Kd.yV _ _ _ _ _ | exact Kd.yR _ _ _ _ _ | exact Kd.yS _ _ _ _ _ | exact Kd.yP _ _ _ _ _ | exact Kd.yu _ _ _ _ _⟩, ⟨by (with_reducible repeat (first | apply Kd.zC | apply Kd.zD | apply Kd.zS)); exact Kd.z8 I.out (fun _ hk => ⟨hk.1, ⟨(by simp [Value.ownBlock]), hk.2⟩⟩)⟩, ⟨bU x.out⟩, ⟨bl⟩⟩
 case round =>
  clear H'
  obtain ⟨E, q, rfl, HA, a5, J, s, x, HB⟩ := hrel
  cases gk with
  | zero => exact absurd HA.out (by simp [xg.l0])
  | succ k1 =>
   have H := HA.out
   clear HA
   simp only [xg.l0] at H
   rcases iL H with H1 | H1 <;> clear H <;> obtain ⟨H, d3⟩ := H1
   ·obtain ⟨B, M⟩ : ∃ j_ : Int, (wrap64 (q * j)) = j_ := ⟨_, rfl⟩
    replace H : (if 0 ≤ (B) then (if (B) ≤ (wrap64 ((wrap64 (q + 1)) * j)) then (if (wrap64 ((wrap64 (q + 1)) * j)) ≤ (d.length : Int) then (if E.length < 5864062014805 then (xg.l0 k1 (E ++ [((d.take ((wrap64 ((wrap64 (q + 1)) * j)) : Int).toNat).drop ((B) : Int).toNat)]) t (wrap64 (q + 1)) j t d) else (none)) else (none)) else (none)) else (none)) = some r := by first | (rw [M] at H; exact H) | (simp only [M] at H ⊢; exact H)
    have d1 : (IntKind.i64.wrap (q * j)) = B := (xS _).trans M
    by_cases c6 : 0 ≤ (B)
    ·rw [if_pos c6] at H
     have d4 := eq_true c6
     have d5 := decide_eq_true c6
     clear c6
     by_cases c7 : (B) ≤ (wrap64 ((wrap64 (q + 1)) * j))
     ·rw [if_pos c7] at H
      have d6 := eq_true c7
      have d7 := decide_eq_true c7
      by_cases c8 : (wrap64 ((wrap64 (q + 1)) * j)) ≤ (d.length : Int)
      ·rw [if_pos c8] at H
       have d8 := eq_true c8
       have d9 := decide_eq_true c8
       obtain ⟨z, hy_⟩ : ∃ y_ : List Int, y_ = ((d.take ((wrap64 ((wrap64 (q + 1)) * j)) : Int).toNat).drop ((B) : Int).toNat) := ⟨_, rfl⟩
       replace H : (if E.length < 5864062014805 then (xg.l0 k1 (E ++ [z]) t (wrap64 (q + 1)) j t d) else (none)) = some r := rh
       have O := aE hy_
       clear hy_
       by_cases c9 : E.length < 5864062014805
       ·rw [if_pos c9] at H
        have a6 := aE c9
        clear c9
        obtain ⟨X, hy_⟩ : ∃ y_ : List (List Int), y_ = (E ++ [z]) := ⟨_, rfl⟩
        replace H : (xg.l0 k1 X t (wrap64 (q + 1)) j t d) = some r := rh
        have Z := aE hy_
        clear hy_
        have H' := aE H
        clear H
        obtain ⟨a7, a8, a9, b0, b1, b2⟩ := yk x.out
        have a0 : ((wrap64 ((wrap64 (q + 1)) * j)) : Int) ≤ ((d.length : Int) : Int) := dt
        obtain ⟨e0, T, _, hsz11, _⟩ := info_parts info5
        have hroom11 : d.length ≤ y := (Kd.V_reads' s.out).2.1
        have hC11 : Kd.F (Kd.int .u8) _ _ D d.length d := (Kd.V_at (base := w.heap.size) s.out).2.2
        have ql11 : ((B) : Int) ≤ ((wrap64 ((wrap64 (q + 1)) * j)) : Int) := dt
        have b3 : (0 : Int) ≤ ((B) : Int) := dt
        have hcut11 := cut_mid (P := Tryz.prog) 22 5 .i64 .i64 Tryz.underlying22 T 1 hsz11 D d.length y (B) (wrap64 ((wrap64 (q + 1)) * j)) b3 ql11 a0 hroom11
        have hr11 := Kd.F_mid (lo := ((B) : Int).toNat) (hi := ((wrap64 ((wrap64 (q + 1)) * j)) : Int).toNat) (c := y) hC11 (by omega) (by omega) hroom11
        obtain ⟨a1, hA11⟩ : ∃ A1, A1 = (if y = ((B) : Int).toNat then D else (D : Option Addr).map (·.add (((B) : Int).toNat * 1))) := ⟨_, rfl⟩
        obtain ⟨a2, L⟩ : ∃ c1, c1 = y - ((B) : Int).toNat := ⟨_, rfl⟩
        have hy11 : z.length = ((wrap64 ((wrap64 (q + 1)) * j)) : Int).toNat - ((B) : Int).toNat := (by rw [O.out, List.length_drop, List.length_take] <;> omega)
        rw [show ((d).take ((wrap64 ((wrap64 (q + 1)) * j)) : Int).toNat).drop ((B) : Int).toNat = z from O.out.symm] at hr11
        replace hr11 : Kd.F (Kd.int .u8) _ _ a1 z.length z := (by rw [hA11]; exact hr11)
        rw [← hy11, ← hA11, ← L] at hcut11
        have G := aE (show Kd.V (Kd.int .u8) 5 _ w.heap.size _ (.slice a1 z.length a2) z from Kd.V_mk (by rw [hy11, L]; exact Nat.sub_le_sub_right (Nat.le_trans (by omega) hroom11) _) hr11)
        have d2 := aE (show z.length ≤ a2 from by rw [hy11, L]; exact Nat.sub_le_sub_right (Nat.le_trans (by omega) hroom11) _)
        clear hr11 hC11 hroom11 T hsz11 L
        have KY11 := aE hy11
        have KA11 := aE hA11
        clear hy11 hA11
        replace a0 := eq_true a0
        go_wp2_with (first | ((with_reducible refine wU (b := .append) (xs := #[.tmp 10, .tmp 23]) rfl ?_); at_builtin; refine Kd.N_append (Kd.slice 5 (Kd.int .u8)) (w0 := w) w.heap.size rfl (.tmp 10) (.tmp 23) 42 22 (.slice none 0 0) 24 rfl Tryz.underlying42 info22 rfl (by decide) (by omega) u3 E z [.slice a1 z.length a2] (fun k_ => (P0_2_ k_ ∨ w.heap.size ≤ k_) ∧ k_ ≠ u) (fun k_ => ((fun k_ => (P0_2_ k_ ∨ w.heap.size ≤ k_) ∧ k_ ≠ u)) k_ ∧ some k_ ≠ (u3 : Value).ownBlock) rfl rfl ?aP (fun _ hk => hk) ?aF ?aO ?aB ?aS ?aL ?_; (case aP => exact (Kd.FK_slice_mk (Kd.V_reads' (Kd.z8 (ok' := (fun k_ => ((fun k_ => (P0_2_ k_ ∨ w.heap.size ≤ k_) ∧ k_ ≠ u)) k_ ∧ some k_ ≠ (u3 : Value).ownBlock)) (G.out) (fun k_ hk => ⟨⟨hk.1, hk.2.2⟩, hk.2.1⟩))).2.1 (Kd.V_F (Kd.z8 (ok' := (fun k_ => ((fun k_ => (P0_2_ k_ ∨ w.heap.size ≤ k_) ∧ k_ ≠ u)) k_ ∧ some k_ ≠ (u3 : Value).ownBlock)) (G.out) (fun k_ hk => ⟨⟨hk.1, hk.2.2⟩, hk.2.1⟩))))); (case aB => exact bl); (case aF => exact (fun k_ hk => ⟨(.inr (Nat.le_trans bz hk)), Kd.kz (bU x.out) k_ hk⟩)); (case aO => exact (by (with_reducible repeat (first | apply Kd.yZ | apply Kd.yX | apply Kd.zv)); exact J.out)); (case aS => exact bz); (case aL => have := a6.out; omega); intro e1 e2 ho hb hg hat; rw [← Z.out] at ho; have n_ := aC (Kd.Vl (ok := (fun k_ => (P0_2_ k_ ∨ w.heap.size ≤ k_) ∧ k_ ≠ u)) (by (with_reducible repeat (first | apply Kd.zC | apply Kd.zD | apply Kd.zS)); exact Kd.z8 s.out (fun _ hk => ⟨⟨hk.1, hk.2.2⟩, hk.2.1⟩)) hg hat) (aC (xz (bU x.out) hg (Kd.N_ne J.out x.out (by decide))) (aC (Kd.Vl (ok := (fun k_ => (P0_2_ k_ ∨ w.heap.size ≤ k_) ∧ k_ ≠ u)) (by (with_reducible repeat (first | apply Kd.zC | apply Kd.zD | apply Kd.zS)); exact Kd.z8 G.out (fun _ hk => ⟨⟨hk.1, hk.2.2⟩, hk.2.1⟩)) hg hat) (aC hb (aE ho)))); clear s x G HB J; obtain ⟨s, x, G, HB, a3⟩ := n_; clear ho hb hg hat))
        go_roundg k1
        case measure => have := a5.out; omega
        case rel => exact ⟨(X), (wrap64 (q + 1)), rq, H', ⟨by have := a5.out; omega⟩, ⟨by (with_reducible repeat (first | apply Kd.yZ | apply Kd.yX | apply Kd.zv)); exact a3.out⟩, ⟨by (with_reducible repeat (first | apply Kd.zC | apply Kd.zD | apply Kd.zS)); exact Kd.z8 s.out (fun _ hk => ⟨hk.1.1, ⟨hk.2, hk.1.2⟩⟩)⟩, ⟨bU x.out⟩, ⟨bl⟩⟩
       ·rw [if_neg c9] at H
        exact nB H
      ·rw [if_neg c8] at H
       exact nB H
     ·rw [if_neg c7] at H
      exact nB H
    ·rw [if_neg c6] at H
     exact nB H
   ·obtain rfl := Option.some.inj H
    go_wp2
    go_ret
    exact ⟨_, re, by (with_reducible repeat (first | apply Kd.yZ | apply Kd.yX | apply Kd.zv)); exact Kd.zG J.out (fun _ hk => hk.1), bl⟩
mutual
def xd.l0 : Nat → List Int → List Int → Int → Int → Option (List Int)
 | 0, _, _, _, _ => none
 | k + 1, x0, x3, x4, x5 => if x5 < (x0.length : Int) then (xd.l1 k x0 x3 x4 x5 x5) else (some x3)
def xd.l1 : Nat → List Int → List Int → Int → Int → Int → Option (List Int)
 | 0, _, _, _, _, _ => none
 | k + 1, x0, x3, x4, x5, x6 => if x5 < (x0.length : Int) then (if 0 ≤ x5 then (if (rd x0 x5) = x4 then (xd.l1 k x0 x3 x4 (wrap64 (x5 + 1)) x6) else (if x3.length < 17592186044416 then (xd.l0 k x0 (x3 ++ [wrap64 (x5 - x6)]) ((1 - x4) % 256) x5) else (none))) else (none)) else (if x3.length < 17592186044416 then (xd.l0 k x0 (x3 ++ [wrap64 (x5 - x6)]) ((1 - x4) % 256) x5) else (none))
end
def xd.f (k : Nat) (l0 : List Int) : Option (List Int) := xd.l0 k l0 ([] : List Int) 0 0
theorem xd.wt : ∀ k, (∀ y0 y1 y2 y3, vK (xd.l0 k y0 y1 y2 y3) (xd.l0 (k + 1) y0 y1 y2 y3)) ∧ (∀ y0 y1 y2 y3 y4, vK (xd.l1 k y0 y1 y2 y3 y4) (xd.l1 (k + 1) y0 y1 y2 y3 y4))
 | 0 => ⟨fun _ _ _ _ r h => by simp [xd.l0] at h, fun _ _ _ _ _ r h => by simp [xd.l1] at h⟩
 | k + 1 => by
  obtain ⟨ih0, ih1⟩ := xd.wt k
  refine ⟨?_, ?_⟩
  ·intro y0 y1 y2 y3
   unfold xd.l0
   repeat' first
   | (with_reducible exact ih0 _ _ _ _)
   | (with_reducible exact ih1 _ _ _ _ _)
   | (with_reducible first | exact vK.refl _ | exact vK.none _ | apply vK.ite | apply vK.bind | intro)
  ·intro y0 y1 y2 y3 y4
   unfold xd.l1
   repeat' first
   | (with_reducible exact ih0 _ _ _ _)
   | (with_reducible exact ih1 _ _ _ _ _)
   | (with_reducible first | exact vK.refl _ | exact vK.none _ | apply vK.ite | apply vK.bind | intro)
theorem xd.mono : ∀ a0 k, vK (xd.f k a0) (xd.f (k + 1) a0) := by
 intro a0 k
 obtain ⟨ih0, ih1⟩ := xd.wt k
 unfold xd.f
 repeat' first
   | (with_reducible exact ih0 _ _ _ _)
   | (with_reducible exact ih1 _ _ _ _ _)
   | (with_reducible first | exact vK.refl _ | exact vK.none _ | apply vK.ite | apply vK.bind | intro)
theorem xd.calls (k : Nat) (A0 : Option Addr) (c0 : Nat) (l0 : List Int) (r : List Int) (w : World) (hr0 : Kd.C (Kd.int .u8) w A0 l0.length l0) (T : l0.length ≤ c0) (h : xd.f k l0 = some r) :
  Calls Tryz.prog 20 #[.slice A0 l0.length c0] w fun e w' => ∃ X : Value, e = .returned (X) ∧ Kd.R (Kd.int .i64) 3 w' w.heap.size (fun _ => True) X r ∧ Below w.heap.size w w' := by
 have Y := aE hr0
 have a8 := aE T
 clear hr0 T
 have HB := bR w
 have H : (xd.l0 k l0 ([] : List Int) 0 0) = some r := h
 clear h
 have H' := aE H
 clear H
 go_enter Tryz.func20, Tryz.ntmps20
 go_wp2
 go_loopg [3, 4, 5] k (fun kq v3 v4 v5 w' => ∃ (j : List Int) (t : Int) (q : Int), v4 = .int .u8 t ∧ v5 = .int .i64 q ∧ Aside0 (xd.l0 kq l0 j t q = some r) ∧ Aside0 (kq ≤ k) ∧ Aside0 (Kd.R (Kd.int .i64) 3 w' w.heap.size (fun _ => True) v3 j) ∧ Aside0 (Below w.heap.size w w'))
 case atStart => exact ⟨(([] : List Int)), (0), (0), rq, rq, H', ⟨Nat.le_refl _⟩, ⟨by first | exact Kd.yu _ _ _ _ _ | exact Kd.yR _ _ _ _ _ | exact Kd.yS _ _ _ _ _ | exact Kd.yP _ _ _ _ _ | exact Kd.yV _ _ _ _ _⟩, ⟨bl⟩⟩
 case round =>
  clear H'
  obtain ⟨j, t, q, rfl, rfl, HA, z, u, HB⟩ := hrel
  cases gk with
  | zero => exact absurd HA.out (by simp [xd.l0])
  | succ k1 =>
   have H := HA.out
   clear HA
   simp only [xd.l0] at H
   rcases iL H with H1 | H1 <;> clear H <;> obtain ⟨H, a1⟩ := H1
   ·have H' := aE H
    clear H
    go_wp2
    go_loopg [5] k1 (fun kq v5 w' => ∃ (d : Int), v5 = .int .i64 d ∧ Aside0 (xd.l1 kq l0 j t d q = some r) ∧ Aside0 (kq ≤ k1) ∧ Aside0 (Kd.R (Kd.int .i64) 3 w' w.heap.size (fun _ => True) u3 j) ∧ Aside0 (Below w.heap.size w w'))
    case atStart => exact ⟨(q), rq, H', ⟨Nat.le_refl _⟩, ⟨rU u.out⟩, ⟨bl⟩⟩
    case round =>
     clear H'
     obtain ⟨d, rfl, HA, B, u, HB⟩ := hrel
     cases gk with
     | zero => exact absurd HA.out (by simp [xd.l1])
     | succ k2 =>
      have H := HA.out
      clear HA
      simp only [xd.l1] at H
      rcases iL H with H1 | H1 <;> clear H <;> obtain ⟨H, a2⟩ := H1
      ·by_cases c4 : 0 ≤ d
       ·rw [if_pos c4] at H
        have a3 := decide_eq_true c4
        clear c4
        rcases iE H with H1 | H1 <;> clear H <;> obtain ⟨H, a4, a5, c5⟩ := H1
        ·have H' := aE H
         clear H
         have x : 0 ≤ (d : Int) := dt
         have y : d < (l0.length : Int) := dt
         obtain ⟨I, D, s⟩ := Kd.yc Y.out d x y
         cases D
         replace s := hcB HB.out s
         replace x := eq_true x
         replace y := eq_true y
         go_wp2
         go_roundg k2
         case measure => have := z.out; have := B.out; omega
         case rel => exact ⟨(wrap64 (d + 1)), rq, H', ⟨by have := z.out; have := B.out; omega⟩, ⟨rU u.out⟩, ⟨bl⟩⟩
        ·by_cases c6 : j.length < 17592186044416
         ·rw [if_pos c6] at H
          have Z := aE c6
          clear c6
          obtain ⟨E, hy_⟩ : ∃ y_ : List Int, y_ = (j ++ [wrap64 (d - q)]) := ⟨_, rfl⟩
          replace H : (xd.l0 k2 l0 E ((1 - t) % 256) d) = some r := rh
          have J := aE hy_
          clear hy_
          have H' := aE H
          clear H
          have x : 0 ≤ (d : Int) := dt
          have y : d < (l0.length : Int) := dt
          obtain ⟨I, D, s⟩ := Kd.yc Y.out d x y
          cases D
          replace s := hcB HB.out s
          replace x := eq_true x
          replace y := eq_true y
          go_wp2_with (first | ((with_reducible refine wU (b := .append) (xs := #[.tmp 26, .tmp 30]) rfl ?_); at_builtin; refine Kd.za (Kd.int .i64) (w0 := w) w.heap.size rfl (.tmp 26) (.tmp 30) 44 3 (.int .i64 0) 8 rfl Tryz.underlying44 info3 rfl (by decide) (by omega) u3 j (wrap64 (d - q)) [.int .i64 (wrap64 (d - q))] (fun _ => True) (fun _ => False) rfl rfl ?aP (fun _ hk => hk.elim) ?aF ?aO ?aB ?aS ?aL ?_; (case aP => exact rfl); (case aB => exact bl); (case aF => exact (fun _ _ => trivial)); (case aO => exact (rU u.out)); (case aS => exact bz); (case aL => have := Z.out; omega); intro a6 w7 ho hb hg hat; rw [← J.out] at ho; have n_ := aC hb (aE ho); clear HB u; obtain ⟨HB, L⟩ := n_; clear ho hb hg hat))
          go_roundg k2
          case measure => have := z.out; have := B.out; omega
          case rel => exact ⟨(E), ((1 - t) % 256), (d), rq, rq, H', ⟨by have := z.out; have := B.out; omega⟩, ⟨rU L.out⟩, ⟨bl⟩⟩
         ·rw [if_neg c6] at H
          exact nB H
       ·rw [if_neg c4] at H
        exact nB H
      ·by_cases c8 : j.length < 17592186044416
       ·rw [if_pos c8] at H
        have a0 := aE c8
        clear c8
        obtain ⟨G, hy_⟩ : ∃ y_ : List Int, y_ = (j ++ [wrap64 (d - q)]) := ⟨_, rfl⟩
        replace H : (xd.l0 k2 l0 G ((1 - t) % 256) d) = some r := rh
        have M := aE hy_
        clear hy_
        have H' := aE H
        clear H
        go_wp2_with (first | ((with_reducible refine wU (b := .append) (xs := #[.tmp 26, .tmp 30]) rfl ?_); at_builtin; refine Kd.za (Kd.int .i64) (w0 := w) w.heap.size rfl (.tmp 26) (.tmp 30) 44 3 (.int .i64 0) 8 rfl Tryz.underlying44 info3 rfl (by decide) (by omega) u3 j (wrap64 (d - q)) [.int .i64 (wrap64 (d - q))] (fun _ => True) (fun _ => False) rfl rfl ?aP (fun _ hk => hk.elim) ?aF ?aO ?aB ?aS ?aL ?_; (case aP => exact rfl); (case aB => exact bl); (case aF => exact (fun _ _ => trivial)); (case aO => exact (rU u.out)); (case aS => exact bz); (case aL => have := a0.out; omega); intro a7 w9 ho hb hg hat; rw [← M.out] at ho; have n_ := aC hb (aE ho); clear HB u; obtain ⟨HB, O⟩ := n_; clear ho hb hg hat))
        go_roundg k2
        case measure => have := z.out; have := B.out; omega
        case rel => exact ⟨(G), ((1 - t) % 256), (d), rq, rq, H', ⟨by have := z.out; have := B.out; omega⟩, ⟨rU O.out⟩, ⟨bl⟩⟩
       ·rw [if_neg c8] at H
        exact nB H
   ·obtain rfl := Option.some.inj H
    go_wp2
    go_ret
    exact ⟨_, re, rU u.out, bl⟩
end Go.Proofs.YtknclbodinfbeaaGreatDoor.PRunsBack
