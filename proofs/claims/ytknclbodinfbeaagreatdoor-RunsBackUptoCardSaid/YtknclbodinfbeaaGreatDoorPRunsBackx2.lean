-- printed (wip/tools/myprint.py)
import Derived.Test.YtknclbodinfbeaaGreatDoorPRunsBackx0
import Derived.Test.YtknclbodinfbeaaGreatDoorPRunsBackx1
namespace Go.Proofs.YtknclbodinfbeaaGreatDoor.PRunsBack
open Go.RowKit Go.Proofs.YtknclbodinfbeaaGreatDoorW.PrintWords Go.Proofs.YtknclbodinfbeaaGreatDoorW.PrintLast Go.Proofs.YtknclbodinfbeaaGreatDoorW.PrintMore
attribute [local go_sem] yo ym yC yD xU xT yn yq
set_option linter.unusedVariables false
set_option linter.unusedSimpArgs false
set_option maxHeartbeats 8000000
set_option maxRecDepth 100000
mutual
def vL.l0 : Nat → List Int → List Int → List (zq) → Int → Int → Int → Option ((List (zq)))
 | 0, _, _, _, _, _, _ => none
 | k + 1, x0, x1, x5, x6, x7, x8 => if x6 < x8 then (vL.j1 k x0 x1 x5 x6 x7 x8 (decide (x8 > 0))) else (vL.j1 k x0 x1 x5 x6 x7 x8 false)
def vL.j1 : Nat → List Int → List Int → List (zq) → Int → Int → Int → Bool → Option ((List (zq)))
 | 0, _, _, _, _, _, _, _ => none
 | k + 1, x0, x1, x5, x6, x7, x8, r => if r = true then ((wO.f k x0 x6 x7).bind fun e => ((wa.f k x1 x6 ((1 - x7) % 256)).bind fun d => (if e.2 < d then (if x5.length < 2932031007402 then (vL.l0 k x0 x1 (x5 ++ [(⟨(⟨#[112, 97, 115, 115]⟩ : ByteArray), 0, (⟨0, 0⟩ : jy), 0⟩ : zq)]) e.2 x7 x8) else (none)) else (if (wrap64 (d - e.1)) ≥ (-3) then (if (wrap64 (d - e.1)) ≤ 3 then (if x5.length < 2932031007402 then (vL.l0 k x0 x1 (x5 ++ [(⟨(⟨#[117, 112]⟩ : ByteArray), wrap64 (d - e.1), (⟨0, 0⟩ : jy), 0⟩ : zq)]) d ((1 - x7) % 256) x8) else (none)) else ((wa.f k x1 d x7).bind fun j => (if x5.length < 2932031007402 then (vL.l0 k x0 x1 (x5 ++ [(⟨(⟨#[102, 108, 97, 116]⟩ : ByteArray), 0, (⟨wrap64 (d - (mx x6 0)), wrap64 (j - d)⟩ : jy), wrap64 (x7)⟩ : zq)]) j x7 x8) else (none)))) else ((wa.f k x1 d x7).bind fun q => (if x5.length < 2932031007402 then (vL.l0 k x0 x1 (x5 ++ [(⟨(⟨#[102, 108, 97, 116]⟩ : ByteArray), 0, (⟨wrap64 (d - (mx x6 0)), wrap64 (q - d)⟩ : jy), wrap64 (x7)⟩ : zq)]) q x7 x8) else (none))))))) else (some x5)
end
def vL.f (k : Nat) (l0 : List Int) (l1 : List Int) : Option ((List (zq))) := vL.l0 k l0 l1 ([] : List (zq)) (-1) 0 (l1.length : Int)
theorem vL.wt : ∀ k, (∀ y0 y1 y2 y3 y4 y5, vK (vL.l0 k y0 y1 y2 y3 y4 y5) (vL.l0 (k + 1) y0 y1 y2 y3 y4 y5)) ∧ (∀ y0 y1 y2 y3 y4 y5 y6, vK (vL.j1 k y0 y1 y2 y3 y4 y5 y6) (vL.j1 (k + 1) y0 y1 y2 y3 y4 y5 y6))
 | 0 => ⟨fun _ _ _ _ _ _ r h => by simp [vL.l0] at h, fun _ _ _ _ _ _ _ r h => by simp [vL.j1] at h⟩
 | k + 1 => by
  obtain ⟨ih0, ih1⟩ := vL.wt k
  refine ⟨?_, ?_⟩
  ·intro y0 y1 y2 y3 y4 y5
   unfold vL.l0
   repeat' first
   | (with_reducible exact ih0 _ _ _ _ _ _)
   | (with_reducible exact ih1 _ _ _ _ _ _ _)
   | (with_reducible exact wa.mono _ _ _ _)
   | (with_reducible exact wO.mono _ _ _ _)
   | (with_reducible first | exact vK.refl _ | exact vK.none _ | apply vK.ite | apply vK.bind | intro)
  ·intro y0 y1 y2 y3 y4 y5 y6
   unfold vL.j1
   repeat' first
   | (with_reducible exact ih0 _ _ _ _ _ _)
   | (with_reducible exact ih1 _ _ _ _ _ _ _)
   | (with_reducible exact wa.mono _ _ _ _)
   | (with_reducible exact wO.mono _ _ _ _)
   | (with_reducible first | exact vK.refl _ | exact vK.none _ | apply vK.ite | apply vK.bind | intro)
theorem vL.mono : ∀ a0 a1 k, vK (vL.f k a0 a1) (vL.f (k + 1) a0 a1) := by
 intro a0 a1 k
 obtain ⟨ih0, ih1⟩ := vL.wt k
 unfold vL.f
 repeat' first
   | (with_reducible exact ih0 _ _ _ _ _ _)
   | (with_reducible exact ih1 _ _ _ _ _ _ _)
   | (with_reducible exact wa.mono _ _ _ _)
   | (with_reducible exact wO.mono _ _ _ _)
   | (with_reducible first | exact vK.refl _ | exact vK.none _ | apply vK.ite | apply vK.bind | intro)
theorem vL.calls (k : Nat) (A0 : Option Addr) (c0 : Nat) (l0 : List Int) (A1 : Option Addr) (c1 : Nat) (l1 : List Int) (r : List (zq)) (w : World) (hr0 : Kd.C (Kd.int .u8) w A0 l0.length l0) (b8 : l0.length ≤ c0) (hr1 : Kd.C (Kd.int .u8) w A1 l1.length l1) (b9 : l1.length ≤ c1) (h : vL.f k l0 l1 = some r) :
  Calls Tryz.prog 23 #[.slice A0 l0.length c0, .slice A1 l1.length c1] w fun e w' => ∃ d0 : Value, e = .returned (d0) ∧ Kd.R k52 52 w' w.heap.size (fun _ => True) d0 r ∧ Below w.heap.size w w' := by
 have hu52 := Tryz.underlying52
 have hu50 := Tryz.underlying50
 have X := aE hr0
 have Y := aE b8
 clear hr0 b8
 have O := aE hr1
 have T := aE b9
 clear hr1 b9
 have HB := bR w
 have H : (vL.l0 k l0 l1 ([] : List (zq)) (-1) 0 (l1.length : Int)) = some r := h
 clear h
 have H' := aE H
 clear H
 go_enter Tryz.func23, Tryz.ntmps23
 go_wp2
 go_loopg [5, 6, 7] k (fun kq v5 v6 v7 w' => ∃ (t : List (zq)) (s : Int) (d : Int), v6 = .int .i64 s ∧ v7 = .int .u8 d ∧ Aside0 (vL.l0 kq l0 l1 t s d (l1.length : Int) = some r) ∧ Aside0 (kq ≤ k) ∧ Aside0 (Kd.R k52 52 w' w.heap.size (fun _ => True) v5 t) ∧ Aside0 (Below w.heap.size w w'))
 case atStart => exact ⟨(([] : List (zq))), ((-1)), (0), rq, rq, H', ⟨Nat.le_refl _⟩, ⟨by first | exact Kd.yu _ _ _ _ _ | exact Kd.yR _ _ _ _ _ | exact Kd.yS _ _ _ _ _ | exact Kd.yP _ _ _ _ _ | exact Kd.yV _ _ _ _ _⟩, ⟨bl⟩⟩
 case round =>
  clear H'
  try clear c1
  obtain ⟨t, s, d, rfl, rfl, HA, D, j, HB⟩ := hrel
  cases gk with
  | zero => exact absurd HA.out (by simp [vL.l0])
  | succ k1 =>
   have H := HA.out
   clear HA
   simp only [vL.l0] at H
   have a6 := aE H
   clear H
   go_upto_region 4 with (fail)
   go_cut [21] (fun d6 wc => ∃ (kq : Nat) (J : Bool), d6 = .bool J ∧ Aside0 (vL.j1 kq l0 l1 t s d (l1.length : Int) J = some r) ∧ Aside0 (kq ≤ k1) ∧ Aside0 (Kd.R k52 52 wc w.heap.size (fun _ => True) u5 t) ∧ Aside0 (Below w.heap.size w wc))
   case first =>
    have H := a6.out
    clear a6
    rcases iL H with H1 | H1 <;> clear H <;> obtain ⟨H, M⟩ := H1
    ·(first | rw [M] | (simp only [xS, zK]; rw [M]) | skip)
     have H' := aE H
     clear H
     go_wp2
     go_meet
     case rel => exact ⟨_, (decide ((l1.length : Int) > 0)), rq, H', ⟨by have := D.out; first | omega | exact Nat.le_refl _⟩, ⟨rU j.out⟩, ⟨bl⟩⟩
    ·(first | rw [M] | (simp only [xS, zK]; rw [M]) | skip)
     have H' := aE H
     clear H
     go_wp2
     go_meet
     case rel => exact ⟨_, (false), rq, H', ⟨by have := D.out; first | omega | exact Nat.le_refl _⟩, ⟨rU j.out⟩, ⟨bl⟩⟩
   case rest =>
    clear a6
    try clear c1
    obtain ⟨kq, J, rfl, HA, L, j, HB⟩ := hcut
    cases kq with
    | zero => exact absurd HA.out (by simp [vL.j1])
    | succ kj2 =>
     have H := HA.out
     clear HA
     simp only [vL.j1] at H
     by_cases c5 : J = true
     ·subst c5
      rw [if_pos rfl] at H
      obtain ⟨⟨B, E⟩, A6, H⟩ := oB H
      try dsimp only at H
      obtain ⟨q, A7, H⟩ := oB H
      try dsimp only at H
      rcases iL H with H1 | H1 <;> clear H <;> obtain ⟨H, d9⟩ := H1
      ·by_cases c9 : t.length < 2932031007402
       ·rw [if_pos c9] at H
        have d1 := aE c9
        clear c9
        obtain ⟨a2, hy_⟩ : ∃ y_ : List (zq), y_ = (t ++ [(⟨(⟨#[112, 97, 115, 115]⟩ : ByteArray), 0, (⟨0, 0⟩ : jy), 0⟩ : zq)]) := ⟨_, rfl⟩
        replace H : (vL.l0 kj2 l0 l1 a2 E d (l1.length : Int)) = some r := rh
        have a7 := aE hy_
        clear hy_
        have H' := aE H
        clear H
        go_wp2_with (first | ((with_reducible refine gf 38 rfl ?_); refine gL (some 26) rfl rfl Tryz.func38 rfl #[.slice A0 l0.length c0, .int .i64 s, .int .u8 d] rfl ?_; (with_reducible refine (wO.calls kj2 _ _ l0 s d B E _ ?side1 ?side2 A6.out).mono ?_); (case side1 => exact cU (Kd.wz X.out HB.out)); (case side2 => exact Y.out); rintro e e4 ⟨rfl, hb⟩; refine ⟨_, rfl, ?_⟩; have n_ := aC (Kd.wg (rU j.out) hb) (aE (bs hb)); clear j HB; obtain ⟨j, HB⟩ := n_) | ((with_reducible refine gf 39 rfl ?_); refine gL (some 33) rfl rfl Tryz.func39 rfl #[.slice A1 l1.length c1, .int .i64 s, .int .u8 ((1 - d) % 256)] rfl ?_; (with_reducible refine (wa.calls kj2 _ _ l1 s ((1 - d) % 256) q _ ?side1 ?side2 A7.out).mono ?_); (case side1 => exact cU (Kd.wz O.out HB.out)); (case side2 => exact T.out); rintro e e5 ⟨rfl, hb⟩; refine ⟨_, rfl, ?_⟩; have n_ := aC (Kd.wg (rU j.out) hb) (aE (bs hb)); clear j HB; obtain ⟨j, HB⟩ := n_) | ((with_reducible refine wU (b := .append) (xs := #[.tmp 57, .tmp 59]) rfl ?_); at_builtin; refine Kd.za k52 (w0 := w) w.heap.size rfl (.tmp 57) (.tmp 59) 48 52 (.agg #[(.string ⟨#[]⟩), (.int .i64 0), (.int .i64 0), (.int .i64 0), (.int .i64 0)]) 48 rfl Tryz.underlying48 info52 rfl (by decide) (by omega) u5 t (⟨(⟨#[112, 97, 115, 115]⟩ : ByteArray), 0, (⟨0, 0⟩ : jy), 0⟩ : zq) [.string (⟨#[112, 97, 115, 115]⟩ : ByteArray), .int .i64 0, .int .i64 0, .int .i64 0, .int .i64 0] (fun _ => True) (fun _ => False) rfl rfl ?aP (fun _ hk => hk.elim) ?aF ?aO ?aB ?aS ?aL ?_; (case aP => exact qI _ _ _ (⟨(⟨#[112, 97, 115, 115]⟩ : ByteArray), 0, (⟨0, 0⟩ : jy), 0⟩ : zq)); (case aB => exact bl); (case aF => exact (fun _ _ => trivial)); (case aO => exact (rU j.out)); (case aS => exact bz); (case aL => have := d1.out; omega); intro e0 e6 ho hb hg hat; rw [← a7.out] at ho; have n_ := aC hb (aE ho); clear HB j; obtain ⟨HB, a8⟩ := n_; clear ho hb hg hat))
        go_roundg kj2
        case measure => have := D.out; have := L.out; omega
        case rel => exact ⟨(a2), (E), (d), rq, rq, H', ⟨by have := D.out; have := L.out; omega⟩, ⟨rU a8.out⟩, ⟨bl⟩⟩
       ·rw [if_neg c9] at H
        exact nB H
      ·rcases iL H with H1 | H1 <;> clear H <;> obtain ⟨H, d7⟩ := H1
       ·rcases iL H with H1 | H1 <;> clear H <;> obtain ⟨H, d8⟩ := H1
        ·by_cases Z : t.length < 2932031007402
         ·rw [if_pos Z] at H
          have a9 := aE Z
          clear Z
          obtain ⟨a3, hy_⟩ : ∃ y_ : List (zq), y_ = (t ++ [(⟨(⟨#[117, 112]⟩ : ByteArray), wrap64 (q - B), (⟨0, 0⟩ : jy), 0⟩ : zq)]) := ⟨_, rfl⟩
          replace H : (vL.l0 kj2 l0 l1 a3 q ((1 - d) % 256) (l1.length : Int)) = some r := rh
          have b0 := aE hy_
          clear hy_
          have H' := aE H
          clear H
          go_wp2_with (first | ((with_reducible refine gf 38 rfl ?_); refine gL (some 26) rfl rfl Tryz.func38 rfl #[.slice A0 l0.length c0, .int .i64 s, .int .u8 d] rfl ?_; (with_reducible refine (wO.calls kj2 _ _ l0 s d B E _ ?side1 ?side2 A6.out).mono ?_); (case side1 => exact cU (Kd.wz X.out HB.out)); (case side2 => exact Y.out); rintro e e7 ⟨rfl, hb⟩; refine ⟨_, rfl, ?_⟩; have n_ := aC (Kd.wg (rU j.out) hb) (aE (bs hb)); clear j HB; obtain ⟨j, HB⟩ := n_) | ((with_reducible refine gf 39 rfl ?_); refine gL (some 33) rfl rfl Tryz.func39 rfl #[.slice A1 l1.length c1, .int .i64 s, .int .u8 ((1 - d) % 256)] rfl ?_; (with_reducible refine (wa.calls kj2 _ _ l1 s ((1 - d) % 256) q _ ?side1 ?side2 A7.out).mono ?_); (case side1 => exact cU (Kd.wz O.out HB.out)); (case side2 => exact T.out); rintro e e8 ⟨rfl, hb⟩; refine ⟨_, rfl, ?_⟩; have n_ := aC (Kd.wg (rU j.out) hb) (aE (bs hb)); clear j HB; obtain ⟨j, HB⟩ := n_) | ((with_reducible refine wU (b := .append) (xs := #[.tmp 73, .tmp 78]) rfl ?_); at_builtin; refine Kd.za k52 (w0 := w) w.heap.size rfl (.tmp 73) (.tmp 78) 48 52 (.agg #[(.string ⟨#[]⟩), (.int .i64 0), (.int .i64 0), (.int .i64 0), (.int .i64 0)]) 48 rfl Tryz.underlying48 info52 rfl (by decide) (by omega) u5 t (⟨(⟨#[117, 112]⟩ : ByteArray), wrap64 (q - B), (⟨0, 0⟩ : jy), 0⟩ : zq) [.string (⟨#[117, 112]⟩ : ByteArray), .int .i64 (wrap64 (q - B)), .int .i64 0, .int .i64 0, .int .i64 0] (fun _ => True) (fun _ => False) rfl rfl ?aP (fun _ hk => hk.elim) ?aF ?aO ?aB ?aS ?aL ?_; (case aP => exact qI _ _ _ (⟨(⟨#[117, 112]⟩ : ByteArray), wrap64 (q - B), (⟨0, 0⟩ : jy), 0⟩ : zq)); (case aB => exact bl); (case aF => exact (fun _ _ => trivial)); (case aO => exact (rU j.out)); (case aS => exact bz); (case aL => have := a9.out; omega); intro e1 e9 ho hb hg hat; rw [← b0.out] at ho; have n_ := aC hb (aE ho); clear HB j; obtain ⟨HB, b1⟩ := n_; clear ho hb hg hat))
          go_roundg kj2
          case measure => have := D.out; have := L.out; omega
          case rel => exact ⟨(a3), (q), ((1 - d) % 256), rq, rq, H', ⟨by have := D.out; have := L.out; omega⟩, ⟨rU b1.out⟩, ⟨bl⟩⟩
         ·rw [if_neg Z] at H
          exact nB H
        ·obtain ⟨u, d2, H⟩ := oB H
         try dsimp only at H
         obtain ⟨G, y⟩ : ∃ j_ : Int, (mx s 0) = j_ := ⟨_, rfl⟩
         replace H : (if t.length < 2932031007402 then (vL.l0 kj2 l0 l1 (t ++ [(⟨(⟨#[102, 108, 97, 116]⟩ : ByteArray), 0, (⟨wrap64 (q - (G)), wrap64 (u - q)⟩ : jy), wrap64 (d)⟩ : zq)]) u d (l1.length : Int)) else (none)) = some r := by first | (rw [y] at H; exact H) | (simp only [y] at H ⊢; exact H)
         (try rw [y] at A6)
         (try rw [y] at A7)
         (try rw [y] at d2)
         have d4 : (if s < 0 then 0 else s) = G := y
         by_cases a0 : t.length < 2932031007402
         ·rw [if_pos a0] at H
          have b2 := aE a0
          clear a0
          obtain ⟨a4, hy_⟩ : ∃ y_ : List (zq), y_ = (t ++ [(⟨(⟨#[102, 108, 97, 116]⟩ : ByteArray), 0, (⟨wrap64 (q - (G)), wrap64 (u - q)⟩ : jy), wrap64 (d)⟩ : zq)]) := ⟨_, rfl⟩
          replace H : (vL.l0 kj2 l0 l1 a4 u d (l1.length : Int)) = some r := rh
          have b3 := aE hy_
          clear hy_
          have H' := aE H
          clear H
          go_wp2_with (first | ((with_reducible refine gf 38 rfl ?_); refine gL (some 26) rfl rfl Tryz.func38 rfl #[.slice A0 l0.length c0, .int .i64 s, .int .u8 d] rfl ?_; (with_reducible refine (wO.calls kj2 _ _ l0 s d B E _ ?side1 ?side2 A6.out).mono ?_); (case side1 => exact cU (Kd.wz X.out HB.out)); (case side2 => exact Y.out); rintro e f0 ⟨rfl, hb⟩; refine ⟨_, rfl, ?_⟩; have n_ := aC (Kd.wg (rU j.out) hb) (aE (bs hb)); clear j HB; obtain ⟨j, HB⟩ := n_) | ((with_reducible refine gf 39 rfl ?_); refine gL (some 33) rfl rfl Tryz.func39 rfl #[.slice A1 l1.length c1, .int .i64 s, .int .u8 ((1 - d) % 256)] rfl ?_; (with_reducible refine (wa.calls kj2 _ _ l1 s ((1 - d) % 256) q _ ?side1 ?side2 A7.out).mono ?_); (case side1 => exact cU (Kd.wz O.out HB.out)); (case side2 => exact T.out); rintro e f1 ⟨rfl, hb⟩; refine ⟨_, rfl, ?_⟩; have n_ := aC (Kd.wg (rU j.out) hb) (aE (bs hb)); clear j HB; obtain ⟨j, HB⟩ := n_) | ((with_reducible refine gf 39 rfl ?_); refine gL (some 37) rfl rfl Tryz.func39 rfl #[.slice A1 l1.length c1, .int .i64 q, .int .u8 d] rfl ?_; (with_reducible refine (wa.calls kj2 _ _ l1 q d u _ ?side1 ?side2 d2.out).mono ?_); (case side1 => exact cU (Kd.wz O.out HB.out)); (case side2 => exact T.out); rintro e f2 ⟨rfl, hb⟩; refine ⟨_, rfl, ?_⟩; have n_ := aC (Kd.wg (rU j.out) hb) (aE (bs hb)); clear j HB; obtain ⟨j, HB⟩ := n_) | ((with_reducible refine wU (b := .append) (xs := #[.tmp 38, .tmp 50]) rfl ?_); at_builtin; refine Kd.za k52 (w0 := w) w.heap.size rfl (.tmp 38) (.tmp 50) 48 52 (.agg #[(.string ⟨#[]⟩), (.int .i64 0), (.int .i64 0), (.int .i64 0), (.int .i64 0)]) 48 rfl Tryz.underlying48 info52 rfl (by decide) (by omega) u5 t (⟨(⟨#[102, 108, 97, 116]⟩ : ByteArray), 0, (⟨wrap64 (q - (G)), wrap64 (u - q)⟩ : jy), wrap64 (d)⟩ : zq) [.string (⟨#[102, 108, 97, 116]⟩ : ByteArray), .int .i64 0, .int .i64 (wrap64 (q - (G))), .int .i64 (wrap64 (u - q)), .int .i64 (wrap64 (d))] (fun _ => True) (fun _ => False) rfl rfl ?aP (fun _ hk => hk.elim) ?aF ?aO ?aB ?aS ?aL ?_; (case aP => exact qI _ _ _ (⟨(⟨#[102, 108, 97, 116]⟩ : ByteArray), 0, (⟨wrap64 (q - (G)), wrap64 (u - q)⟩ : jy), wrap64 (d)⟩ : zq)); (case aB => exact bl); (case aF => exact (fun _ _ => trivial)); (case aO => exact (rU j.out)); (case aS => exact bz); (case aL => have := b2.out; omega); intro e2 f3 ho hb hg hat; rw [← b3.out] at ho; have n_ := aC hb (aE ho); clear HB j; obtain ⟨HB, b4⟩ := n_; clear ho hb hg hat))
          go_roundg kj2
          case measure => have := D.out; have := L.out; omega
          case rel => exact ⟨(a4), (u), (d), rq, rq, H', ⟨by have := D.out; have := L.out; omega⟩, ⟨rU b4.out⟩, ⟨bl⟩⟩
         ·rw [if_neg a0] at H
          exact nB H
       ·obtain ⟨x, d3, H⟩ := oB H
        try dsimp only at H
        obtain ⟨I, z⟩ : ∃ j_ : Int, (mx s 0) = j_ := ⟨_, rfl⟩
        replace H : (if t.length < 2932031007402 then (vL.l0 kj2 l0 l1 (t ++ [(⟨(⟨#[102, 108, 97, 116]⟩ : ByteArray), 0, (⟨wrap64 (q - (I)), wrap64 (x - q)⟩ : jy), wrap64 (d)⟩ : zq)]) x d (l1.length : Int)) else (none)) = some r := by first | (rw [z] at H; exact H) | (simp only [z] at H ⊢; exact H)
        (try rw [z] at A6)
        (try rw [z] at A7)
        (try rw [z] at d3)
        have d5 : (if s < 0 then 0 else s) = I := z
        by_cases a1 : t.length < 2932031007402
        ·rw [if_pos a1] at H
         have b5 := aE a1
         clear a1
         obtain ⟨a5, hy_⟩ : ∃ y_ : List (zq), y_ = (t ++ [(⟨(⟨#[102, 108, 97, 116]⟩ : ByteArray), 0, (⟨wrap64 (q - (I)), wrap64 (x - q)⟩ : jy), wrap64 (d)⟩ : zq)]) := ⟨_, rfl⟩
         replace H : (vL.l0 kj2 l0 l1 a5 x d (l1.length : Int)) = some r := rh
         have b6 := aE hy_
         clear hy_
         have H' := aE H
         clear H
         go_wp2_with (first | ((with_reducible refine gf 38 rfl ?_); refine gL (some 26) rfl rfl Tryz.func38 rfl #[.slice A0 l0.length c0, .int .i64 s, .int .u8 d] rfl ?_; (with_reducible refine (wO.calls kj2 _ _ l0 s d B E _ ?side1 ?side2 A6.out).mono ?_); (case side1 => exact cU (Kd.wz X.out HB.out)); (case side2 => exact Y.out); rintro e f4 ⟨rfl, hb⟩; refine ⟨_, rfl, ?_⟩; have n_ := aC (Kd.wg (rU j.out) hb) (aE (bs hb)); clear j HB; obtain ⟨j, HB⟩ := n_) | ((with_reducible refine gf 39 rfl ?_); refine gL (some 33) rfl rfl Tryz.func39 rfl #[.slice A1 l1.length c1, .int .i64 s, .int .u8 ((1 - d) % 256)] rfl ?_; (with_reducible refine (wa.calls kj2 _ _ l1 s ((1 - d) % 256) q _ ?side1 ?side2 A7.out).mono ?_); (case side1 => exact cU (Kd.wz O.out HB.out)); (case side2 => exact T.out); rintro e f5 ⟨rfl, hb⟩; refine ⟨_, rfl, ?_⟩; have n_ := aC (Kd.wg (rU j.out) hb) (aE (bs hb)); clear j HB; obtain ⟨j, HB⟩ := n_) | ((with_reducible refine gf 39 rfl ?_); refine gL (some 37) rfl rfl Tryz.func39 rfl #[.slice A1 l1.length c1, .int .i64 q, .int .u8 d] rfl ?_; (with_reducible refine (wa.calls kj2 _ _ l1 q d x _ ?side1 ?side2 d3.out).mono ?_); (case side1 => exact cU (Kd.wz O.out HB.out)); (case side2 => exact T.out); rintro e f6 ⟨rfl, hb⟩; refine ⟨_, rfl, ?_⟩; have n_ := aC (Kd.wg (rU j.out) hb) (aE (bs hb)); clear j HB; obtain ⟨j, HB⟩ := n_) | ((with_reducible refine wU (b := .append) (xs := #[.tmp 38, .tmp 50]) rfl ?_); at_builtin; refine Kd.za k52 (w0 := w) w.heap.size rfl (.tmp 38) (.tmp 50) 48 52 (.agg #[(.string ⟨#[]⟩), (.int .i64 0), (.int .i64 0), (.int .i64 0), (.int .i64 0)]) 48 rfl Tryz.underlying48 info52 rfl (by decide) (by omega) u5 t (⟨(⟨#[102, 108, 97, 116]⟩ : ByteArray), 0, (⟨wrap64 (q - (I)), wrap64 (x - q)⟩ : jy), wrap64 (d)⟩ : zq) [.string (⟨#[102, 108, 97, 116]⟩ : ByteArray), .int .i64 0, .int .i64 (wrap64 (q - (I))), .int .i64 (wrap64 (x - q)), .int .i64 (wrap64 (d))] (fun _ => True) (fun _ => False) rfl rfl ?aP (fun _ hk => hk.elim) ?aF ?aO ?aB ?aS ?aL ?_; (case aP => exact qI _ _ _ (⟨(⟨#[102, 108, 97, 116]⟩ : ByteArray), 0, (⟨wrap64 (q - (I)), wrap64 (x - q)⟩ : jy), wrap64 (d)⟩ : zq)); (case aB => exact bl); (case aF => exact (fun _ _ => trivial)); (case aO => exact (rU j.out)); (case aS => exact bz); (case aL => have := b5.out; omega); intro e3 f7 ho hb hg hat; rw [← b6.out] at ho; have n_ := aC hb (aE ho); clear HB j; obtain ⟨HB, b7⟩ := n_; clear ho hb hg hat))
         go_roundg kj2
         case measure => have := D.out; have := L.out; omega
         case rel => exact ⟨(a5), (x), (d), rq, rq, H', ⟨by have := D.out; have := L.out; omega⟩, ⟨rU b7.out⟩, ⟨bl⟩⟩
        ·rw [if_neg a1] at H
         exact nB H
     ·replace c5 := Bool.eq_false_iff.mpr c5
      subst c5
      rw [if_neg Bool.false_ne_true] at H
      obtain rfl := Option.some.inj H
      go_wp2
      go_ret
      exact ⟨_, re, rU j.out, bl⟩
def zY.f (a0 : Int) : Option (Bool) := some (decide (a0 > 1))
theorem zY.calls (a0 : Int) (r : Bool) (w : World) (h : zY.f a0 = some r) :
  Calls Tryz.prog 53 #[.int .u8 a0] w fun e w' => e = .returned (.bool r) ∧ wl w w' := by
 have H : (some (decide (a0 > 1))) = some r := h
 clear h
 obtain rfl := Option.some.inj H
 go_enter Tryz.func53, Tryz.ntmps53
 go_wp2
 go_ret
 exact ⟨by first | rfl | (simp; done) | (simp [*]; done), by repeat (first | exact wl.refl _ | apply wl.step)⟩
def vO.l0 : Nat → List Int → Int → Int → Option (Int)
 | 0, _, _, _ => none
 | k + 1, x0, x7, x8 => if x8 < x7 then (if 0 ≤ x8 then (if x8 < (x0.length : Int) then ((zY.f (rd x0 x8)).bind fun d => (if d = true then (some x8) else (vO.l0 k x0 x7 (wrap64 (x8 + 1))))) else (none)) else (none)) else (some (-1))
def vO.f (k : Nat) (l0 : List Int)  : Option (Int) := vO.l0 k l0 (l0.length : Int) 0
theorem vO.wt : ∀ k, (∀ y0 y1 y2, vK (vO.l0 k y0 y1 y2) (vO.l0 (k + 1) y0 y1 y2))
 | 0 => fun _ _ _ r h => by simp [vO.l0] at h
 | k + 1 => by
  have ih0 := vO.wt k
  ·intro y0 y1 y2
   unfold vO.l0
   repeat' first
   | (with_reducible exact ih0 _ _ _)
   | (with_reducible first | exact vK.refl _ | exact vK.none _ | apply vK.ite | apply vK.bind | intro)
theorem vO.mono : ∀ a0 k, vK (vO.f k a0) (vO.f (k + 1) a0) := by
 intro a0 k
 have ih0 := vO.wt k
 unfold vO.f
 repeat' first
   | (with_reducible exact ih0 _ _ _)
   | (with_reducible first | exact vK.refl _ | exact vK.none _ | apply vK.ite | apply vK.bind | intro)
theorem vO.calls (k : Nat) (A0 : Option Addr) (c0 : Nat) (l0 : List Int)  (r : Int) (w : World) (hr0 : Kd.C (Kd.int .u8) w A0 l0.length l0) (x : l0.length ≤ c0) (h : vO.f k l0 = some r) :
  Calls Tryz.prog 77 #[.slice A0 l0.length c0, .func (.func 53) #[] #[]] w fun e w' => e = .returned (.int .i64 r) ∧ Below w.heap.size w w' := by
 have y := aE hr0
 have I := aE x
 clear hr0 x
 have HB := bR w
 have H : (vO.l0 k l0 (l0.length : Int) 0) = some r := h
 clear h
 have H' := aE H
 clear H
 go_enter Tryz.func77, Tryz.ntmps77
 go_wp2
 go_loopg [8] k (fun kq v8 w' => ∃ (d : Int), v8 = .int .i64 d ∧ Aside0 (vO.l0 kq l0 (l0.length : Int) d = some r) ∧ Aside0 (kq ≤ k) ∧ Aside0 (Below w.heap.size w w'))
 case atStart => exact ⟨(0), rq, H', ⟨Nat.le_refl _⟩, ⟨bl⟩⟩
 case round =>
  clear H'
  obtain ⟨d, rfl, HA, z, HB⟩ := hrel
  cases gk with
  | zero => exact absurd HA.out (by simp [vO.l0])
  | succ k1 =>
   have H := HA.out
   clear HA
   simp only [vO.l0] at H
   rcases iL H with H1 | H1 <;> clear H <;> obtain ⟨H, D⟩ := H1
   ·by_cases c4 : 0 ≤ d
    ·rw [if_pos c4] at H
     have E := decide_eq_true c4
     clear c4
     by_cases c5 : d < (l0.length : Int)
     ·rw [if_pos c5] at H
      have G := decide_eq_true c5
      clear c5
      obtain ⟨B, A6, H⟩ := oB H
      try dsimp only at H
      by_cases c7 : B = true
      ·subst c7
       rw [if_pos rfl] at H
       obtain rfl := Option.some.inj H
       have q : 0 ≤ (d : Int) := dt
       have s : d < (l0.length : Int) := dt
       obtain ⟨u, t, j⟩ := Kd.yc y.out d q s
       cases t
       replace j := hcB HB.out j
       replace q := eq_true q
       replace s := eq_true s
       go_wp2_with (first | ((with_reducible refine zN rfl ?_); refine jX (some 16) rfl rfl Tryz.func53 (by kernel_rfl) rfl #[.int .u8 (rd l0 d)] rfl rfl (by (try simp only [List.map_toArray, List.map_cons, List.map_nil]); first | done | rfl | (simp only [List.length_drop, List.length_take]; rfl)) ?_; (with_reducible refine (zY.calls (rd l0 d) true _ A6.out).mono ?_); rintro e w' ⟨rfl, ⟨nd, rfl⟩⟩; refine ⟨_, rfl, ?_⟩))
       go_ret
       exact ⟨re, bl⟩
      ·replace c7 := Bool.eq_false_iff.mpr c7
       subst c7
       rw [if_neg Bool.false_ne_true] at H
       have H' := aE H
       clear H
       have q : 0 ≤ (d : Int) := dt
       have s : d < (l0.length : Int) := dt
       obtain ⟨u, t, j⟩ := Kd.yc y.out d q s
       cases t
       replace j := hcB HB.out j
       replace q := eq_true q
       replace s := eq_true s
       go_wp2_with (first | ((with_reducible refine zN rfl ?_); refine jX (some 16) rfl rfl Tryz.func53 (by kernel_rfl) rfl #[.int .u8 (rd l0 d)] rfl rfl (by (try simp only [List.map_toArray, List.map_cons, List.map_nil]); first | done | rfl | (simp only [List.length_drop, List.length_take]; rfl)) ?_; (with_reducible refine (zY.calls (rd l0 d) false _ A6.out).mono ?_); rintro e w' ⟨rfl, ⟨nd, rfl⟩⟩; refine ⟨_, rfl, ?_⟩))
       go_roundg k1
       case measure => have := z.out; omega
       case rel => exact ⟨(wrap64 (d + 1)), rq, H', ⟨by have := z.out; omega⟩, ⟨bl⟩⟩
     ·rw [if_neg c5] at H
      exact nB H
    ·rw [if_neg c4] at H
     exact nB H
   ·obtain rfl := Option.some.inj H
    go_wp2
    go_ret
    exact ⟨re, bl⟩
def xj.f (k : Nat) (l0 : List Int)  : Option (Bool) := (vO.f k l0).bind fun d => (some (decide (d ≥ 0)))
theorem xj.mono : ∀ a0 k, vK (xj.f k a0) (xj.f (k + 1) a0) := by
 intro a0 k
 unfold xj.f
 repeat' first
   | (with_reducible exact vO.mono _ _)
   | (with_reducible first | exact vK.refl _ | exact vK.none _ | apply vK.ite | apply vK.bind | intro)
theorem xj.calls (k : Nat) (A0 : Option Addr) (c0 : Nat) (l0 : List Int)  (r : Bool) (w : World) (hr0 : Kd.C (Kd.int .u8) w A0 l0.length l0) (j : l0.length ≤ c0) (h : xj.f k l0 = some r) :
  Calls Tryz.prog 52 #[.slice A0 l0.length c0, .func (.func 53) #[] #[]] w fun e w' => e = .returned (.bool r) ∧ Below w.heap.size w w' := by
 have q := aE hr0
 have s := aE j
 clear hr0 j
 have HB := bR w
 have H : ((vO.f k l0).bind fun d => (some (decide (d ≥ 0)))) = some r := h
 clear h
 obtain ⟨d, A3, H⟩ := oB H
 try dsimp only at H
 obtain rfl := Option.some.inj H
 go_enter Tryz.func52, Tryz.ntmps52
 go_wp2_with (first | ((with_reducible refine gf 77 rfl ?_); refine gL (some 7) rfl rfl Tryz.func77 rfl #[.slice A0 l0.length c0, .func (.func 53) #[] #[]] rfl ?_; (with_reducible refine (vO.calls k _ _ l0  d _ ?side1 ?side2 A3.out).mono ?_); (case side1 => exact cU q.out); (case side2 => exact s.out); rintro e w4 ⟨rfl, hb⟩; refine ⟨_, rfl, ?_⟩; have n_ := aE (bs hb); clear HB; have HB := n_; clear n_))
 go_ret
 exact ⟨re, bl⟩
def yt.f (k : Nat) (l0 : List Int) : Option (Bool) := if (l0.length : Int) ≤ 200 then ((xj.f k l0).bind fun d => (some (!d))) else (some false)
theorem yt.mono : ∀ a0 k, vK (yt.f k a0) (yt.f (k + 1) a0) := by
 intro a0 k
 unfold yt.f
 repeat' first
   | (with_reducible exact xj.mono _ _)
   | (with_reducible first | exact vK.refl _ | exact vK.none _ | apply vK.ite | apply vK.bind | intro)
theorem yt.calls (k : Nat) (A0 : Option Addr) (c0 : Nat) (l0 : List Int) (r : Bool) (w : World) (hr0 : Kd.C (Kd.int .u8) w A0 l0.length l0) (d : l0.length ≤ c0) (h : yt.f k l0 = some r) :
  Calls Tryz.prog 32 #[.slice A0 l0.length c0] w fun e w' => e = .returned (.bool r) ∧ Below w.heap.size w w' := by
 have t := aE hr0
 have u := aE d
 clear hr0 d
 have HB := bR w
 have H := h
 unfold yt.f at H
 clear h
 by_cases c2 : (l0.length : Int) ≤ 200
 ·rw [if_pos c2] at H
  have j := decide_eq_true c2
  have q : decide (l0.length ≤ 200) = true := decide_eq_true (by omega)
  clear c2
  obtain ⟨s, A3, H⟩ := oB H
  try dsimp only at H
  obtain rfl := Option.some.inj H
  go_enter Tryz.func32, Tryz.ntmps32
  go_wp2_with (first | (go_at_call 52; (with_reducible refine (xj.calls k _ _ l0  s _ ?side1 ?side2 A3.out).mono ?_); (case side1 => exact cU t.out); (case side2 => exact u.out); rintro e w4 ⟨rfl, hb⟩; have n_ := aE (bs hb); clear HB; have HB := n_; clear n_))
  go_ret
  exact ⟨re, bl⟩
 ·rw [if_neg c2] at H
  have j := decide_eq_false c2
  have q : decide (l0.length ≤ 200) = false := decide_eq_false (by omega)
  clear c2
  obtain rfl := Option.some.inj H
  go_enter Tryz.func32, Tryz.ntmps32
  go_wp2
  go_ret
  exact ⟨re, bl⟩
def zE.f (a0 : Int) : Option ByteArray := if -9223372036854775808 ≤ a0 then (if a0 ≤ 9223372036854775807 then some ⟨(itz a0).toArray⟩ else none) else none
theorem zE.calls (a0 : Int) (r : ByteArray) (w : World) (hT0 : TIs w) (h : zE.f a0 = some r) :
  Calls Tryz.prog 33 #[.int .i64 a0] w fun e w' => e = .returned (.string r) ∧ Below w.heap.size w w' := by
 unfold zE.f at h
 split at h
 ·next h0 =>
  split at h
  ·next h1 =>
   obtain rfl := Option.some.inj h
   rw [itz_eq]
   exact itoa_calls a0 h0 h1 w hT0
  ·cases h
 ·cases h
mutual
def wX.j0 : Nat → List Int → List Int → Bool → Option (List ByteArray × Int)
 | 0, _, _, _ => none
 | k + 1, x0, x1, e => if e = true then (some (([] : List ByteArray), 2)) else ((vL.f k x0 x1).bind fun d => (wX.l0 k ([] : List ByteArray) d (d.length : Int) 0))
def wX.l0 : Nat → List ByteArray → List (zq) → Int → Int → Option (List ByteArray × Int)
 | 0, _, _, _, _ => none
 | k + 1, x6, e, q, d => if d < q then (if 0 ≤ d then (if d < (e.length : Int) then (if ((wj e d).f0).toList = ([117, 112] : List UInt8) then ((zE.f ((wj e d).f1)).bind fun j => (if ((wj e d).f0).size + j.size ≤ 9223372036854775807 then (if x6.length < 8796093022208 then (wX.l0 k (x6 ++ [((wj e d).f0) ++ j]) e q (wrap64 (d + 1))) else (none)) else (none))) else (if x6.length < 8796093022208 then (wX.l0 k (x6 ++ [(wj e d).f0]) e q (wrap64 (d + 1))) else (none))) else (none)) else (none)) else (some (x6, 0))
end
def wX.f (k : Nat) (l0 : List Int) (l1 : List Int) : Option (List ByteArray × Int) := (yt.f k l0).bind fun d => (if d = true then ((yt.f k l1).bind fun e => (if e = true then (wX.j0 k l0 l1 ((l0.length : Int) != (l1.length : Int))) else (wX.j0 k l0 l1 true))) else (wX.j0 k l0 l1 true))
theorem wX.wt : ∀ k, (∀ y0 y1 y2, vK (wX.j0 k y0 y1 y2) (wX.j0 (k + 1) y0 y1 y2)) ∧ (∀ y0 y1 y2 y3, vK (wX.l0 k y0 y1 y2 y3) (wX.l0 (k + 1) y0 y1 y2 y3))
 | 0 => ⟨fun _ _ _ r h => by simp [wX.j0] at h, fun _ _ _ _ r h => by simp [wX.l0] at h⟩
 | k + 1 => by
  obtain ⟨ih0, ih1⟩ := wX.wt k
  refine ⟨?_, ?_⟩
  ·intro y0 y1 y2
   unfold wX.j0
   repeat' first
   | (with_reducible exact ih0 _ _ _)
   | (with_reducible exact ih1 _ _ _ _)
   | (with_reducible exact yt.mono _ _)
   | (with_reducible exact vL.mono _ _ _)
   | (with_reducible first | exact vK.refl _ | exact vK.none _ | apply vK.ite | apply vK.bind | intro)
  ·intro y0 y1 y2 y3
   unfold wX.l0
   repeat' first
   | (with_reducible exact ih0 _ _ _)
   | (with_reducible exact ih1 _ _ _ _)
   | (with_reducible exact yt.mono _ _)
   | (with_reducible exact vL.mono _ _ _)
   | (with_reducible first | exact vK.refl _ | exact vK.none _ | apply vK.ite | apply vK.bind | intro)
theorem wX.mono : ∀ a0 a1 k, vK (wX.f k a0 a1) (wX.f (k + 1) a0 a1) := by
 intro a0 a1 k
 obtain ⟨ih0, ih1⟩ := wX.wt k
 unfold wX.f
 repeat' first
   | (with_reducible exact ih0 _ _ _)
   | (with_reducible exact ih1 _ _ _ _)
   | (with_reducible exact yt.mono _ _)
   | (with_reducible exact vL.mono _ _ _)
   | (with_reducible first | exact vK.refl _ | exact vK.none _ | apply vK.ite | apply vK.bind | intro)
theorem wX.calls (k : Nat) (A0 : Option Addr) (c0 : Nat) (l0 : List Int) (A1 : Option Addr) (c1 : Nat) (l1 : List Int) (r1 : List ByteArray) (r2 : Int) (w : World) (hT0 : TIs w) (hr0 : Kd.C (Kd.int .u8) w A0 l0.length l0) (b9 : l0.length ≤ c0) (hr1 : Kd.C (Kd.int .u8) w A1 l1.length l1) (d0 : l1.length ≤ c1) (h : wX.f k l0 l1 = some (r1, r2)) :
  Calls Tryz.prog 15 #[.slice A0 l0.length c0, .slice A1 l1.length c1] w fun e w' => ∃ d1 : Value, e = .returned (.tuple #[d1, .int .i64 r2]) ∧ Kd.R Kd.string 9 w' w.heap.size (fun _ => True) d1 r1 ∧ Below w.heap.size w w' := by
 have HTI := aE hT0
 clear hT0
 have hu52 := Tryz.underlying52
 have T := aE hr0
 have X := aE b9
 clear hr0 b9
 have a7 := aE hr1
 have a8 := aE d0
 clear hr1 d0
 have HB := bR w
 have H := h
 unfold wX.f at H
 clear h
 have a9 := aE H
 clear H
 go_enter Tryz.func15, Tryz.ntmps15
 go_upto_region 1 with (fail)
 go_cut [24] (fun g1 wc => ∃ (kq : Nat) (B : Bool), g1 = .bool B ∧ Aside0 (wX.j0 kq l0 l1 B = some (r1, r2)) ∧ Aside0 (kq ≤ k) ∧ Aside0 (Below w.heap.size w wc))
 case first =>
  have H := a9.out
  clear a9
  obtain ⟨d2, A4, H⟩ := oB H
  try dsimp only at H
  by_cases c5 : d2 = true
  ·subst c5
   rw [if_pos rfl] at H
   obtain ⟨d3, A6, H⟩ := oB H
   try dsimp only at H
   by_cases c7 : d3 = true
   ·subst c7
    rw [if_pos rfl] at H
    have H' := aE H
    clear H
    go_wp2_with (first | ((with_reducible refine gf 32 rfl ?_); refine gL (some 11) rfl rfl Tryz.func32 rfl #[.slice A0 l0.length c0] rfl ?_; (with_reducible refine (yt.calls k _ _ l0 true _ ?side1 ?side2 A4.out).mono ?_); (case side1 => exact cU (Kd.wz T.out HB.out)); (case side2 => exact X.out); rintro e w8 ⟨rfl, hb⟩; refine ⟨_, rfl, ?_⟩; have n_ := aE (bs hb); clear HB; have HB := n_; clear n_) | (go_at_call 32; (with_reducible refine (yt.calls k _ _ l1 true _ ?side1 ?side2 A6.out).mono ?_); (case side1 => exact cU (Kd.wz a7.out HB.out)); (case side2 => exact a8.out); rintro e w9 ⟨rfl, hb⟩; have n_ := aE (bs hb); clear HB; have HB := n_; clear n_))
    go_meet
    case rel => exact ⟨_, (((l0.length : Int) != (l1.length : Int))), rq, H', ⟨by first | omega | exact Nat.le_refl _⟩, ⟨bl⟩⟩
   ·replace c7 := Bool.eq_false_iff.mpr c7
    subst c7
    rw [if_neg Bool.false_ne_true] at H
    have H' := aE H
    clear H
    go_wp2_with (first | ((with_reducible refine gf 32 rfl ?_); refine gL (some 11) rfl rfl Tryz.func32 rfl #[.slice A0 l0.length c0] rfl ?_; (with_reducible refine (yt.calls k _ _ l0 true _ ?side1 ?side2 A4.out).mono ?_); (case side1 => exact cU (Kd.wz T.out HB.out)); (case side2 => exact X.out); rintro e i0 ⟨rfl, hb⟩; refine ⟨_, rfl, ?_⟩; have n_ := aE (bs hb); clear HB; have HB := n_; clear n_) | (go_at_call 32; (with_reducible refine (yt.calls k _ _ l1 false _ ?side1 ?side2 A6.out).mono ?_); (case side1 => exact cU (Kd.wz a7.out HB.out)); (case side2 => exact a8.out); rintro e i1 ⟨rfl, hb⟩; have n_ := aE (bs hb); clear HB; have HB := n_; clear n_))
    go_meet
    case rel => exact ⟨_, (true), rq, H', ⟨by first | omega | exact Nat.le_refl _⟩, ⟨bl⟩⟩
  ·replace c5 := Bool.eq_false_iff.mpr c5
   subst c5
   rw [if_neg Bool.false_ne_true] at H
   have H' := aE H
   clear H
   go_wp2_with (first | ((with_reducible refine gf 32 rfl ?_); refine gL (some 11) rfl rfl Tryz.func32 rfl #[.slice A0 l0.length c0] rfl ?_; (with_reducible refine (yt.calls k _ _ l0 false _ ?side1 ?side2 A4.out).mono ?_); (case side1 => exact cU (Kd.wz T.out HB.out)); (case side2 => exact X.out); rintro e i2 ⟨rfl, hb⟩; refine ⟨_, rfl, ?_⟩; have n_ := aE (bs hb); clear HB; have HB := n_; clear n_))
   go_meet
   case rel => exact ⟨_, (true), rq, H', ⟨by first | omega | exact Nat.le_refl _⟩, ⟨bl⟩⟩
 case rest =>
  clear a9
  try clear c1
  obtain ⟨kq, B, rfl, HA, Y, HB⟩ := hcut
  cases kq with
  | zero => exact absurd HA.out (by simp [wX.j0])
  | succ kj2 =>
   have H := HA.out
   clear HA
   simp only [wX.j0] at H
   by_cases Z : B = true
   ·subst Z
    rw [if_pos rfl] at H
    simp only [Option.some.injEq, Prod.mk.injEq] at H
    obtain ⟨rfl, rfl⟩ := H
    go_wp2
    go_ret2
    exact ⟨_, re, by first | exact Kd.yu _ _ _ _ _ | exact Kd.yR _ _ _ _ _ | exact Kd.yS _ _ _ _ _ | exact Kd.yP _ _ _ _ _ | exact Kd.yV _ _ _ _ _, bl⟩
   ·replace Z := Bool.eq_false_iff.mpr Z
    subst Z
    rw [if_neg Bool.false_ne_true] at H
    obtain ⟨j, g2, H⟩ := oB H
    try dsimp only at H
    have H' := aE H
    clear H
    go_wp2_with (first | ((with_reducible refine gf 23 rfl ?_); refine gL (some 27) rfl rfl Tryz.func23 rfl #[.slice A0 l0.length c0, .slice A1 l1.length c1] rfl ?_; (with_reducible refine (vL.calls kj2 _ _ l0 _ _ l1 j _ ?side1 ?side2 ?side3 ?side4 g2.out).mono ?_); (case side1 => exact cU (Kd.wz T.out HB.out)); (case side2 => exact X.out); (case side3 => exact cU (Kd.wz a7.out HB.out)); (case side4 => exact a8.out); rintro e i3 ⟨h7, rfl, g3, hb⟩; refine ⟨_, rfl, ?_⟩; have n_ := aC (Kd.vS g3 bz) (aE (bs hb)); clear HB; obtain ⟨D, HB⟩ := n_; obtain ⟨d4, d5, d6⟩ := Kd.vY D.out; subst d6))
    go_loopg [6, 29] kj2 (fun kq v6 g4 w' => ∃ (u : List ByteArray) (d : Int), g4 = .int .i64 d ∧ Aside0 (wX.l0 kq u j (j.length : Int) d = some (r1, r2)) ∧ Aside0 (kq ≤ kj2) ∧ Aside0 (Kd.R Kd.string 9 w' w.heap.size (fun _ => True) v6 u) ∧ Aside0 (Kd.R k52 52 w' w.heap.size (fun _ => True) (.slice d4 j.length d5) j) ∧ Aside0 (Below w.heap.size w w'))
    case atStart => exact ⟨(([] : List ByteArray)), (0), rq, H', ⟨Nat.le_refl _⟩, ⟨by first | exact Kd.yu _ _ _ _ _ | exact Kd.yR _ _ _ _ _ | exact Kd.yS _ _ _ _ _ | exact Kd.yP _ _ _ _ _ | exact Kd.yV _ _ _ _ _⟩, ⟨rU D.out⟩, ⟨bl⟩⟩
    case round =>
     clear H'
     try clear c1
     obtain ⟨u, d, rfl, HA, a0, t, r, HB⟩ := hrel
     cases gk with
     | zero => exact absurd HA.out (by simp [wX.l0])
     | succ k2 =>
      have H := HA.out
      clear HA
      simp only [wX.l0] at H
      rcases iL H with H1 | H1 <;> clear H <;> obtain ⟨H, g5⟩ := H1
      ·by_cases a1 : 0 ≤ d
       ·rw [if_pos a1] at H
        have g6 := decide_eq_true a1
        clear a1
        by_cases a2 : d < (j.length : Int)
        ·rw [if_pos a2] at H
         have g7 := decide_eq_true a2
         clear a2
         rcases iE H with H1 | H1 <;> clear H <;> obtain ⟨H, g8, g9, i4⟩ := H1
         ·obtain ⟨z, h3, H⟩ := oB H
          try dsimp only at H
          by_cases E : ((wj j d).f0).size + z.size ≤ 9223372036854775807
          ·rw [if_pos E] at H
           have h4 := eq_true E
           have h5 := decide_eq_true E
           try have h6 : (9223372036854775807 < ((wj j d).f0).size + z.size) = False := eq_false (Nat.not_lt.2 E)
           by_cases a3 : u.length < 8796093022208
           ·rw [if_pos a3] at H
            have b0 := aE a3
            clear a3
            obtain ⟨a5, hy_⟩ : ∃ y_ : List ByteArray, y_ = (u ++ [((wj j d).f0) ++ z]) := ⟨_, rfl⟩
            replace H : (wX.l0 k2 a5 j (j.length : Int) (wrap64 (d + 1))) = some (r1, r2) := rh
            have b1 := aE hy_
            clear hy_
            have H' := aE H
            clear H
            have x : 0 ≤ (d : Int) := dt
            have y : d < (j.length : Int) := dt
            obtain ⟨b2, G, I, J, L, M, O⟩ := at_T52 (Kd.R_reads' r.out).2.2 d x y
            cases G
            replace x := eq_true x
            replace y := eq_true y
            go_wp2_with (first | ((with_reducible refine gd 8 rfl ?_); (try (refine xK (by rfl) ?_; dsimp only)); refine bx 8 #[.string (⟨#[]⟩ : ByteArray), .int .i64 0, .int .i64 0, .int .i64 0, .int .i64 0] 52 rfl rfl ?_; intro q hg i5 hbox hb; have n_ := aC (Kd.wg (rU t.out) hb) (aC (Kd.wg (Kd.kd (rU r.out) q (Nat.le_of_eq hg.symm)) hb) (aC (bs hb) (aC hbox (aC (gz hg) (aE (gz hg)))))); clear t r HB; obtain ⟨t, r, HB, s, b3, b4⟩ := n_; clear hb hbox hg; obtain ⟨d7, d8, d9, e0, e1, e2, e3, e4, e5, e6⟩ := yz s.out) | ((with_reducible refine gf 33 rfl ?_); refine gL (some 40) rfl rfl Tryz.func33 rfl #[.int .i64 ((wj j d).f1)] rfl ?_; (with_reducible refine (zE.calls ((wj j d).f1) z _ (TIs.on HTI) h3.out).mono ?_); rintro e i6 ⟨rfl, hb⟩; refine ⟨_, rfl, ?_⟩; have n_ := aC (Kd.wg (rU (Kd.vU (Kd.wK (p := ⟨q, 4, none⟩) (Kd.wK (p := ⟨q, 3, none⟩) (Kd.wK (p := ⟨q, 2, none⟩) (Kd.wK (p := ⟨q, 1, none⟩) (Kd.wK (p := ⟨q, 0, none⟩) (Kd.xH t.out s.out (by decide)) (fun _ hk => hk.2) (.string ((wj j d).f0))) (fun _ hk => hk.2) (.int .i64 ((wj j d).f1))) (fun _ hk => hk.2) (.int .i64 ((wj j d).f2.f0))) (fun _ hk => hk.2) (.int .i64 ((wj j d).f2.f1))) (fun _ hk => hk.2) (.int .i64 ((wj j d).f3))) (fun _ h_ => h_.1))) hb) (aC (Kd.wg (rU (Kd.vU (Kd.wK (p := ⟨q, 4, none⟩) (Kd.wK (p := ⟨q, 3, none⟩) (Kd.wK (p := ⟨q, 2, none⟩) (Kd.wK (p := ⟨q, 1, none⟩) (Kd.wK (p := ⟨q, 0, none⟩) (Kd.vU r.out (fun k_ hk => (⟨hk, hk.2⟩ : _ ∧ k_ ≠ q))) (fun _ hk => hk.2) (.string ((wj j d).f0))) (fun _ hk => hk.2) (.int .i64 ((wj j d).f1))) (fun _ hk => hk.2) (.int .i64 ((wj j d).f2.f0))) (fun _ hk => hk.2) (.int .i64 ((wj j d).f2.f1))) (fun _ hk => hk.2) (.int .i64 ((wj j d).f3))) (fun _ h_ => h_.1))) hb) (aC (vp (g := q) (o := .cells #[.string ((wj j d).f0), .int .i64 ((wj j d).f1), .int .i64 ((wj j d).f2.f0), .int .i64 ((wj j d).f2.f1), .int .i64 ((wj j d).f3)] 52 (0, 0)) (by (with_reducible repeat first | apply vm | apply vn | apply vl); refine vt (cs := #[.string ((wj j d).f0), .int .i64 ((wj j d).f1), .int .i64 ((wj j d).f2.f0), .int .i64 ((wj j d).f2.f1), .int .i64 0]) ?_ 4 _ rfl; (with_reducible repeat first | apply vm | apply vn | apply vl); refine vt (cs := #[.string ((wj j d).f0), .int .i64 ((wj j d).f1), .int .i64 ((wj j d).f2.f0), .int .i64 0, .int .i64 0]) ?_ 3 _ rfl; (with_reducible repeat first | apply vm | apply vn | apply vl); refine vt (cs := #[.string ((wj j d).f0), .int .i64 ((wj j d).f1), .int .i64 0, .int .i64 0, .int .i64 0]) ?_ 2 _ rfl; (with_reducible repeat first | apply vm | apply vn | apply vl); refine vt (cs := #[.string ((wj j d).f0), .int .i64 0, .int .i64 0, .int .i64 0, .int .i64 0]) ?_ 1 _ rfl; (with_reducible repeat first | apply vm | apply vn | apply vl); refine vt (cs := #[.string (⟨#[]⟩ : ByteArray), .int .i64 0, .int .i64 0, .int .i64 0, .int .i64 0]) ?_ 0 _ rfl; (with_reducible repeat first | apply vm | apply vn | apply vl); exact s.out) hb) (aE (bs hb)))); clear t r s HB; obtain ⟨t, r, s, HB⟩ := n_) | ((with_reducible refine wU (b := .append) (xs := #[.tmp 42, .tmp 44]) rfl ?_); (try (refine xK (by rfl) ?_; dsimp only)); at_builtin; refine Kd.za Kd.string (w0 := w) w.heap.size rfl (.tmp 42) (.tmp 44) 37 9 (.string ⟨#[]⟩) 16 rfl Tryz.underlying37 info9 rfl (by decide) (by omega) u6 u (((wj j d).f0) ++ z) [.string (((wj j d).f0) ++ z)] (fun _ => True) (fun _ => False) rfl rfl ?aP (fun _ hk => hk.elim) ?aF ?aO ?aB ?aS ?aL ?_; (case aP => exact rfl); (case aB => exact bl); (case aF => exact (fun _ _ => trivial)); (case aO => exact (rU t.out)); (case aS => exact bz); (case aL => have := b0.out; omega); intro h8 i7 ho hb hg hat; rw [← b1.out] at ho; have n_ := aC (Kd.R_over' (rU r.out) (Kd.zI (rU t.out)) (by decide) hg) (aC (xz (g := q) (o := .cells #[.string ((wj j d).f0), .int .i64 ((wj j d).f1), .int .i64 ((wj j d).f2.f0), .int .i64 ((wj j d).f2.f1), .int .i64 ((wj j d).f3)] 52 (0, 0)) (bU s.out) hg (Kd.ja t.out s.out (by decide))) (aC hb (aE ho))); clear r s HB t; obtain ⟨r, s, HB, b5⟩ := n_; clear ho hb hg hat))
            go_roundg k2
            case measure => have := Y.out; have := a0.out; omega
            case rel => exact ⟨(a5), (wrap64 (d + 1)), rq, H', ⟨by have := Y.out; have := a0.out; omega⟩, ⟨rU b5.out⟩, ⟨rU (Kd.vU r.out (fun _ hk => trivial))⟩, ⟨bl⟩⟩
           ·rw [if_neg a3] at H
            exact nB H
          ·rw [if_neg E] at H
           exact nB H
         ·by_cases a4 : u.length < 8796093022208
          ·rw [if_pos a4] at H
           have b6 := aE a4
           clear a4
           obtain ⟨a6, hy_⟩ : ∃ y_ : List ByteArray, y_ = (u ++ [(wj j d).f0]) := ⟨_, rfl⟩
           replace H : (wX.l0 k2 a6 j (j.length : Int) (wrap64 (d + 1))) = some (r1, r2) := rh
           have b7 := aE hy_
           clear hy_
           have H' := aE H
           clear H
           have x : 0 ≤ (d : Int) := dt
           have y : d < (j.length : Int) := dt
           obtain ⟨b2, G, I, J, L, M, O⟩ := at_T52 (Kd.R_reads' r.out).2.2 d x y
           cases G
           replace x := eq_true x
           replace y := eq_true y
           go_wp2_with (first | ((with_reducible refine gd 8 rfl ?_); (try (refine xK (by rfl) ?_; dsimp only)); refine bx 8 #[.string (⟨#[]⟩ : ByteArray), .int .i64 0, .int .i64 0, .int .i64 0, .int .i64 0] 52 rfl rfl ?_; intro q hg i8 hbox hb; have n_ := aC (Kd.wg (rU t.out) hb) (aC (Kd.wg (Kd.kd (rU r.out) q (Nat.le_of_eq hg.symm)) hb) (aC (bs hb) (aC hbox (aC (gz hg) (aE (gz hg)))))); clear t r HB; obtain ⟨t, r, HB, s, b3, b4⟩ := n_; clear hb hbox hg; obtain ⟨e7, e8, e9, f4, f5, f6, f7, f8, f9, g0⟩ := yz s.out) | ((with_reducible refine wU (b := .append) (xs := #[.tmp 42, .tmp 44]) rfl ?_); (try (refine xK (by rfl) ?_; dsimp only)); at_builtin; refine Kd.za Kd.string (w0 := w) w.heap.size rfl (.tmp 42) (.tmp 44) 37 9 (.string ⟨#[]⟩) 16 rfl Tryz.underlying37 info9 rfl (by decide) (by omega) u6 u ((wj j d).f0) [.string ((wj j d).f0)] (fun _ => True) (fun _ => False) rfl (by first | (go_simp; done) | (go_simp; rfl)) ?aP (fun _ hk => hk.elim) ?aF ?aO ?aB ?aS ?aL ?_; (case aP => exact rfl); (case aB => exact bl); (case aF => exact (fun _ _ => trivial)); (case aO => exact (rU (Kd.vU (Kd.wK (p := ⟨q, 4, none⟩) (Kd.wK (p := ⟨q, 3, none⟩) (Kd.wK (p := ⟨q, 2, none⟩) (Kd.wK (p := ⟨q, 1, none⟩) (Kd.wK (p := ⟨q, 0, none⟩) (Kd.xH t.out s.out (by decide)) (fun _ hk => hk.2) (.string ((wj j d).f0))) (fun _ hk => hk.2) (.int .i64 ((wj j d).f1))) (fun _ hk => hk.2) (.int .i64 ((wj j d).f2.f0))) (fun _ hk => hk.2) (.int .i64 ((wj j d).f2.f1))) (fun _ hk => hk.2) (.int .i64 ((wj j d).f3))) (fun _ hk => trivial)))); (case aS => exact bz); (case aL => have := b6.out; omega); intro h9 i9 ho hb hg hat; rw [← b7.out] at ho; have n_ := aC (Kd.R_over' (rU (Kd.vU (Kd.wK (p := ⟨q, 4, none⟩) (Kd.wK (p := ⟨q, 3, none⟩) (Kd.wK (p := ⟨q, 2, none⟩) (Kd.wK (p := ⟨q, 1, none⟩) (Kd.wK (p := ⟨q, 0, none⟩) (Kd.vU r.out (fun k_ hk => (⟨hk, hk.2⟩ : _ ∧ k_ ≠ q))) (fun _ hk => hk.2) (.string ((wj j d).f0))) (fun _ hk => hk.2) (.int .i64 ((wj j d).f1))) (fun _ hk => hk.2) (.int .i64 ((wj j d).f2.f0))) (fun _ hk => hk.2) (.int .i64 ((wj j d).f2.f1))) (fun _ hk => hk.2) (.int .i64 ((wj j d).f3))) (fun _ h_ => h_.1))) (Kd.zI (rU (Kd.vU (Kd.wK (p := ⟨q, 4, none⟩) (Kd.wK (p := ⟨q, 3, none⟩) (Kd.wK (p := ⟨q, 2, none⟩) (Kd.wK (p := ⟨q, 1, none⟩) (Kd.wK (p := ⟨q, 0, none⟩) (Kd.xH t.out s.out (by decide)) (fun _ hk => hk.2) (.string ((wj j d).f0))) (fun _ hk => hk.2) (.int .i64 ((wj j d).f1))) (fun _ hk => hk.2) (.int .i64 ((wj j d).f2.f0))) (fun _ hk => hk.2) (.int .i64 ((wj j d).f2.f1))) (fun _ hk => hk.2) (.int .i64 ((wj j d).f3))) (fun _ h_ => h_.1)))) (by decide) hg) (aC (xz (g := q) (o := .cells #[.string ((wj j d).f0), .int .i64 ((wj j d).f1), .int .i64 ((wj j d).f2.f0), .int .i64 ((wj j d).f2.f1), .int .i64 ((wj j d).f3)] 52 (0, 0)) (by (with_reducible repeat first | apply vm | apply vn | apply vl); refine vt (cs := #[.string ((wj j d).f0), .int .i64 ((wj j d).f1), .int .i64 ((wj j d).f2.f0), .int .i64 ((wj j d).f2.f1), .int .i64 0]) ?_ 4 _ rfl; (with_reducible repeat first | apply vm | apply vn | apply vl); refine vt (cs := #[.string ((wj j d).f0), .int .i64 ((wj j d).f1), .int .i64 ((wj j d).f2.f0), .int .i64 0, .int .i64 0]) ?_ 3 _ rfl; (with_reducible repeat first | apply vm | apply vn | apply vl); refine vt (cs := #[.string ((wj j d).f0), .int .i64 ((wj j d).f1), .int .i64 0, .int .i64 0, .int .i64 0]) ?_ 2 _ rfl; (with_reducible repeat first | apply vm | apply vn | apply vl); refine vt (cs := #[.string ((wj j d).f0), .int .i64 0, .int .i64 0, .int .i64 0, .int .i64 0]) ?_ 1 _ rfl; (with_reducible repeat first | apply vm | apply vn | apply vl); refine vt (cs := #[.string (⟨#[]⟩ : ByteArray), .int .i64 0, .int .i64 0, .int .i64 0, .int .i64 0]) ?_ 0 _ rfl; (with_reducible repeat first | apply vm | apply vn | apply vl); exact s.out) hg (Kd.ja t.out s.out (by decide))) (aC hb (aE ho))); clear r s HB t; obtain ⟨r, s, HB, b8⟩ := n_; clear ho hb hg hat))
           go_roundg k2
           case measure => have := Y.out; have := a0.out; omega
           case rel => exact ⟨(a6), (wrap64 (d + 1)), rq, H', ⟨by have := Y.out; have := a0.out; omega⟩, ⟨rU b8.out⟩, ⟨rU (Kd.vU r.out (fun _ hk => trivial))⟩, ⟨bl⟩⟩
          ·rw [if_neg a4] at H
           exact nB H
        ·rw [if_neg a2] at H
         exact nB H
       ·rw [if_neg a1] at H
        exact nB H
      ·simp only [Option.some.injEq, Prod.mk.injEq] at H
       obtain ⟨rfl, rfl⟩ := H
       go_wp2
       go_ret2
       exact ⟨_, re, rU t.out, bl⟩
end Go.Proofs.YtknclbodinfbeaaGreatDoor.PRunsBack
