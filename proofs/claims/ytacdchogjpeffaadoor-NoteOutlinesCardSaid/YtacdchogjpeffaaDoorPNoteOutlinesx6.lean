-- printed (wip/tools/myprint.py)
import Derived.Test.YtacdchogjpeffaaDoorPNoteOutlinesx0
import Derived.Test.YtacdchogjpeffaaDoorPNoteOutlinesx4
import Derived.Test.YtacdchogjpeffaaDoorPNoteOutlinesx5
namespace Go.Proofs.YtacdchogjpeffaaDoor.PNoteOutlines
open Go.RowKit Go.Proofs.YtacdchogjpeffaaDoorW.PrintWords Go.Proofs.YtacdchogjpeffaaDoorW.PrintLast Go.Proofs.YtacdchogjpeffaaDoorW.PrintMore
attribute [local go_sem] max2_int min2_int max_two min_two max_three min_three max_four min_four
set_option linter.unusedVariables false
set_option linter.unusedSimpArgs false
mutual
def incunableref01_Size.j0 : Nat → Int → Bool → Option (List Int × Int)
 | 0, _, _ => none
 | k + 1, x0, x10 => if x10 = true then (some (([] : List Int), 2)) else (incunableref01_Size.l0 k (wrap64 (Int.tdiv x0 128)) (([(Int.tmod x0 128) % 256] : List Int)))
def incunableref01_Size.l0 : Nat → Int → List Int → Option (List Int × Int)
 | 0, _, _ => none
 | k + 1, x0, x4 => if x0 > 0 then ((some (([(wrap64 (128 + (Int.tmod x0 128))) % 256] : List Int) : List Int)).bind fun y160 => (if y160.length + x4.length < 140737488355328 then (incunableref01_Size.l0 k (wrap64 (Int.tdiv x0 128)) (y160 ++ x4)) else (none))) else (some (x4, 0))
end
def incunableref01_Size.f (k : Nat) (a0 : Int) : Option (List Int × Int) := if a0 < 0 then (incunableref01_Size.j0 k a0 true) else (incunableref01_Size.j0 k a0 (decide (a0 > 2147483647)))
theorem incunableref01_Size.mono_l : ∀ k, (∀ y0 y1, LeO (incunableref01_Size.j0 k y0 y1) (incunableref01_Size.j0 (k + 1) y0 y1)) ∧ (∀ y0 y1, LeO (incunableref01_Size.l0 k y0 y1) (incunableref01_Size.l0 (k + 1) y0 y1))
 | 0 => ⟨fun _ _ r h => by simp [incunableref01_Size.j0] at h, fun _ _ r h => by simp [incunableref01_Size.l0] at h⟩
 | k + 1 => by
  obtain ⟨ih0, ih1⟩ := incunableref01_Size.mono_l k
  refine ⟨?_, ?_⟩
  ·intro y0 y1
   unfold incunableref01_Size.j0
   repeat' first
   | (with_reducible exact ih0 _ _)
   | (with_reducible exact ih1 _ _)
   | (with_reducible first | exact LeO.refl _ | exact LeO.none _ | refine LeO.ite ?_ ?_ | refine LeO.bind ?_ (fun _ => ?_))
  ·intro y0 y1
   unfold incunableref01_Size.l0
   repeat' first
   | (with_reducible exact ih0 _ _)
   | (with_reducible exact ih1 _ _)
   | (with_reducible first | exact LeO.refl _ | exact LeO.none _ | refine LeO.ite ?_ ?_ | refine LeO.bind ?_ (fun _ => ?_))
theorem incunableref01_Size.mono : ∀ a0 k, LeO (incunableref01_Size.f k a0) (incunableref01_Size.f (k + 1) a0) := by
 intro a0 k
 obtain ⟨ih0, ih1⟩ := incunableref01_Size.mono_l k
 unfold incunableref01_Size.f
 repeat' first
   | (with_reducible exact ih0 _ _)
   | (with_reducible exact ih1 _ _)
   | (with_reducible first | exact LeO.refl _ | exact LeO.none _ | refine LeO.ite ?_ ?_ | refine LeO.bind ?_ (fun _ => ?_))
set_option maxHeartbeats 8000000 in
set_option maxRecDepth 100000 in
theorem incunableref01_Size.calls (k : Nat) (a0 : Int) (r1 : List Int) (r2 : Int) (w : World) (h : incunableref01_Size.f k a0 = some (r1, r2)) :
  Calls Tryd.prog 73 #[.int .i64 a0] w fun e w' => ∃ v0_ : Value, e = .returned (.tuple #[v0_, .int .i64 r2]) ∧ Kd.R (Kd.int .u8) 5 w' w.heap.size (fun _ => True) v0_ r1 ∧ Below w.heap.size w w' := by
 have HB := Aside0.mk (Below.refl w.heap.size w)
 have H := h
 unfold incunableref01_Size.f at H
 clear h
 have HC2 := Aside0.mk H
 clear H
 go_enter Tryd.func73, Tryd.ntmps73
 go_upto_region 1 with (fail)
 go_cut [10] (fun v10 wc => ∃ (kq : Nat) (x10_1 : Bool), v10 = .bool x10_1 ∧ Aside0 (incunableref01_Size.j0 kq a0 x10_1 = some (r1, r2)) ∧ Aside0 (kq ≤ k) ∧ Aside0 (Below w.heap.size w wc))
 case first =>
  have H := HC2.out
  clear HC2
  rcases iL H with H1 | H1 <;> clear H <;> obtain ⟨H, c3b0⟩ := H1
  ·(first | rw [c3b0] | (simp only [i64_w, i32_w]; rw [c3b0]) | skip)
   have H' := Aside0.mk H
   clear H
   go_wp2
   go_meet
   case rel => exact ⟨_, (true), rq, H', ⟨by first | omega | exact Nat.le_refl _⟩, ⟨bl⟩⟩
  ·(first | rw [c3b0] | (simp only [i64_w, i32_w]; rw [c3b0]) | skip)
   have H' := Aside0.mk H
   clear H
   go_wp2
   go_meet
   case rel => exact ⟨_, (decide (a0 > 2147483647)), rq, H', ⟨by first | omega | exact Nat.le_refl _⟩, ⟨bl⟩⟩
 case rest =>
  clear HC2
  obtain ⟨kq, x10_1, rfl, HA, HJ1, HB⟩ := hcut
  cases kq with
  | zero => exact absurd HA.out (by simp [incunableref01_Size.j0])
  | succ kj1 =>
   have H := HA.out
   clear HA
   simp only [incunableref01_Size.j0] at H
   by_cases c4 : x10_1 = true
   ·subst c4
    rw [if_pos rfl] at H
    simp only [Option.some.injEq, Prod.mk.injEq] at H
    obtain ⟨rfl, rfl⟩ := H
    go_wp2
    go_ret2
    exact ⟨_, re, by first | exact Kd.R_nil _ _ _ _ _ | exact Kd.N_nil _ _ _ _ _ | exact Kd.V_nil _ _ _ _ _ | exact Kd.Q_nil _ _ _ _ _ | exact Kd.S_nil _ _ _ _ _, bl⟩
   ·replace c4 := Bool.eq_false_iff.mpr c4
    subst c4
    rw [if_neg Bool.false_ne_true] at H
    obtain ⟨y157, hy_⟩ : ∃ y_ : List Int, y_ = (([(Int.tmod a0 128) % 256] : List Int)) := ⟨_, rfl⟩
    replace H : (incunableref01_Size.l0 kj1 (wrap64 (Int.tdiv a0 128)) y157) = some (r1, r2) := rh
    have Ny157 := aE hy_
    clear hy_
    have H' := Aside0.mk H
    clear H
    go_wp2_with (first | ((with_reducible refine gd 14 rfl ?_); refine Kd.R_lit (Kd.int .u8) _ 5 ?hg (N := 14) ?hd (xs := ([(Int.tmod a0 128) % 256] : List Int)) (inner := [.int .u8 ((Int.tmod a0 128) % 256)]) (ok := fun _ => True) (okp := fun _ => True) ?hr ?hp (fun _ hk => hk) trivial (Below.refl _ _) (Nat.le_refl _) (by simp) ?_; (case hd => rfl); (case hg => rfl); (case hr => first | (go_simp; done) | (go_simp; rfl)); (case hp => exact (Reps.one (show Kd.M (Kd.int .u8) _ _ _ ((Int.tmod a0 128) % 256) [.int .u8 ((Int.tmod a0 128) % 256)] from rfl) (Reps.none _ _))); intro v158 w5 ho6 hb hg_ hnew_; clear hg_ hnew_; (first | rw [← Ny157.out] at ho6 | (simp only [Int.reduceToNat] at ho6; rw [← Ny157.out] at ho6)); have n_ := aC (Kd.R_lower ho6 bz) (aE (bs hb)); clear HB; obtain ⟨HO159, HB⟩ := n_; clear hb ho6))
    go_loopg [0, 4] kj1 (fun kq v0 v4 w' => ∃ (x0_2 : Int) (x4_2 : List Int), v0 = .int .i64 x0_2 ∧ Aside0 (incunableref01_Size.l0 kq x0_2 x4_2 = some (r1, r2)) ∧ Aside0 (kq ≤ kj1) ∧ Aside0 (Kd.R (Kd.int .u8) 5 w' w.heap.size (fun _ => True) v4 x4_2) ∧ Aside0 (Below w.heap.size w w'))
    case atStart => exact ⟨(wrap64 (Int.tdiv a0 128)), (y157), rq, H', ⟨Nat.le_refl _⟩, ⟨rU HO159.out⟩, ⟨bl⟩⟩
    case round =>
     clear H'
     obtain ⟨x0_2, x4_2, rfl, HA, HK2, HO_4, HB⟩ := hrel
     cases gk with
     | zero => exact absurd HA.out (by simp [incunableref01_Size.l0])
     | succ k2 =>
      have H := HA.out
      clear HA
      simp only [incunableref01_Size.l0] at H
      rcases iL H with H1 | H1 <;> clear H <;> obtain ⟨H, c7b0⟩ := H1
      ·obtain ⟨y160, hy_⟩ : ∃ y_ : List Int, y_ = (([(wrap64 (128 + (Int.tmod x0_2 128))) % 256] : List Int)) := ⟨_, rfl⟩
       replace H : (if y160.length + x4_2.length < 140737488355328 then (incunableref01_Size.l0 k2 (wrap64 (Int.tdiv x0_2 128)) (y160 ++ x4_2)) else (none)) = some (r1, r2) := rh
       have Ny160 := aE hy_
       clear hy_
       by_cases c8 : y160.length + x4_2.length < 140737488355328
       ·rw [if_pos c8] at H
        have LMc8 := Aside0.mk c8
        clear c8
        obtain ⟨y163, hy_⟩ : ∃ y_ : List Int, y_ = (y160 ++ x4_2) := ⟨_, rfl⟩
        replace H : (incunableref01_Size.l0 k2 (wrap64 (Int.tdiv x0_2 128)) y163) = some (r1, r2) := rh
        have Ny163 := aE hy_
        clear hy_
        have H' := Aside0.mk H
        clear H
        go_wp2_with (first | ((with_reducible refine gd 25 rfl ?_); refine Kd.R_lit (Kd.int .u8) _ 5 ?hg (N := 25) ?hd (xs := ([(wrap64 (128 + (Int.tmod x0_2 128))) % 256] : List Int)) (inner := [.int .u8 ((wrap64 (128 + (Int.tmod x0_2 128))) % 256)]) (ok := fun _ => True) (okp := fun _ => True) ?hr ?hp (fun _ hk => hk) trivial (Below.refl _ _) (Nat.le_refl _) (by simp) ?_; (case hd => rfl); (case hg => rfl); (case hr => first | (go_simp; done) | (go_simp; rfl)); (case hp => exact (Reps.one (show Kd.M (Kd.int .u8) _ _ _ ((wrap64 (128 + (Int.tmod x0_2 128))) % 256) [.int .u8 ((wrap64 (128 + (Int.tmod x0_2 128))) % 256)] from rfl) (Reps.none _ _))); intro v161 w9 ho10 hb hg_ hnew_; clear hg_ hnew_; (first | rw [← Ny160.out] at ho10 | (simp only [Int.reduceToNat] at ho10; rw [← Ny160.out] at ho10)); have n_ := aC (Kd.R_elder' (rU HO_4.out) (Kd.R_base ho10) hb) (aC (Kd.R_lower (Kd.R_new' ho10 (Kd.R_lt (rU HO_4.out))) bz) (aE (bs hb))); clear HO_4 HB; obtain ⟨HO_4, HO162, HB⟩ := n_; clear hb ho10; obtain ⟨Ao12, co12, eo12⟩ := Kd.R_slice HO_4.out; subst eo12) | ((with_reducible refine gate_builtin (b := .append) (xs := #[.tmp 25, .tmp 26]) rfl ?_); at_builtin; refine Kd.R_append_rows (Kd.int .u8) (w0 := w) w.heap.size rfl (.tmp 25) (.tmp 26) 44 5 (.int .u8 0) 1 rfl Tryd.underlying44 info5 rfl (by decide) (by omega) v161 y160 x4_2 _ _ _ (fun k_ => some k_ ≠ (.slice Ao12 x4_2.length co12 : Value).ownBlock) (fun _ => False) rfl rfl ?aO ?aR (fun _ _ h => h) (fun _ h => h.elim) ?aF ?aB ?aS ?aL ?_; (case aR => repeat (first | exact (Kd.R_reads' HO_4.out).2.2 | (with_reducible refine Kd.C_alloc ?_ _) | (with_reducible refine Kd.C_drewN ?_ _) | (with_reducible refine Kd.C_drew ?_))); (case aB => exact bl); (case aF => exact (fun k_ hk => Kd.fresh' (Kd.R_lt (rU HO_4.out)) k_ hk)); (case aO => exact (rU (Kd.R_mono HO162.out (fun _ hk => hk.2)))); (case aS => exact bz); (case aL => have := LMc8.out; omega); intro v164 w11 ho hb hg hat; rw [← Ny163.out] at ho; have n_ := aC (Kd.R_after (ok := (fun _ => True)) (rU HO_4.out) hg hat) (aC hb (aE ho)); clear HO_4 HB HO162; obtain ⟨HO_4, HB, HO165⟩ := n_; clear ho hb hg hat))
        go_roundg k2
        case measure => have := HJ1.out; have := HK2.out; omega
        case rel => exact ⟨(wrap64 (Int.tdiv x0_2 128)), (y163), rq, H', ⟨by have := HJ1.out; have := HK2.out; omega⟩, ⟨rU (Kd.R_mono HO165.out (fun _ hk => trivial))⟩, ⟨bl⟩⟩
       ·rw [if_neg c8] at H
        exact absurd H (by simp)
      ·simp only [Option.some.injEq, Prod.mk.injEq] at H
       obtain ⟨rfl, rfl⟩ := H
       go_wp2
       go_ret2
       exact ⟨_, re, rU HO_4.out, bl⟩
theorem append_str_step {ops : Array Oper} {Q : Exit → Act → World → Prop} {Kc : Act → World → Prop} {o : Oper} {a : Act} {w0 W : World} (base : Nat) (hw : Region.wanted o (yielded ops a.tmps) = true) (s x : Operand)
  (ho : o.op = .call { callee := .builtin .append, args := #[s, x], argTypes := #[44, 9] }) (v : Value) (xs : List Int) (str : ByteArray) (hs : a.eval s = v) (hx : a.eval x = .string str)
  (HO : Kd.R (Kd.int .u8) 5 W base (fun _ => True) v xs) (HB : Below base w0 W) (hbase : base ≤ W.heap.size) (hl : xs.length + str.size ≤ 140737488355328)
  (h : ∀ v1 w1, Kd.R (Kd.int .u8) 5 w1 base (fun _ => True) v1 (xs ++ bytesOf str) → Below base w0 w1 → W.grownBy w1 v.ownBlock → Kc (a.put o.dst v1) w1) :
  if Region.wanted o (yielded ops a.tmps) = true then Oper.wp Tryd.prog o a W Kc Q else Kc (a.put o.dst undef) W := by
 obtain ⟨i0, hi, hz⟩ := Option.map_eq_some_iff.1 infoU
 simp only [Prod.mk.injEq] at hz
 obtain ⟨z0, z1, z2⟩ := hz
 have hown := Kd.own_of_R HO
 obtain ⟨v1, w1, hr1, h1, hg, _⟩ := Lib.run_append_own_string (P := Tryd.prog) W base 44 9 o.type 5 i0 Tryd.underlying44 Tryd.underlying9 hi z0 z1 z2 v xs.length _ hown str (by simp only [maxLen]; omega) hl hbase
 have e1 : encs (Value.int .u8) xs ++ Lib.strCells str = encs (Value.int .u8) (xs ++ bytesOf str) := by
  simp [encs, bytesOf, Lib.strCells]
 have hR : Kd.R (Kd.int .u8) 5 w1 base (fun _ => True) v1 (xs ++ bytesOf str) := by
  refine Kd.R_of_own ?_ (fun _ _ => trivial)
  rw [List.length_append, bytesOf_length]
  exact e1 ▸ h1
 rw [if_pos hw]
 unfold Oper.wp execOp
 simp only [ho, resolve, invoke, builtin, Sem.run_bind, Sem.run_pure, Result.andThen_ok, List.map_toArray, List.map_cons, List.map_nil, hs, hx, hr1]
 exact h v1 w1 hR (HB.grown hg hbase (own_base hown)) hg
theorem row_grown {e base : Nat} {ok : Nat → Prop} {w w1 : World} {v : Value} {xs : List Int} {row : Option Nat} (h : Kd.R (Kd.int .u8) e w base ok v xs) (hg : w.grownBy w1 row) (hn : ∀ k, v.ownBlock = some k → some k ≠ row) : Kd.R (Kd.int .u8) e w1 base ok v xs :=
 Kd.R_mono (Kd.R_grown (Kd.R_of_own (ok := fun k => v.ownBlock = some k ∧ ok k) (Kd.own_of_R h) (fun k hk => ⟨hk, h.1 k hk⟩)) hg (fun k hk => hn k hk.1)) (fun _ hk => hk.2)
mutual
def incunableref25_bytesOf.l0 : Nat → List (S61) → List Int → Int → Option (List Int)
 | 0, _, _, _ => none
 | k + 1, l, o, i => if i < (l.length : Int) then (if 0 ≤ i then ((incunableref01_Size.f k (((rd_T61 l i).f0).size : Int)).bind fun y1 => (incunableref01_Size.f k ((rd_T61 l i).f1)).bind fun y2 => (incunableref25_bytesOf.f k ((rd_T61 l i).f2)).bind fun y3 => if o.length + y1.1.length + ((rd_T61 l i).f0).size + y2.1.length + y3.length ≤ 140737488355328 then incunableref25_bytesOf.l0 k l (o ++ y1.1 ++ bytesOf ((rd_T61 l i).f0) ++ y2.1 ++ y3) (wrap64 (i + 1)) else none) else none) else some o
def incunableref25_bytesOf.f : Nat → List (S61) → Option (List Int)
 | 0, _ => none
 | k + 1, l => (incunableref01_Size.f k (l.length : Int)).bind fun y => incunableref25_bytesOf.l0 k l y.1 0
end
theorem incunableref25_bytesOf.mono_l : ∀ k, (∀ l o i, LeO (incunableref25_bytesOf.l0 k l o i) (incunableref25_bytesOf.l0 (k + 1) l o i)) ∧ (∀ l, LeO (incunableref25_bytesOf.f k l) (incunableref25_bytesOf.f (k + 1) l))
 | 0 => ⟨fun _ _ _ r h => by simp [incunableref25_bytesOf.l0] at h, fun _ r h => by simp [incunableref25_bytesOf.f] at h⟩
 | k + 1 => by
  obtain ⟨ih0, ih1⟩ := incunableref25_bytesOf.mono_l k
  refine ⟨fun l o i => ?_, fun l => ?_⟩
  ·unfold incunableref25_bytesOf.l0
   exact LeO.ite (LeO.ite (LeO.bind (incunableref01_Size.mono _ k) (fun _ => LeO.bind (incunableref01_Size.mono _ k) (fun _ => LeO.bind (ih1 _) (fun _ => LeO.ite (ih0 _ _ _) (LeO.refl _))))) (LeO.refl _)) (LeO.refl _)
  ·unfold incunableref25_bytesOf.f
   exact LeO.bind (incunableref01_Size.mono _ k) (fun _ => ih0 _ _ _)
theorem incunableref25_bytesOf.mono : ∀ a0 k, LeO (incunableref25_bytesOf.f k a0) (incunableref25_bytesOf.f (k + 1) a0) := fun a0 k => (incunableref25_bytesOf.mono_l k).2 a0
def incunableref25_bytesOf.T7 : Bool × List (List Nat × List Nat) := (true, [([], []), ([], []), ([0, 1], [0, 1]), ([], []), ([], []), ([3, 4], [3, 4]), ([5], [5]), ([6], [6]), ([2, 7, 2], [2, 7]), ([8, 8, 0, 1, 2, 3, 4, 5, 6, 7, 8], [0, 8])])
def incunableref25_bytesOf.B7 : List Nat := [0, 0, 3, 0, 0, 24, 56, 120, 255, 511]
def incunableref25_bytesOf.T8 : Bool × List (List Nat × List Nat) := (true, [([], []), ([], []), ([0, 1], [0, 1]), ([], []), ([], []), ([3, 4], [3, 4]), ([5], [5]), ([6], [6]), ([7, 2], [7]), ([2, 8, 8], [2, 8]), ([9, 9, 0, 1, 2, 3, 4, 5, 6, 7, 8, 9], [0, 9])])
def incunableref25_bytesOf.B8 : List Nat := [0, 0, 3, 0, 0, 24, 56, 120, 255, 511, 1023]
theorem incunableref25_bytesOf.tab7 : rtab .any (opsOf Tryd.f51 7) = incunableref25_bytesOf.T7 := by kernel_rfl
theorem incunableref25_bytesOf.bits7 : waitsOk incunableref25_bytesOf.T7.2 incunableref25_bytesOf.B7 = true := by kernel_rfl
theorem incunableref25_bytesOf.tab8 : rtab .any (opsOf Tryd.f51 8) = incunableref25_bytesOf.T8 := by kernel_rfl
theorem incunableref25_bytesOf.bits8 : waitsOk incunableref25_bytesOf.T8.2 incunableref25_bytesOf.B8 = true := by kernel_rfl
set_option maxHeartbeats 8000000 in
set_option maxRecDepth 100000 in
theorem incunableref25_bytesOf.calls (k : Nat) : ∀ (A0 : Option Addr) (c0 : Nat) (l0 : List (S61)) (r : List Int) (w : World) (hr0 : Kd.C k61 w A0 l0.length l0) (hc0 : l0.length ≤ c0) (h : incunableref25_bytesOf.f k l0 = some r),
  Calls Tryd.prog 51 #[.slice A0 l0.length c0] w fun e w' => ∃ v0_ : Value, e = .returned (v0_) ∧ Kd.R (Kd.int .u8) 5 w' w.heap.size (fun _ => True) v0_ r ∧ Below w.heap.size w w' := by
 induction k using Nat.strongRecOn with
 | _ k ih =>
 intro A0 c0 l0 r w hr0 hc0 h
 cases k with
 | zero => exact absurd h (by simp [incunableref25_bytesOf.f])
 | succ k =>
 simp only [incunableref25_bytesOf.f] at h
 have hu61 := Tryd.underlying61
 obtain ⟨⟨y, ye⟩, A0_, h⟩ := oB h
 have HR0 := Aside0.mk hr0
 have HC0 := Aside0.mk hc0
 have HB := Aside0.mk (Below.refl w.heap.size w)
 have H' := Aside0.mk h
 clear hr0 hc0 h
 go_enter Tryd.func51, Tryd.ntmps51
 go_wp2_with (first | (refine gF 73 13 Tryd.func73 #[.int .i64 (l0.length : Int)] rfl rfl ?_; refine (incunableref01_Size.calls k _ y ye _ A0_.out).mono ?_; rintro e w2 ⟨v3, rfl, ho, hb⟩; refine ⟨_, rfl, ?_⟩; have n_ := aC ho (aE (below_step HB.out hb)); clear HB; obtain ⟨HO, HB⟩ := n_; clear ho hb))
 go_loopg [3, 5] k (fun kq v3 v5 w' => ∃ (o1 : List Int) (i1 : Int), v5 = .int .i64 i1 ∧ Aside0 (incunableref25_bytesOf.l0 kq l0 o1 i1 = some r) ∧ Aside0 (kq ≤ k) ∧ Aside0 (Kd.R (Kd.int .u8) 5 w' w.heap.size (fun _ => True) v3 o1) ∧ Aside0 (Below w.heap.size w w'))
 case atStart => exact ⟨y, 0, rq, H', ⟨Nat.le_refl _⟩, HO, HB⟩
 case round =>
  clear H' HO HB
  obtain ⟨o1, i1, rfl, HA, HK1, HO, HB⟩ := hrel
  cases gk with
  | zero => exact absurd HA.out (by simp [incunableref25_bytesOf.l0])
  | succ k1 =>
   have H := HA.out
   clear HA
   simp only [incunableref25_bytesOf.l0] at H
   rcases iL H with H1 | H1 <;> clear H <;> obtain ⟨H, c4b0⟩ := H1
   ·by_cases c5 : 0 ≤ i1
    ·rw [if_pos c5] at H
     have c5b0 := decide_eq_true c5
     clear c5
     obtain ⟨⟨y1, y1e⟩, A1, H⟩ := oB H
     obtain ⟨⟨y2, y2e⟩, A2, H⟩ := oB H
     obtain ⟨y3, A3, H⟩ := oB H
     dsimp only at H
     by_cases lm : o1.length + y1.length + ((rd_T61 l0 i1).f0).size + y2.length + y3.length ≤ 140737488355328
     ·rw [if_pos lm] at H
      have LM := aE lm
      have H' := aE H
      clear lm H
      have p110 : 0 ≤ (i1 : Int) := dt
      have q110 : i1 < (l0.length : Int) := dt
      obtain ⟨ad, Ak, ck, ead, hw0, hw1, hw2, hl, hi⟩ := at_T61 HR0.out i1 p110 q110
      have KD := aC hi (aE hl)
      have HW := aC hw0 (aC hw1 (aE hw2))
      have x0 := hcB HB.out hw0
      have x1 := hcB HB.out hw1
      clear hi hl hw0 hw1 hw2
      cases ead
      replace p110 := eq_true p110
      replace q110 := eq_true q110
      go_wp2_with (first | (refine gF 73 29 Tryd.func73 #[.int .i64 (((rd_T61 l0 i1).f0).size : Int)] rfl rfl ?_; refine (incunableref01_Size.calls k1 _ y1 y1e _ A1.out).mono ?_; rintro e w10 ⟨v6, rfl, ho, hb⟩; refine ⟨_, rfl, ?_⟩; have n_ := aC (Kd.R_below HO.out hb) (aC (RowB.of ho) (aE (below_step HB.out hb))); clear HO HB x0 x1; obtain ⟨HO, R6, HB⟩ := n_; clear ho hb; have x1 := hcB HB.out HW.2.1.out) | (refine gF 73 38 Tryd.func73 #[.int .i64 ((rd_T61 l0 i1).f1)] rfl rfl ?_; refine (incunableref01_Size.calls k1 _ y2 y2e _ A2.out).mono ?_; rintro e w11 ⟨v8, rfl, ho, hb⟩; refine ⟨_, rfl, ?_⟩; have N8 := Aside0.mk (show ∀ q, v8.ownBlock = some q → some q ≠ u3.ownBlock from fun q hq e => by have h1 := Kd.R_base ho q hq; have h2 := own_lt HO.out q e.symm; omega); have n_ := aC (Kd.R_below HO.out hb) (aC (R6.out.below hb) (aC ho (aE (below_step HB.out hb)))); clear HO R6 HB x1; obtain ⟨HO, R6, R8, HB⟩ := n_; clear ho hb))
      generalize hW : w11.drew = w9
      have n_ := aC (show Kd.R (Kd.int .u8) 5 w9 w.heap.size (fun _ => True) u3 o1 from by rw [← hW]; exact rU HO.out) (aC (show RowB w9 v6 y1 from by rw [← hW]; exact R6.out.below (below_drew1 (Below.refl _ _))) (aC (show Kd.R (Kd.int .u8) 5 w9 _ (fun _ => True) v8 y2 from by rw [← hW]; exact rU R8.out) (aE (show Below w.heap.size w w9 from by rw [← hW]; exact below_drew1 HB.out))))
      clear HO R6 R8 HB
      obtain ⟨HO, R6, R8, HB⟩ := n_
      obtain ⟨P6, d6, e6, hc6, hC6⟩ := R6.out
      subst e6
      clear R6
      have R6 := aC hc6 (aE hC6)
      clear hc6 hC6
      refine st 10 (fun w' => w'.cell? (ad.add ((i1).toNat * 3)) = some (.string ((rd_T61 l0 i1).f0))) [] (bv 10 0) incunableref25_bytesOf.tab7 incunableref25_bytesOf.bits7 (by rw [hW]; exact hcB HB.out HW.1.out) (fun hHeld HT_ HW_ => ?_)
      rw [hW] at hHeld ⊢
      clear hW
      refine pu 0 41 (bv 10 1) HT_ rfl rfl ?_
      refine pu 1 42 (bv 10 3) HT_ rfl rfl ?_
      refine pu 3 44 (bv 10 11) HT_ rfl rfl ?_
      refine pu 4 45 (bv 10 27) HT_ rfl rfl ?_
      refine pu 5 46 (bv 10 59) HT_ rfl rfl ?_
      refine pu 6 47 (bv 10 123) HT_ rfl rfl ?_
      refine tk 7 48 (bv 10 251) HT_ HW_ hHeld rfl rfl (by rintro w' s0; exact yl) ?_
      refine one_ (i := 2) (N := some 43) (bv 10 255) rfl rfl (one_of HT_.out (by kernel_rfl)) (by decide) (fun K hK => ?_)
      refine Kd.R_append_rows_step (Kd.int .u8) (w0 := w) w.heap.size (by rfl) (.tmp 41) (.tmp 42) 44 5 (.int .u8 0) 1 rfl Tryd.underlying44 infoU rfl (by decide) (by omega) u3 o1 y1 _ _ _ (fun _ => True) (fun _ => False) rfl rfl ?aO ?aR (fun _ _ h => h) (fun _ h => h.elim) ?aF ?aB ?aS ?aL ?_
      (case aR => exact R6.2.out)
      (case aB => exact HB.out)
      (case aF => exact (fun _ _ => trivial))
      (case aO => exact HO.out)
      (case aS => exact below_size HB.out)
      (case aL => have := LM.out; omega)
      intro v43 w12 ho hb hg hat
      have n_ := aC ho (aC hb (aC (row_grown R8.out hg N8.out) (aE (show ∀ q, v8.ownBlock = some q → some q ≠ v43.ownBlock from fun q hq e => by
       have h1 := own_lt R8.out q hq
       rcases hat with hat | ⟨b, hat, hbb⟩
       ·exact N8.out q hq (e.trans hat)
       ·rw [hat] at e
        injection e with e
        omega))))
      clear HO HB R8 N8 R6
      obtain ⟨HO, HB, R8, N8⟩ := n_
      clear ho hb hg hat
      refine hK.out _ _ (hcB HB.out HW.1.out) (fun hHeld => ?_)
      clear hK K
      refine nm (some 43) ?_
      refine one_ (i := 8) (N := some 49) (bv 10 511) rfl rfl (one_of HT_.out (by kernel_rfl)) (by decide) (fun K hK => ?_)
      refine append_str_step (w0 := w) w.heap.size (by rfl) (.tmp 43) (.tmp 48) rfl v43 (o1 ++ y1) ((rd_T61 l0 i1).f0) rfl rfl HO.out HB.out (below_size HB.out) (by have := LM.out; rw [List.length_append]; omega) ?_
      intro v49 w13 ho hb hg
      have n_ := aC ho (aC hb (aE (row_grown R8.out hg N8.out)))
      clear HO HB R8 N8
      obtain ⟨HO, HB, R8⟩ := n_
      clear ho hb hg
      refine hK.out _ _ (hcB HB.out HW.1.out) (fun hHeld => ?_)
      clear hK K
      refine nm (some 49) ?_
      refine pu 9 3 (bv 10 1023) HT_ rfl rfl ?_
      refine done_ (done_of HT_.out (by kernel_rfl)) ?_
      clear hHeld HT_ HW_
      go_wp2
      obtain ⟨P8, d8, e8, hc8, hC8⟩ := RowB.of R8.out
      subst e8
      clear R8
      generalize hW : w13.drew = w9
      have n_ := aC (show Kd.R (Kd.int .u8) 5 w9 w.heap.size (fun _ => True) v49 (o1 ++ y1 ++ bytesOf ((rd_T61 l0 i1).f0)) from by rw [← hW]; exact rU HO.out) (aC (show Kd.C (Kd.int .u8) w9 P8 y2.length y2 from by rw [← hW]; exact Kd.C_below hC8 (below_drew1 (Below.refl _ _))) (aE (show Below w.heap.size w w9 from by rw [← hW]; exact below_drew1 HB.out)))
      clear HO HB hc8 hC8
      obtain ⟨HO, R8, HB⟩ := n_
      refine st 11 (fun w' => w'.cell? ⟨(ad.add ((i1).toNat * 3)).block, (ad.add ((i1).toNat * 3)).off + 2, none⟩ = some (.slice Ak ((rd_T61 l0 i1).f2).length ck)) [] (bv 11 0) incunableref25_bytesOf.tab8 incunableref25_bytesOf.bits8 (by rw [hW]; exact hcB HB.out HW.2.2.out) (fun hHeld HT_ HW_ => ?_)
      rw [hW] at hHeld ⊢
      clear hW
      refine pu 0 50 (bv 11 1) HT_ rfl rfl ?_
      refine pu 1 51 (bv 11 3) HT_ rfl rfl ?_
      refine pu 3 53 (bv 11 11) HT_ rfl rfl ?_
      refine pu 4 54 (bv 11 27) HT_ rfl rfl ?_
      refine pu 5 55 (bv 11 59) HT_ rfl rfl ?_
      refine pu 6 56 (bv 11 123) HT_ rfl rfl ?_
      refine tk 7 57 (bv 11 251) HT_ HW_ hHeld rfl rfl (by rintro w' s0; exact yl) ?_
      refine one_ (i := 2) (N := some 52) (bv 11 255) rfl rfl (one_of HT_.out (by kernel_rfl)) (by decide) (fun K hK => ?_)
      refine Kd.R_append_rows_step (Kd.int .u8) (w0 := w) w.heap.size (by rfl) (.tmp 50) (.tmp 51) 44 5 (.int .u8 0) 1 rfl Tryd.underlying44 infoU rfl (by decide) (by omega) v49 (o1 ++ y1 ++ bytesOf ((rd_T61 l0 i1).f0)) y2 _ _ _ (fun _ => True) (fun _ => False) rfl rfl ?aO ?aR (fun _ _ h => h) (fun _ h => h.elim) ?aF ?aB ?aS ?aL ?_
      (case aR => exact R8.out)
      (case aB => exact HB.out)
      (case aF => exact (fun _ _ => trivial))
      (case aO => exact HO.out)
      (case aS => exact below_size HB.out)
      (case aL => have := LM.out; have := bytesOf_length ((rd_T61 l0 i1).f0); rw [List.length_append, List.length_append]; omega)
      intro v52 w14 ho hb hg hat
      have n_ := aC ho (aE hb)
      clear HO HB R8
      obtain ⟨HO, HB⟩ := n_
      clear ho hb hg hat
      refine hK.out _ _ (hcB HB.out HW.2.2.out) (fun hHeld => ?_)
      clear hK K
      refine nm (some 52) ?_
      refine one_ (i := 8) (N := some 58) (bv 11 511) rfl rfl (one_of HT_.out (by kernel_rfl)) (by decide) (fun K hK => ?_)
      refine gK Tryd.func51 rfl #[.slice Ak ((rd_T61 l0 i1).f2).length ck] rfl rfl ?_
      refine (ih k1 (by have := HK1.out; omega) Ak ck ((rd_T61 l0 i1).f2) y3 _ (Kd.C_below KD.1.out HB.out) KD.2.out A3.out).mono ?_
      rintro e w15 ⟨v58, rfl, ho, hb⟩
      refine ⟨_, rfl, ?_⟩
      have n_ := aC (Kd.R_below HO.out hb) (aC (RowB.of ho) (aE (below_step HB.out hb)))
      clear HO HB
      obtain ⟨HO, R58, HB⟩ := n_
      clear ho hb
      obtain ⟨P9, d9, e9, hc9, hC9⟩ := R58.out
      subst e9
      clear R58
      have R58 := aE hC9
      clear hc9 hC9
      refine hK.out _ _ (hcB HB.out HW.2.2.out) (fun hHeld => ?_)
      clear hK K
      refine nm (some 58) ?_
      refine one_ (i := 9) (N := some 59) (bv 11 1023) rfl rfl (one_of HT_.out (by kernel_rfl)) (by decide) (fun K hK => ?_)
      refine Kd.R_append_rows_step (Kd.int .u8) (w0 := w) w.heap.size (by rfl) (.tmp 52) (.tmp 58) 44 5 (.int .u8 0) 1 rfl Tryd.underlying44 infoU rfl (by decide) (by omega) v52 (o1 ++ y1 ++ bytesOf ((rd_T61 l0 i1).f0) ++ y2) y3 _ _ _ (fun _ => True) (fun _ => False) rfl rfl ?aO ?aR (fun _ _ h => h) (fun _ h => h.elim) ?aF ?aB ?aS ?aL ?_
      (case aR => exact R58.out)
      (case aB => exact HB.out)
      (case aF => exact (fun _ _ => trivial))
      (case aO => exact HO.out)
      (case aS => exact below_size HB.out)
      (case aL => have := LM.out; have := bytesOf_length ((rd_T61 l0 i1).f0); rw [List.length_append, List.length_append, List.length_append]; omega)
      intro v59 w16 ho hb hg hat
      have n_ := aC ho (aE hb)
      clear HO HB R58
      obtain ⟨HO, HB⟩ := n_
      clear ho hb hg hat
      refine hK.out _ _ (hcB HB.out HW.2.2.out) (fun hHeld => ?_)
      clear hK K
      refine nm (some 59) ?_
      refine pu 10 3 (bv 11 2047) HT_ rfl rfl ?_
      refine done_ (done_of HT_.out (by kernel_rfl)) ?_
      go_wp2
      go_roundg k1
      case measure => have := HK1.out; omega
      case rel => exact ⟨_, wrap64 (i1 + 1), rq, H', ⟨by have := HK1.out; omega⟩, HO, HB⟩
     ·rw [if_neg lm] at H
      exact absurd H (by simp)
    ·rw [if_neg c5] at H
     exact absurd H (by simp)
   ·obtain rfl := Option.some.inj H
    go_wp2
    go_ret
    exact ⟨_, re, HO.out, HB.out⟩
def incunableref25_PutOutlines.f (k : Nat) (l0 : List (S61)) : Option (List Int × Int) := (incunableref25_ValidOutlines.f k l0).bind fun t166 => (if t166 = true then ((incunableref25_bytesOf.f k l0).bind fun t167 => (some (t167, 0))) else (some (([] : List Int), 95)))
theorem incunableref25_PutOutlines.mono : ∀ a0 k, LeO (incunableref25_PutOutlines.f k a0) (incunableref25_PutOutlines.f (k + 1) a0) := by
 intro a0 k
 unfold incunableref25_PutOutlines.f
 repeat' first
   | (with_reducible exact incunableref25_ValidOutlines.mono _ _)
   | (with_reducible exact incunableref25_bytesOf.mono _ _)
   | (with_reducible first | exact LeO.refl _ | exact LeO.none _ | refine LeO.ite ?_ ?_ | refine LeO.bind ?_ (fun _ => ?_))
set_option maxHeartbeats 8000000 in
set_option maxRecDepth 100000 in
theorem incunableref25_PutOutlines.calls (k : Nat) (A0 : Option Addr) (c0 : Nat) (l0 : List (S61)) (r1 : List Int) (r2 : Int) (w : World) (hr0 : Kd.C k61 w A0 l0.length l0) (hc0 : l0.length ≤ c0) (h : incunableref25_PutOutlines.f k l0 = some (r1, r2)) :
  Calls Tryd.prog 25 #[.slice A0 l0.length c0] w fun e w' => ∃ v0_ : Value, e = .returned (.tuple #[v0_, .int .i64 r2]) ∧ Kd.R (Kd.int .u8) 5 w' w.heap.size (fun _ => True) v0_ r1 ∧ Below w.heap.size w w' := by
 have HR0 := Aside0.mk hr0
 have HC0 := Aside0.mk hc0
 clear hr0 hc0
 have HB := Aside0.mk (Below.refl w.heap.size w)
 have H := h
 unfold incunableref25_PutOutlines.f at H
 clear h
 obtain ⟨t166, A2, H⟩ := oB H
 try dsimp only at H
 by_cases c3 : t166 = true
 ·subst c3
  rw [if_pos rfl] at H
  obtain ⟨t167, A4, H⟩ := oB H
  try dsimp only at H
  simp only [Option.some.injEq, Prod.mk.injEq] at H
  obtain ⟨rfl, rfl⟩ := H
  go_enter Tryd.func25, Tryd.ntmps25
  go_wp2_with (first | (refine gF 28 5 Tryd.func28 #[.slice A0 l0.length c0] rfl rfl ?_; (with_reducible refine (incunableref25_ValidOutlines.calls k _ _ l0 true _ ?side1 ?side2 A2.out).mono ?_); (case side1 => exact cU HR0.out); (case side2 => exact HC0.out); rintro e w5 ⟨rfl, hb⟩; refine ⟨_, rfl, ?_⟩; have n_ := aE (bs hb); clear HB; have HB := n_; clear n_) | (refine gF 51 8 Tryd.func51 #[.slice A0 l0.length c0] rfl rfl ?_; (with_reducible refine (incunableref25_bytesOf.calls k _ _ l0 t167 _ ?side1 ?side2 A4.out).mono ?_); (case side1 => exact cU (Kd.C_below HR0.out HB.out)); (case side2 => exact HC0.out); rintro e w6 ⟨v168, rfl, ho0, hb⟩; refine ⟨_, rfl, ?_⟩; have n_ := aC (Kd.R_lower ho0 bz) (aE (bs hb)); clear HB; obtain ⟨HO169, HB⟩ := n_))
  go_ret2
  exact ⟨_, re, rU HO169.out, bl⟩
 ·replace c3 := Bool.eq_false_iff.mpr c3
  subst c3
  rw [if_neg Bool.false_ne_true] at H
  simp only [Option.some.injEq, Prod.mk.injEq] at H
  obtain ⟨rfl, rfl⟩ := H
  go_enter Tryd.func25, Tryd.ntmps25
  go_wp2_with (first | (refine gF 28 5 Tryd.func28 #[.slice A0 l0.length c0] rfl rfl ?_; (with_reducible refine (incunableref25_ValidOutlines.calls k _ _ l0 false _ ?side1 ?side2 A2.out).mono ?_); (case side1 => exact cU HR0.out); (case side2 => exact HC0.out); rintro e w7 ⟨rfl, hb⟩; refine ⟨_, rfl, ?_⟩; have n_ := aE (bs hb); clear HB; have HB := n_; clear n_))
  go_ret2
  exact ⟨_, re, by first | exact Kd.R_nil _ _ _ _ _ | exact Kd.N_nil _ _ _ _ _ | exact Kd.V_nil _ _ _ _ _ | exact Kd.Q_nil _ _ _ _ _ | exact Kd.S_nil _ _ _ _ _, bl⟩
def incunableref01_SameBytes.f (l0 : List Int) (l1 : List Int) : Option (Bool) := some ((strOfNums l0).toList == (strOfNums l1).toList)
set_option maxHeartbeats 8000000 in
set_option maxRecDepth 100000 in
theorem incunableref01_SameBytes.calls (A0 : Option Addr) (c0 : Nat) (l0 : List Int) (A1 : Option Addr) (c1 : Nat) (l1 : List Int) (r : Bool) (w : World) (hr0 : Kd.C (Kd.int .u8) w A0 l0.length l0) (hc0 : l0.length ≤ c0) (hr1 : Kd.C (Kd.int .u8) w A1 l1.length l1) (hc1 : l1.length ≤ c1) (h : incunableref01_SameBytes.f l0 l1 = some r) :
  Calls Tryd.prog 26 #[.slice A0 l0.length c0, .slice A1 l1.length c1] w fun e w' => e = .returned (.bool r) ∧ Drawn0 w w' := by
 have HR0 := Aside0.mk hr0
 have HC0 := Aside0.mk hc0
 clear hr0 hc0
 have HR1 := Aside0.mk hr1
 have HC1 := Aside0.mk hc1
 clear hr1 hc1
 have H : (some ((strOfNums l0).toList == (strOfNums l1).toList)) = some r := h
 clear h
 obtain rfl := Option.some.inj H
 have hcv3 := Kd.C_string (P := Tryd.prog) (A := A0) (c := c0) Tryd.underlying44 Tryd.underlying5 Tryd.underlying9 HR0.out
 have hcv4 := Kd.C_string (P := Tryd.prog) (A := A1) (c := c1) Tryd.underlying44 Tryd.underlying5 Tryd.underlying9 HR1.out
 go_enter Tryd.func26, Tryd.ntmps26
 go_wp2
 go_ret
 exact ⟨by first | rfl | (simp; done) | (simp [*]; done), by repeat (first | exact Drawn0.refl _ | apply Drawn0.step)⟩
mutual
def bits_GetSize.j0 : Nat → List Int → Int → Int → Bool → Option (Int × Int × Int)
 | 0, _, _, _, _ => none
 | k + 1, x0, x1, x4, x16 => if x16 = true then (some (0, 0, 2)) else (bits_GetSize.l0 k x0 x1 x4 0)
def bits_GetSize.l0 : Nat → List Int → Int → Int → Int → Option (Int × Int × Int)
 | 0, _, _, _, _ => none
 | k + 1, x0, x1, x4, x17 => if x17 < 5 then (if (wrap64 (x1 + x17)) ≥ (x0.length : Int) then (some (0, 0, 6)) else (if 0 ≤ (wrap64 (x1 + x17)) then (if (wrap64 (x1 + x17)) < (x0.length : Int) then (if (wrap64 (rd x0 (wrap64 (x1 + x17)))) < 128 then (if (wrap64 ((wrap64 (x4 * 128)) + (Int.tmod (wrap64 (rd x0 (wrap64 (x1 + x17)))) 128))) > 2147483647 then (some (0, 0, 3)) else (if x17 > 0 then (if 0 ≤ x1 then (if x1 < (x0.length : Int) then (if (rd x0 x1) = 128 then (some (0, 0, 3)) else (some (wrap64 ((wrap64 (x4 * 128)) + (Int.tmod (wrap64 (rd x0 (wrap64 (x1 + x17)))) 128)), wrap64 ((wrap64 (x1 + x17)) + 1), 0))) else (none)) else (none)) else (some (wrap64 ((wrap64 (x4 * 128)) + (Int.tmod (wrap64 (rd x0 (wrap64 (x1 + x17)))) 128)), wrap64 ((wrap64 (x1 + x17)) + 1), 0)))) else (bits_GetSize.l0 k x0 x1 (wrap64 ((wrap64 (x4 * 128)) + (Int.tmod (wrap64 (rd x0 (wrap64 (x1 + x17)))) 128))) (wrap64 (x17 + 1)))) else (none)) else (none))) else (some (0, 0, 3))
end
def bits_GetSize.f (k : Nat) (l0 : List Int) (a1 : Int) : Option (Int × Int × Int) := if a1 < 0 then (bits_GetSize.j0 k l0 a1 0 true) else (bits_GetSize.j0 k l0 a1 0 (decide (a1 > (l0.length : Int))))
theorem bits_GetSize.mono_l : ∀ k, (∀ y0 y1 y2 y3, LeO (bits_GetSize.j0 k y0 y1 y2 y3) (bits_GetSize.j0 (k + 1) y0 y1 y2 y3)) ∧ (∀ y0 y1 y2 y3, LeO (bits_GetSize.l0 k y0 y1 y2 y3) (bits_GetSize.l0 (k + 1) y0 y1 y2 y3))
 | 0 => ⟨fun _ _ _ _ r h => by simp [bits_GetSize.j0] at h, fun _ _ _ _ r h => by simp [bits_GetSize.l0] at h⟩
 | k + 1 => by
  obtain ⟨ih0, ih1⟩ := bits_GetSize.mono_l k
  refine ⟨?_, ?_⟩
  ·intro y0 y1 y2 y3
   unfold bits_GetSize.j0
   repeat' first
   | (with_reducible exact ih0 _ _ _ _)
   | (with_reducible exact ih1 _ _ _ _)
   | (with_reducible first | exact LeO.refl _ | exact LeO.none _ | refine LeO.ite ?_ ?_ | refine LeO.bind ?_ (fun _ => ?_))
  ·intro y0 y1 y2 y3
   unfold bits_GetSize.l0
   repeat' first
   | (with_reducible exact ih0 _ _ _ _)
   | (with_reducible exact ih1 _ _ _ _)
   | (with_reducible first | exact LeO.refl _ | exact LeO.none _ | refine LeO.ite ?_ ?_ | refine LeO.bind ?_ (fun _ => ?_))
theorem bits_GetSize.mono : ∀ a0 a1 k, LeO (bits_GetSize.f k a0 a1) (bits_GetSize.f (k + 1) a0 a1) := by
 intro a0 a1 k
 obtain ⟨ih0, ih1⟩ := bits_GetSize.mono_l k
 unfold bits_GetSize.f
 repeat' first
   | (with_reducible exact ih0 _ _ _ _)
   | (with_reducible exact ih1 _ _ _ _)
   | (with_reducible first | exact LeO.refl _ | exact LeO.none _ | refine LeO.ite ?_ ?_ | refine LeO.bind ?_ (fun _ => ?_))
set_option maxHeartbeats 8000000 in
set_option maxRecDepth 100000 in
theorem bits_GetSize.calls (k : Nat) (A0 : Option Addr) (c0 : Nat) (l0 : List Int) (a1 : Int) (r1 : Int) (r2 : Int) (r3 : Int) (w : World) (hr0 : Kd.C (Kd.int .u8) w A0 l0.length l0) (hc0 : l0.length ≤ c0) (h : bits_GetSize.f k l0 a1 = some (r1, r2, r3)) :
  Calls Tryd.prog 92 #[.slice A0 l0.length c0, .int .i64 a1] w fun e w' => e = .returned (.tuple #[.int .i64 r1, .int .i64 r2, .int .i64 r3]) ∧ Drawn0 w w' := by
 have HR0 := Aside0.mk hr0
 have HC0 := Aside0.mk hc0
 clear hr0 hc0
 have H := h
 unfold bits_GetSize.f at H
 clear h
 have HC3 := Aside0.mk H
 clear H
 go_enter Tryd.func92, Tryd.ntmps92
 go_upto_region 1 with (fail)
 go_cut [16] (fun v16 wc => ∃ (kq : Nat) (x16_2 : Bool), v16 = .bool x16_2 ∧ Aside0 (bits_GetSize.j0 kq l0 a1 0 x16_2 = some (r1, r2, r3)) ∧ Aside0 (kq ≤ k) ∧ Drawn0 w wc)
 case first =>
  have H := HC3.out
  clear HC3
  rcases iL H with H1 | H1 <;> clear H <;> obtain ⟨H, c4b0⟩ := H1
  ·(first | rw [c4b0] | (simp only [i64_w, i32_w]; rw [c4b0]) | skip)
   have H' := Aside0.mk H
   clear H
   go_wp2
   go_meet
   case rel => exact ⟨_, (true), rq, H', ⟨by first | omega | exact Nat.le_refl _⟩, by repeat (first | exact Drawn0.refl _ | apply Drawn0.step)⟩
  ·(first | rw [c4b0] | (simp only [i64_w, i32_w]; rw [c4b0]) | skip)
   have H' := Aside0.mk H
   clear H
   go_wp2
   go_meet
   case rel => exact ⟨_, (decide (a1 > (l0.length : Int))), rq, H', ⟨by first | omega | exact Nat.le_refl _⟩, by repeat (first | exact Drawn0.refl _ | apply Drawn0.step)⟩
 case rest =>
  clear HC3
  obtain ⟨kq, x16_2, rfl, HA, HJ2, ⟨mc2, rfl⟩⟩ := hcut
  cases kq with
  | zero => exact absurd HA.out (by simp [bits_GetSize.j0])
  | succ kj2 =>
   have H := HA.out
   clear HA
   simp only [bits_GetSize.j0] at H
   by_cases c5 : x16_2 = true
   ·subst c5
    rw [if_pos rfl] at H
    simp only [Option.some.injEq, Prod.mk.injEq] at H
    obtain ⟨rfl, rfl, rfl⟩ := H
    go_wp2
    go_ret3
    exact ⟨by first | rfl | (simp; done) | (simp [*]; done), by repeat (first | exact Drawn0.refl _ | apply Drawn0.step)⟩
   ·replace c5 := Bool.eq_false_iff.mpr c5
    subst c5
    rw [if_neg Bool.false_ne_true] at H
    have H' := Aside0.mk H
    clear H
    go_wp2
    go_loopg [4, 17] kj2 (fun kq v4 v17 w' => ∃ (x4_2 : Int) (x17_2 : Int), v4 = .int .i64 x4_2 ∧ v17 = .int .i64 x17_2 ∧ Aside0 (bits_GetSize.l0 kq l0 a1 x4_2 x17_2 = some (r1, r2, r3)) ∧ Aside0 (kq ≤ kj2) ∧ Drawn0 w w')
    case atStart => exact ⟨(0), (0), rq, rq, H', ⟨Nat.le_refl _⟩, by repeat (first | exact Drawn0.refl _ | apply Drawn0.step)⟩
    case round =>
     clear H'
     obtain ⟨x4_2, x17_2, rfl, rfl, HA, HK2, ⟨m2, rfl⟩⟩ := hrel
     cases gk with
     | zero => exact absurd HA.out (by simp [bits_GetSize.l0])
     | succ k2 =>
      have H := HA.out
      clear HA
      simp only [bits_GetSize.l0] at H
      rcases iL H with H1 | H1 <;> clear H <;> obtain ⟨H, c6b0⟩ := H1
      ·rcases iL H with H1 | H1 <;> clear H <;> obtain ⟨H, c7b0⟩ := H1
       ·simp only [Option.some.injEq, Prod.mk.injEq] at H
        obtain ⟨rfl, rfl, rfl⟩ := H
        go_wp2
        go_ret3
        exact ⟨by first | rfl | (simp; done) | (simp [*]; done), by repeat (first | exact Drawn0.refl _ | apply Drawn0.step)⟩
       ·obtain ⟨ji8, hji8⟩ : ∃ j_ : Int, (wrap64 (a1 + x17_2)) = j_ := ⟨_, rfl⟩
        replace H : (if 0 ≤ (ji8) then (if (ji8) < (l0.length : Int) then (if (wrap64 (rd l0 (ji8))) < 128 then (if (wrap64 ((wrap64 (x4_2 * 128)) + (Int.tmod (wrap64 (rd l0 (ji8))) 128))) > 2147483647 then (some (0, 0, 3)) else (if x17_2 > 0 then (if 0 ≤ a1 then (if a1 < (l0.length : Int) then (if (rd l0 a1) = 128 then (some (0, 0, 3)) else (some (wrap64 ((wrap64 (x4_2 * 128)) + (Int.tmod (wrap64 (rd l0 (ji8))) 128)), wrap64 ((ji8) + 1), 0))) else (none)) else (none)) else (some (wrap64 ((wrap64 (x4_2 * 128)) + (Int.tmod (wrap64 (rd l0 (ji8))) 128)), wrap64 ((ji8) + 1), 0)))) else (bits_GetSize.l0 k2 l0 a1 (wrap64 ((wrap64 (x4_2 * 128)) + (Int.tmod (wrap64 (rd l0 (ji8))) 128))) (wrap64 (x17_2 + 1)))) else (none)) else (none)) = some (r1, r2, r3) := by first | (rw [hji8] at H; exact H) | (simp only [hji8] at H ⊢; exact H)
        (try rw [hji8] at c7b0)
        have hji8w : (IntKind.i64.wrap (a1 + x17_2)) = ji8 := (i64_w _).trans hji8
        by_cases c9 : 0 ≤ (ji8)
        ·rw [if_pos c9] at H
         have c9b0 := decide_eq_true c9
         clear c9
         by_cases c10 : (ji8) < (l0.length : Int)
         ·rw [if_pos c10] at H
          have c10b0 := decide_eq_true c10
          clear c10
          rcases iL H with H1 | H1 <;> clear H <;> obtain ⟨H, c11b0⟩ := H1
          ·rcases iL H with H1 | H1 <;> clear H <;> obtain ⟨H, c12b0⟩ := H1
           ·simp only [Option.some.injEq, Prod.mk.injEq] at H
            obtain ⟨rfl, rfl, rfl⟩ := H
            have p170 : 0 ≤ ((ji8) : Int) := dt
            have q170 : (ji8) < (l0.length : Int) := dt
            obtain ⟨ad170, e170, hx170_0⟩ := Kd.at_int HR0.out (ji8) p170 q170
            cases e170
            replace p170 := eq_true p170
            replace q170 := eq_true q170
            go_wp2
            go_ret3
            exact ⟨by first | rfl | (simp; done) | (simp only [← hji8] <;> (first | rfl | simp)) | (simp [*]; done), by repeat (first | exact Drawn0.refl _ | apply Drawn0.step)⟩
           ·rcases iL H with H1 | H1 <;> clear H <;> obtain ⟨H, c13b0⟩ := H1
            ·by_cases c14 : 0 ≤ a1
             ·rw [if_pos c14] at H
              have c14b0 := decide_eq_true c14
              clear c14
              by_cases c15 : a1 < (l0.length : Int)
              ·rw [if_pos c15] at H
               have c15b0 := decide_eq_true c15
               clear c15
               rcases iE H with H1 | H1 <;> clear H <;> obtain ⟨H, c16b0, c16b1, c16⟩ := H1
               ·simp only [Option.some.injEq, Prod.mk.injEq] at H
                obtain ⟨rfl, rfl, rfl⟩ := H
                have p170 : 0 ≤ ((ji8) : Int) := dt
                have q170 : (ji8) < (l0.length : Int) := dt
                obtain ⟨ad170, e170, hx170_0⟩ := Kd.at_int HR0.out (ji8) p170 q170
                cases e170
                replace p170 := eq_true p170
                replace q170 := eq_true q170
                have p171 : 0 ≤ (a1 : Int) := dt
                have q171 : a1 < (l0.length : Int) := dt
                obtain ⟨ad171, e171, hx171_0⟩ := Kd.at_int HR0.out a1 p171 q171
                obtain rfl : ad170 = ad171 := (by injection e171)
                replace p171 := eq_true p171
                replace q171 := eq_true q171
                go_wp2
                go_ret3
                exact ⟨by first | rfl | (simp; done) | (simp only [← hji8] <;> (first | rfl | simp)) | (simp [*]; done), by repeat (first | exact Drawn0.refl _ | apply Drawn0.step)⟩
               ·simp only [Option.some.injEq, Prod.mk.injEq] at H
                obtain ⟨rfl, rfl, rfl⟩ := H
                have p170 : 0 ≤ ((ji8) : Int) := dt
                have q170 : (ji8) < (l0.length : Int) := dt
                obtain ⟨ad170, e170, hx170_0⟩ := Kd.at_int HR0.out (ji8) p170 q170
                cases e170
                replace p170 := eq_true p170
                replace q170 := eq_true q170
                have p171 : 0 ≤ (a1 : Int) := dt
                have q171 : a1 < (l0.length : Int) := dt
                obtain ⟨ad171, e171, hx171_0⟩ := Kd.at_int HR0.out a1 p171 q171
                obtain rfl : ad170 = ad171 := (by injection e171)
                replace p171 := eq_true p171
                replace q171 := eq_true q171
                go_wp2
                go_ret3
                exact ⟨by first | rfl | (simp; done) | (simp only [← hji8] <;> (first | rfl | simp)) | (simp [*]; done), by repeat (first | exact Drawn0.refl _ | apply Drawn0.step)⟩
              ·rw [if_neg c15] at H
               exact absurd H (by simp)
             ·rw [if_neg c14] at H
              exact absurd H (by simp)
            ·simp only [Option.some.injEq, Prod.mk.injEq] at H
             obtain ⟨rfl, rfl, rfl⟩ := H
             have p170 : 0 ≤ ((ji8) : Int) := dt
             have q170 : (ji8) < (l0.length : Int) := dt
             obtain ⟨ad170, e170, hx170_0⟩ := Kd.at_int HR0.out (ji8) p170 q170
             cases e170
             replace p170 := eq_true p170
             replace q170 := eq_true q170
             go_wp2
             go_ret3
             exact ⟨by first | rfl | (simp; done) | (simp only [← hji8] <;> (first | rfl | simp)) | (simp [*]; done), by repeat (first | exact Drawn0.refl _ | apply Drawn0.step)⟩
          ·have H' := Aside0.mk H
           clear H
           have p170 : 0 ≤ ((ji8) : Int) := dt
           have q170 : (ji8) < (l0.length : Int) := dt
           obtain ⟨ad170, e170, hx170_0⟩ := Kd.at_int HR0.out (ji8) p170 q170
           cases e170
           replace p170 := eq_true p170
           replace q170 := eq_true q170
           go_wp2
           go_roundg k2
           case measure => have := HJ2.out; have := HK2.out; omega
           case rel => exact ⟨(wrap64 ((wrap64 (x4_2 * 128)) + (Int.tmod (wrap64 (rd l0 (ji8))) 128))), (wrap64 (x17_2 + 1)), (by first | rfl | (simp; done) | (simp only [← hji8] <;> (first | rfl | simp)) | (simp [*]; done)), rq, H', ⟨by have := HJ2.out; have := HK2.out; omega⟩, by repeat (first | exact Drawn0.refl _ | apply Drawn0.step)⟩
         ·rw [if_neg c10] at H
          exact absurd H (by simp)
        ·rw [if_neg c9] at H
         exact absurd H (by simp)
      ·simp only [Option.some.injEq, Prod.mk.injEq] at H
       obtain ⟨rfl, rfl, rfl⟩ := H
       go_wp2
       go_ret3
       exact ⟨by first | rfl | (simp; done) | (simp [*]; done), by repeat (first | exact Drawn0.refl _ | apply Drawn0.step)⟩
end Go.Proofs.YtacdchogjpeffaaDoor.PNoteOutlines
