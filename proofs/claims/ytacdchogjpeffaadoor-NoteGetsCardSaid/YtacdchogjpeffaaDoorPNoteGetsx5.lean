-- printed (wip/tools/myprint.py)
import Derived.Test.YtacdchogjpeffaaDoorPNoteGetsx0
import Derived.Test.YtacdchogjpeffaaDoorPNoteGetsx4
namespace Go.Proofs.YtacdchogjpeffaaDoor.PNoteGets
open Go.RowKit Go.Proofs.YtacdchogjpeffaaDoorW.PrintWords Go.Proofs.YtacdchogjpeffaaDoorW.PrintLast Go.Proofs.YtacdchogjpeffaaDoorW.PrintMore
attribute [local go_sem] max2_int min2_int max_two min_two max_three min_three max_four min_four
set_option linter.unusedVariables false
set_option linter.unusedSimpArgs false
def RowB (w : World) (v : Value) (xs : List Int) : Prop := ∃ A c, v = .slice A xs.length c ∧ xs.length ≤ c ∧ Kd.C (Kd.int .u8) w A xs.length xs
theorem RowB.below {w w1 : World} {v : Value} {xs : List Int} (h : RowB w v xs) (hb : Below w.heap.size w w1) : RowB w1 v xs := by
 obtain ⟨A, c, h1, h2, h3⟩ := h
 exact ⟨A, c, h1, h2, Kd.C_below h3 hb⟩
theorem RowB.of {e base : Nat} {ok : Nat → Prop} {w : World} {v : Value} {xs : List Int} (h : Kd.R (Kd.int .u8) e w base ok v xs) : RowB w v xs := Kd.R_reads h
theorem conv_run {o : Oper} {a : Act} {W : World} {ta tb e : TypeId} {x : Operand} {s : ByteArray} {u : TypeDesc} (ho : o.op = .convert ta tb x) (hx : a.eval x = .string s)
  (h1 : Tryd.prog.underlying ta = some u) (h2 : Tryd.prog.underlying tb = some (.slice e)) (h3 : Tryd.prog.underlying e = some (.int .u8)) :
  (execOp a.eval o).run Tryd.prog W = .ok (.value (.slice (some ⟨W.heap.size, 0, none⟩) s.size (grownCap W s.size 0 e))) (Lib.bytesWorld W e s) := by
 have hr := Lib.run_convert_string_bytes (P := Tryd.prog) W ta tb e s h1 h2 h3
 unfold execOp
 simp [ho, hx, hr]
theorem conv_row (W : World) (s : ByteArray) (hs : s.size ≤ 140737488355328) : RowB (Lib.bytesWorld W 5 s) (.slice (some ⟨W.heap.size, 0, none⟩) s.size (grownCap W s.size 0 5)) (bytesOf s) ∧ Below W.heap.size W (Lib.bytesWorld W 5 s) := by
 have hge := grownCap_ge W s.size 0 5
 have hle := grownCap_le_maxLen W s.size 0 5 (by simp only [maxLen]; omega)
 have hsz : (Lib.bytesCells W 5 s).size = grownCap W s.size 0 5 := by
  unfold Lib.bytesCells
  rw [Array.size_append, Array.size_map, Array.size_replicate]
  show s.size + (grownCap W s.size 0 5 - s.size) = _
  omega
 have hU : Kd.U (Kd.int .u8) 5 (Lib.bytesWorld W 5 s) W.heap.size (fun _ => True) (.slice (some ⟨W.heap.size, 0, none⟩) s.size (grownCap W s.size 0 5)) (bytesOf s) := by
  refine ⟨fun k hk => trivial, .inr ⟨_, _, _, _, by rw [bytesOf_length], Nat.le_refl _, Lib.bytesWorld_at_new W 5 s, .inr (by rw [hsz]; exact Nat.le_refl _), by rw [bytesOf_length]; exact hge, hle, hsz, ?_⟩⟩
  rw [bytesOf_length]
  unfold Lib.bytesCells
  rw [Array.toList_append, List.take_append_of_le_length (by rw [Array.length_toList, Array.size_map]; exact Nat.le_refl _), List.take_of_length_le (by rw [Array.length_toList, Array.size_map]; exact Nat.le_refl _), Array.toList_map, nums, bytesOf, List.map_map]
  rfl
 obtain ⟨h1, h2, h3⟩ := Kd.U_reads' hU
 refine ⟨⟨some ⟨W.heap.size, 0, none⟩, grownCap W s.size 0 5, congrArg (fun n => Value.slice (some ⟨W.heap.size, 0, none⟩) n (grownCap W s.size 0 5)) h1, by rw [← h1]; exact hge, h3⟩, ?_⟩
 exact bytes_below (Below.refl _ _) (Nat.le_refl _) _ s
theorem five_rows (W : World) (v0 v1 v2 v3 v4 : Value) (x0 x1 x2 x3 x4 : List Int) (h0 : RowB W v0 x0) (h1 : RowB W v1 x1) (h2 : RowB W v2 x2) (h3 : RowB W v3 x3) (h4 : RowB W v4 x4) :
  Kd.C (Kd.slice 5 (Kd.int .u8)) (W.alloc (.cells #[v0, v1, v2, v3, v4] 44)) (some ⟨W.heap.size, 0, none⟩) 5 [x0, x1, x2, x3, x4] := by
 have hb := blk_new W (.cells #[v0, v1, v2, v3, v4] 44)
 have up : ∀ {v : Value} {x : List Int}, RowB W v x → (Kd.slice 5 (Kd.int .u8)).K (W.alloc (.cells #[v0, v1, v2, v3, v4] 44)) x [v] := fun h => by
  obtain ⟨A, c, e, hc, hC⟩ := h
  exact ⟨A, c, by rw [e], hc, Kd.C_below hC (below_alloc (Below.refl _ _) _)⟩
 refine ⟨rfl, by decide, fun _ => ⟨_, rfl, fun j p hj => ?_⟩⟩
 have hj5 : j < 5 := (List.getElem?_eq_some_iff.1 hj).1
 have cell : ∀ (i : Nat) (v : Value), #[v0, v1, v2, v3, v4][i]? = some v → ∀ q u, [v][q]? = some u → (W.alloc (.cells #[v0, v1, v2, v3, v4] 44)).cell? ((⟨W.heap.size, 0, none⟩ : Addr).add (i * 1 + q)) = some u := by
  intro i v hv q u hu
  have hq : q = 0 := by have := (List.getElem?_eq_some_iff.1 hu).1; simp at this; omega
  subst hq
  obtain rfl : v = u := by simpa using hu
  have e : (⟨W.heap.size, 0, none⟩ : Addr).add (i * 1 + 0) = ⟨W.heap.size, i, none⟩ := by
   simp only [Addr.add, Nat.mul_one, Nat.add_zero, Nat.zero_add]
   split <;> simp_all
  rw [e]
  exact (blk_cell hb i).trans hv
 match j, hj, hj5 with
 | 0, hj, _ =>
   obtain rfl : x0 = p := by simpa using hj
   exact ⟨[v0], rfl, up h0, cell 0 v0 rfl⟩
 | 1, hj, _ =>
   obtain rfl : x1 = p := by simpa using hj
   exact ⟨[v1], rfl, up h1, cell 1 v1 rfl⟩
 | 2, hj, _ =>
   obtain rfl : x2 = p := by simpa using hj
   exact ⟨[v2], rfl, up h2, cell 2 v2 rfl⟩
 | 3, hj, _ =>
   obtain rfl : x3 = p := by simpa using hj
   exact ⟨[v3], rfl, up h3, cell 3 v3 rfl⟩
 | 4, hj, _ =>
   obtain rfl : x4 = p := by simpa using hj
   exact ⟨[v4], rfl, up h4, cell 4 v4 rfl⟩
mutual
def note_put.l0 : Nat → List (S61) → List Int → Int → Option (List Int)
 | 0, _, _, _ => none
 | k + 1, l, o, i => if i < (l.length : Int) then (if 0 ≤ i then ((note_size.f k (((rd_T61 l i).f0).size : Int)).bind fun y1 => (note_size.f k ((rd_T61 l i).f1)).bind fun y2 => (note_put.f k ((rd_T61 l i).f2)).bind fun y3 => if ((rd_T61 l i).f0).size ≤ 140737488355328 then (if o.length + y1.length + ((rd_T61 l i).f0).size + y2.length + y3.length ≤ 140737488355328 then note_put.l0 k l (o ++ y1 ++ bytesOf ((rd_T61 l i).f0) ++ y2 ++ y3) (wrap64 (i + 1)) else none) else none) else none) else some o
def note_put.f : Nat → List (S61) → Option (List Int)
 | 0, _ => none
 | k + 1, l => (note_size.f k (l.length : Int)).bind fun y => note_put.l0 k l y 0
end
theorem note_put.mono_l : ∀ k, (∀ l o i, LeO (note_put.l0 k l o i) (note_put.l0 (k + 1) l o i)) ∧ (∀ l, LeO (note_put.f k l) (note_put.f (k + 1) l))
 | 0 => ⟨fun _ _ _ r h => by simp [note_put.l0] at h, fun _ r h => by simp [note_put.f] at h⟩
 | k + 1 => by
  obtain ⟨ih0, ih1⟩ := note_put.mono_l k
  refine ⟨fun l o i => ?_, fun l => ?_⟩
  ·unfold note_put.l0
   exact LeO.ite (LeO.ite (LeO.bind (note_size.mono _ k) (fun _ => LeO.bind (note_size.mono _ k) (fun _ => LeO.bind (ih1 _) (fun _ => LeO.ite (LeO.ite (ih0 _ _ _) (LeO.refl _)) (LeO.refl _))))) (LeO.refl _)) (LeO.refl _)
  ·unfold note_put.f
   exact LeO.bind (note_size.mono _ k) (fun _ => ih0 _ _ _)
theorem note_put.mono : ∀ a0 k, LeO (note_put.f k a0) (note_put.f (k + 1) a0) := fun a0 k => (note_put.mono_l k).2 a0
def note_put.T5 : Bool × List (List Nat × List Nat) := (true, [([], []), ([], []), ([1], [1]), ([2], [2]), ([3], [3]), ([], []), ([5], [5]), ([6], [6]), ([], []), ([8], [8]), ([9, 4], [9]), ([], []), ([11], [11]), ([12, 10], [12]), ([0, 4, 7, 10, 13], [0, 4, 7, 10, 13]), ([14, 13], [14]), ([15, 15, 0, 1, 2, 3, 4, 5, 6, 7, 8, 9, 10, 11, 12, 13, 14, 15], [0, 15])])
def note_put.B5 : List Nat := [0, 0, 2, 6, 14, 0, 32, 96, 0, 256, 798, 0, 2048, 7966, 16383, 32767, 65535]
theorem note_put.tab5 : rtab .any (opsOf Tryd.f50 5) = note_put.T5 := by kernel_rfl
theorem note_put.bits5 : waitsOk note_put.T5.2 note_put.B5 = true := by kernel_rfl
set_option maxHeartbeats 8000000 in
set_option maxRecDepth 100000 in
theorem note_put.calls (k : Nat) : ∀ (A0 : Option Addr) (c0 : Nat) (l0 : List (S61)) (r : List Int) (w : World) (hr0 : Kd.C k61 w A0 l0.length l0) (hc0 : l0.length ≤ c0) (h : note_put.f k l0 = some r),
  Calls Tryd.prog 50 #[.slice A0 l0.length c0] w fun e w' => ∃ v0_ : Value, e = .returned (v0_) ∧ Kd.R (Kd.int .u8) 5 w' w.heap.size (fun _ => True) v0_ r ∧ Below w.heap.size w w' := by
 induction k using Nat.strongRecOn with
 | _ k ih =>
 intro A0 c0 l0 r w hr0 hc0 h
 cases k with
 | zero => exact absurd h (by simp [note_put.f])
 | succ k =>
 simp only [note_put.f] at h
 have hu61 := Tryd.underlying61
 obtain ⟨y, A0_, h⟩ := oB h
 have HR0 := Aside0.mk hr0
 have HC0 := Aside0.mk hc0
 have HB := Aside0.mk (Below.refl w.heap.size w)
 have H' := Aside0.mk h
 clear hr0 hc0 h
 go_enter Tryd.func50, Tryd.ntmps50
 go_wp2_with (first | (refine gF 71 8 Tryd.func71 #[.int .i64 (l0.length : Int)] rfl rfl ?_; refine (note_size.calls k _ y _ A0_.out).mono ?_; rintro e w2 ⟨v3, rfl, ho, hb⟩; refine ⟨_, rfl, ?_⟩; have n_ := aC ho (aE (below_step HB.out hb)); clear HB; obtain ⟨HO, HB⟩ := n_; clear ho hb))
 go_loopg [3, 11] k (fun kq v3 v11 w' => ∃ (o1 : List Int) (i1 : Int), v11 = .int .i64 i1 ∧ Aside0 (note_put.l0 kq l0 o1 i1 = some r) ∧ Aside0 (kq ≤ k) ∧ Aside0 (Kd.R (Kd.int .u8) 5 w' w.heap.size (fun _ => True) v3 o1) ∧ Aside0 (Below w.heap.size w w'))
 case atStart => exact ⟨y, 0, rq, H', ⟨Nat.le_refl _⟩, HO, HB⟩
 case round =>
  clear H' HO HB
  obtain ⟨o1, i1, rfl, HA, HK1, HO, HB⟩ := hrel
  cases gk with
  | zero => exact absurd HA.out (by simp [note_put.l0])
  | succ k1 =>
   have H := HA.out
   clear HA
   simp only [note_put.l0] at H
   rcases iL H with H1 | H1 <;> clear H <;> obtain ⟨H, c4b0⟩ := H1
   ·by_cases c5 : 0 ≤ i1
    ·rw [if_pos c5] at H
     have c5b0 := decide_eq_true c5
     clear c5
     obtain ⟨y1, A1, H⟩ := oB H
     obtain ⟨y2, A2, H⟩ := oB H
     obtain ⟨y3, A3, H⟩ := oB H
     by_cases lt : ((rd_T61 l0 i1).f0).size ≤ 140737488355328
     ·rw [if_pos lt] at H
      by_cases lm : o1.length + y1.length + ((rd_T61 l0 i1).f0).size + y2.length + y3.length ≤ 140737488355328
      ·rw [if_pos lm] at H
       have LT := aE lt
       have LM := aE lm
       have H' := aE H
       clear lt lm H
       have p110 : 0 ≤ (i1 : Int) := dt
       have q110 : i1 < (l0.length : Int) := dt
       obtain ⟨ad, Ak, ck, ead, x0, x1, x2, hl, hi⟩ := at_T61 HR0.out i1 p110 q110
       have KD := aC hi (aE hl)
       replace x0 := hcB HB.out x0
       replace x1 := hcB HB.out x1
       replace x2 := hcB HB.out x2
       clear hi hl
       cases ead
       replace p110 := eq_true p110
       replace q110 := eq_true q110
       go_wp2_with (first | ((with_reducible refine gd 5 rfl ?_); refine bx 5 #[.string (⟨#[]⟩ : ByteArray), .int .i64 0, .slice none 0 0] 61 rfl rfl ?_; intro gb hg_ w3 hbox hb; obtain ⟨z0, z1, z2, y0_, y1_, y2_⟩ := cz3f hbox; have m_ := fill3 hbox hb hg_ (.string ((rd_T61 l0 i1).f0)) (.int .i64 ((rd_T61 l0 i1).f1)) (.slice Ak ((rd_T61 l0 i1).f2).length ck); have n_ := aC m_.2 (aC (Kd.R_below HO.out m_.1) (aE (below_step HB.out m_.1))); clear HO HB m_ hbox hb hg_; obtain ⟨BK, HO, HB⟩ := n_))
       clear z0 z1 z2 y0_ y1_ y2_ x0 x1 x2
       generalize hW : (((w3.setCell ⟨gb, 0, none⟩ (.string ((rd_T61 l0 i1).f0))).setCell ⟨gb, 1, none⟩ (.int .i64 ((rd_T61 l0 i1).f1))).setCell ⟨gb, 2, none⟩ (.slice Ak ((rd_T61 l0 i1).f2).length ck)) = w8 at BK HO HB ⊢
       clear hW
       have n_ := aC (blk_drew BK.out) (aC (show Kd.R (Kd.int .u8) 5 w8.drew w.heap.size (fun _ => True) u3 o1 from rU HO.out) (aE (below_drew1 HB.out)))
       clear BK HO HB
       obtain ⟨BK, HO, HB⟩ := n_
       refine st 17 (fun w' => w'.cell? ⟨gb, 0, none⟩ = some (.string ((rd_T61 l0 i1).f0)) ∧ w'.cell? ⟨gb, 1, none⟩ = some (.int .i64 ((rd_T61 l0 i1).f1)) ∧ w'.cell? ⟨gb, 2, none⟩ = some (.slice Ak ((rd_T61 l0 i1).f2).length ck)) [] (bv 17 0) note_put.tab5 note_put.bits5 (cz3 BK.out) (fun hHeld HT_ HW_ => ?_)
       generalize w8.drew = w9 at BK HO HB hHeld ⊢
       obtain ⟨Av, cv, ev⟩ := Kd.R_slice HO.out
       refine pu 0 15 (bv 17 1) HT_ rfl rfl ?_
       refine pu 1 16 (bv 17 3) HT_ rfl rfl ?_
       refine pu 5 20 (bv 17 35) HT_ rfl rfl ?_
       refine pu 8 23 (bv 17 291) HT_ rfl rfl ?_
       refine pu 11 26 (bv 17 2339) HT_ rfl rfl ?_
       refine tk 2 17 (bv 17 2343) HT_ HW_ hHeld rfl rfl (by rintro w' ⟨s0, s1, s2⟩; exact yl) ?_
       refine tk 6 21 (bv 17 2407) HT_ HW_ hHeld rfl rfl (by rintro w' ⟨s0, s1, s2⟩; exact yl) ?_
       refine tk 9 24 (bv 17 2919) HT_ HW_ hHeld rfl rfl (by rintro w' ⟨s0, s1, s2⟩; exact yl) ?_
       refine tk 12 27 (bv 17 7015) HT_ HW_ hHeld rfl rfl (by rintro w' ⟨s0, s1, s2⟩; exact yl) ?_
       refine pu 3 18 (bv 17 7023) HT_ rfl rfl ?_
       refine join_ (σ := Value × Value × Value × Value) 3 (bv 17 16383) (fun s_ => [(19, s_.1), (22, s_.2.1), (25, s_.2.2.1), (28, s_.2.2.2)]) (fun s_ w' => RowB w' s_.1 y1 ∧ RowB w' s_.2.1 (bytesOf ((rd_T61 l0 i1).f0)) ∧ RowB w' s_.2.2.1 y2 ∧ RowB w' s_.2.2.2 y3 ∧ Kd.R (Kd.int .u8) 5 w' w.heap.size (fun _ => True) u3 o1 ∧ w'.heap[gb]? = some (.cells #[.string ((rd_T61 l0 i1).f0), .int .i64 ((rd_T61 l0 i1).f1), .slice Ak ((rd_T61 l0 i1).f2).length ck] 61 (0, 0)) ∧ Below w.heap.size w w') ?_ ?_
       rotate_left
       ·intro hCont
        refine two_ (i := 4) (j := 7) (Ni := some 19) (Nj := some 22) (bv 17 7039) (bv 17 7151) rfl rfl rfl rfl (two_of HT_.out (by kernel_rfl)) (by decide) (by decide) (fun K hK => ?_) (fun K hK => ?_)
        ·refine gK Tryd.func71 rfl #[.int .i64 (((rd_T61 l0 i1).f0).size : Int)] rfl rfl ?_
         refine (note_size.calls k1 _ y1 _ A1.out).mono ?_
         rintro e w10 ⟨v19, rfl, hv_, hb⟩
         refine ⟨_, rfl, ?_⟩
         have hv := RowB.of hv_
         clear hv_
         have n_ := aC (below_step HB.out hb) (aC (Kd.R_below HO.out hb) (aC (blk_below BK.out hb) (aE hv)))
         clear HB HO BK  hv hb
         obtain ⟨HB, HO, BK, R19⟩ := n_
         refine hK.out _ _ (cz3 BK.out) (fun hHeld => ?_)
         clear hK K
         refine nm (some 19) ?_
         refine two_ (i := 7) (j := 10) (Ni := some 22) (Nj := some 25) (bv 17 7167) (bv 17 8063) rfl rfl rfl rfl (two_of HT_.out (by kernel_rfl)) (by decide) (by decide) (fun K hK => ?_) (fun K hK => ?_)
         ·refine value_ (w1 := ?_) (v := ?_) (by rfl) rfl ?_ ?_
          rotate_left 2
          ·refine conv_run (ta := 9) (tb := 44) (e := 5) (x := .tmp 21) (s := (rd_T61 l0 i1).f0) ?_ ?_ Tryd.underlying9 Tryd.underlying44 Tryd.underlying5
           ·rfl
           ·rfl
          obtain ⟨hv, hb⟩ := conv_row _ ((rd_T61 l0 i1).f0) (by have := LT.out; omega)
          generalize Lib.bytesWorld _ _ _ = w10 at hv hb ⊢
          generalize Value.slice _ _ _ = v22 at hv ⊢
          have n_ := aC (below_step HB.out hb) (aC (Kd.R_below HO.out hb) (aC (blk_below BK.out hb) (aC (R19.out.below hb) (aE hv))))
          clear HB HO BK R19 hv hb
          obtain ⟨HB, HO, BK, R19, R22⟩ := n_
          refine hK.out _ _ (cz3 BK.out) (fun hHeld => ?_)
          clear hK K
          refine nm (some 22) ?_
          refine one_ (i := 10) (N := some 25) (bv 17 8191) rfl rfl (one_of HT_.out (by kernel_rfl)) (by decide) (fun K hK => ?_)
          refine gK Tryd.func71 rfl #[.int .i64 ((rd_T61 l0 i1).f1)] rfl rfl ?_
          refine (note_size.calls k1 _ y2 _ A2.out).mono ?_
          rintro e w10 ⟨v25, rfl, hv_, hb⟩
          refine ⟨_, rfl, ?_⟩
          have hv := RowB.of hv_
          clear hv_
          have n_ := aC (below_step HB.out hb) (aC (Kd.R_below HO.out hb) (aC (blk_below BK.out hb) (aC (R19.out.below hb) (aC (R22.out.below hb) (aE hv)))))
          clear HB HO BK R19 R22 hv hb
          obtain ⟨HB, HO, BK, R19, R22, R25⟩ := n_
          refine hK.out _ _ (cz3 BK.out) (fun hHeld => ?_)
          clear hK K
          refine nm (some 25) ?_
          refine one_ (i := 13) (N := some 28) (bv 17 16383) rfl rfl (one_of HT_.out (by kernel_rfl)) (by decide) (fun K hK => ?_)
          refine gK Tryd.func50 rfl #[.slice Ak ((rd_T61 l0 i1).f2).length ck] rfl rfl ?_
          refine (ih k1 (by have := HK1.out; omega) Ak ck ((rd_T61 l0 i1).f2) y3 _ (Kd.C_below KD.1.out HB.out) KD.2.out A3.out).mono ?_
          rintro e w10 ⟨v28, rfl, hv_, hb⟩
          refine ⟨_, rfl, ?_⟩
          have hv := RowB.of hv_
          clear hv_
          have n_ := aC (below_step HB.out hb) (aC (Kd.R_below HO.out hb) (aC (blk_below BK.out hb) (aC (R19.out.below hb) (aC (R22.out.below hb) (aC (R25.out.below hb) (aE hv))))))
          clear HB HO BK R19 R22 R25 hv hb
          obtain ⟨HB, HO, BK, R19, R22, R25, R28⟩ := n_
          refine hK.out _ _ (cz3 BK.out) (fun hHeld => ?_)
          clear hK K
          refine nm (some 28) ?_
          exact norm_ (by simp only [putAll, Act.put, List.setIfInBounds_toArray, List.set_cons_zero, List.set_cons_succ]) (hCont (v19, v22, v25, v28) _ ⟨R19.out, R22.out, R25.out, R28.out, HO.out, BK.out, HB.out⟩)
         ·refine gK Tryd.func71 rfl #[.int .i64 ((rd_T61 l0 i1).f1)] rfl rfl ?_
          refine (note_size.calls k1 _ y2 _ A2.out).mono ?_
          rintro e w10 ⟨v25, rfl, hv_, hb⟩
          refine ⟨_, rfl, ?_⟩
          have hv := RowB.of hv_
          clear hv_
          have n_ := aC (below_step HB.out hb) (aC (Kd.R_below HO.out hb) (aC (blk_below BK.out hb) (aC (R19.out.below hb) (aE hv))))
          clear HB HO BK R19 hv hb
          obtain ⟨HB, HO, BK, R19, R25⟩ := n_
          refine hK.out _ _ (cz3 BK.out) (fun hHeld => ?_)
          clear hK K
          refine nm (some 25) ?_
          refine two_ (i := 7) (j := 13) (Ni := some 22) (Nj := some 28) (bv 17 8191) (bv 17 16255) rfl rfl rfl rfl (two_of HT_.out (by kernel_rfl)) (by decide) (by decide) (fun K hK => ?_) (fun K hK => ?_)
          ·refine value_ (w1 := ?_) (v := ?_) (by rfl) rfl ?_ ?_
           rotate_left 2
           ·refine conv_run (ta := 9) (tb := 44) (e := 5) (x := .tmp 21) (s := (rd_T61 l0 i1).f0) ?_ ?_ Tryd.underlying9 Tryd.underlying44 Tryd.underlying5
            ·rfl
            ·rfl
           obtain ⟨hv, hb⟩ := conv_row _ ((rd_T61 l0 i1).f0) (by have := LT.out; omega)
           generalize Lib.bytesWorld _ _ _ = w10 at hv hb ⊢
           generalize Value.slice _ _ _ = v22 at hv ⊢
           have n_ := aC (below_step HB.out hb) (aC (Kd.R_below HO.out hb) (aC (blk_below BK.out hb) (aC (R19.out.below hb) (aC (R25.out.below hb) (aE hv)))))
           clear HB HO BK R19 R25 hv hb
           obtain ⟨HB, HO, BK, R19, R25, R22⟩ := n_
           refine hK.out _ _ (cz3 BK.out) (fun hHeld => ?_)
           clear hK K
           refine nm (some 22) ?_
           refine one_ (i := 13) (N := some 28) (bv 17 16383) rfl rfl (one_of HT_.out (by kernel_rfl)) (by decide) (fun K hK => ?_)
           refine gK Tryd.func50 rfl #[.slice Ak ((rd_T61 l0 i1).f2).length ck] rfl rfl ?_
           refine (ih k1 (by have := HK1.out; omega) Ak ck ((rd_T61 l0 i1).f2) y3 _ (Kd.C_below KD.1.out HB.out) KD.2.out A3.out).mono ?_
           rintro e w10 ⟨v28, rfl, hv_, hb⟩
           refine ⟨_, rfl, ?_⟩
           have hv := RowB.of hv_
           clear hv_
           have n_ := aC (below_step HB.out hb) (aC (Kd.R_below HO.out hb) (aC (blk_below BK.out hb) (aC (R19.out.below hb) (aC (R25.out.below hb) (aC (R22.out.below hb) (aE hv))))))
           clear HB HO BK R19 R25 R22 hv hb
           obtain ⟨HB, HO, BK, R19, R25, R22, R28⟩ := n_
           refine hK.out _ _ (cz3 BK.out) (fun hHeld => ?_)
           clear hK K
           refine nm (some 28) ?_
           exact norm_ (by simp only [putAll, Act.put, List.setIfInBounds_toArray, List.set_cons_zero, List.set_cons_succ]) (hCont (v19, v22, v25, v28) _ ⟨R19.out, R22.out, R25.out, R28.out, HO.out, BK.out, HB.out⟩)
          ·refine gK Tryd.func50 rfl #[.slice Ak ((rd_T61 l0 i1).f2).length ck] rfl rfl ?_
           refine (ih k1 (by have := HK1.out; omega) Ak ck ((rd_T61 l0 i1).f2) y3 _ (Kd.C_below KD.1.out HB.out) KD.2.out A3.out).mono ?_
           rintro e w10 ⟨v28, rfl, hv_, hb⟩
           refine ⟨_, rfl, ?_⟩
           have hv := RowB.of hv_
           clear hv_
           have n_ := aC (below_step HB.out hb) (aC (Kd.R_below HO.out hb) (aC (blk_below BK.out hb) (aC (R19.out.below hb) (aC (R25.out.below hb) (aE hv)))))
           clear HB HO BK R19 R25 hv hb
           obtain ⟨HB, HO, BK, R19, R25, R28⟩ := n_
           refine hK.out _ _ (cz3 BK.out) (fun hHeld => ?_)
           clear hK K
           refine nm (some 28) ?_
           refine one_ (i := 7) (N := some 22) (bv 17 16383) rfl rfl (one_of HT_.out (by kernel_rfl)) (by decide) (fun K hK => ?_)
           refine value_ (w1 := ?_) (v := ?_) (by rfl) rfl ?_ ?_
           rotate_left 2
           ·refine conv_run (ta := 9) (tb := 44) (e := 5) (x := .tmp 21) (s := (rd_T61 l0 i1).f0) ?_ ?_ Tryd.underlying9 Tryd.underlying44 Tryd.underlying5
            ·rfl
            ·rfl
           obtain ⟨hv, hb⟩ := conv_row _ ((rd_T61 l0 i1).f0) (by have := LT.out; omega)
           generalize Lib.bytesWorld _ _ _ = w10 at hv hb ⊢
           generalize Value.slice _ _ _ = v22 at hv ⊢
           have n_ := aC (below_step HB.out hb) (aC (Kd.R_below HO.out hb) (aC (blk_below BK.out hb) (aC (R19.out.below hb) (aC (R25.out.below hb) (aC (R28.out.below hb) (aE hv))))))
           clear HB HO BK R19 R25 R28 hv hb
           obtain ⟨HB, HO, BK, R19, R25, R28, R22⟩ := n_
           refine hK.out _ _ (cz3 BK.out) (fun hHeld => ?_)
           clear hK K
           refine nm (some 22) ?_
           exact norm_ (by simp only [putAll, Act.put, List.setIfInBounds_toArray, List.set_cons_zero, List.set_cons_succ]) (hCont (v19, v22, v25, v28) _ ⟨R19.out, R22.out, R25.out, R28.out, HO.out, BK.out, HB.out⟩)
        ·refine value_ (w1 := ?_) (v := ?_) (by rfl) rfl ?_ ?_
         rotate_left 2
         ·refine conv_run (ta := 9) (tb := 44) (e := 5) (x := .tmp 21) (s := (rd_T61 l0 i1).f0) ?_ ?_ Tryd.underlying9 Tryd.underlying44 Tryd.underlying5
          ·rfl
          ·rfl
         obtain ⟨hv, hb⟩ := conv_row _ ((rd_T61 l0 i1).f0) (by have := LT.out; omega)
         generalize Lib.bytesWorld _ _ _ = w10 at hv hb ⊢
         generalize Value.slice _ _ _ = v22 at hv ⊢
         have n_ := aC (below_step HB.out hb) (aC (Kd.R_below HO.out hb) (aC (blk_below BK.out hb) (aE hv)))
         clear HB HO BK  hv hb
         obtain ⟨HB, HO, BK, R22⟩ := n_
         refine hK.out _ _ (cz3 BK.out) (fun hHeld => ?_)
         clear hK K
         refine nm (some 22) ?_
         refine one_ (i := 4) (N := some 19) (bv 17 7167) rfl rfl (one_of HT_.out (by kernel_rfl)) (by decide) (fun K hK => ?_)
         refine gK Tryd.func71 rfl #[.int .i64 (((rd_T61 l0 i1).f0).size : Int)] rfl rfl ?_
         refine (note_size.calls k1 _ y1 _ A1.out).mono ?_
         rintro e w10 ⟨v19, rfl, hv_, hb⟩
         refine ⟨_, rfl, ?_⟩
         have hv := RowB.of hv_
         clear hv_
         have n_ := aC (below_step HB.out hb) (aC (Kd.R_below HO.out hb) (aC (blk_below BK.out hb) (aC (R22.out.below hb) (aE hv))))
         clear HB HO BK R22 hv hb
         obtain ⟨HB, HO, BK, R22, R19⟩ := n_
         refine hK.out _ _ (cz3 BK.out) (fun hHeld => ?_)
         clear hK K
         refine nm (some 19) ?_
         refine one_ (i := 10) (N := some 25) (bv 17 8191) rfl rfl (one_of HT_.out (by kernel_rfl)) (by decide) (fun K hK => ?_)
         refine gK Tryd.func71 rfl #[.int .i64 ((rd_T61 l0 i1).f1)] rfl rfl ?_
         refine (note_size.calls k1 _ y2 _ A2.out).mono ?_
         rintro e w10 ⟨v25, rfl, hv_, hb⟩
         refine ⟨_, rfl, ?_⟩
         have hv := RowB.of hv_
         clear hv_
         have n_ := aC (below_step HB.out hb) (aC (Kd.R_below HO.out hb) (aC (blk_below BK.out hb) (aC (R22.out.below hb) (aC (R19.out.below hb) (aE hv)))))
         clear HB HO BK R22 R19 hv hb
         obtain ⟨HB, HO, BK, R22, R19, R25⟩ := n_
         refine hK.out _ _ (cz3 BK.out) (fun hHeld => ?_)
         clear hK K
         refine nm (some 25) ?_
         refine one_ (i := 13) (N := some 28) (bv 17 16383) rfl rfl (one_of HT_.out (by kernel_rfl)) (by decide) (fun K hK => ?_)
         refine gK Tryd.func50 rfl #[.slice Ak ((rd_T61 l0 i1).f2).length ck] rfl rfl ?_
         refine (ih k1 (by have := HK1.out; omega) Ak ck ((rd_T61 l0 i1).f2) y3 _ (Kd.C_below KD.1.out HB.out) KD.2.out A3.out).mono ?_
         rintro e w10 ⟨v28, rfl, hv_, hb⟩
         refine ⟨_, rfl, ?_⟩
         have hv := RowB.of hv_
         clear hv_
         have n_ := aC (below_step HB.out hb) (aC (Kd.R_below HO.out hb) (aC (blk_below BK.out hb) (aC (R22.out.below hb) (aC (R19.out.below hb) (aC (R25.out.below hb) (aE hv))))))
         clear HB HO BK R22 R19 R25 hv hb
         obtain ⟨HB, HO, BK, R22, R19, R25, R28⟩ := n_
         refine hK.out _ _ (cz3 BK.out) (fun hHeld => ?_)
         clear hK K
         refine nm (some 28) ?_
         exact norm_ (by simp only [putAll, Act.put, List.setIfInBounds_toArray, List.set_cons_zero, List.set_cons_succ]) (hCont (v19, v22, v25, v28) _ ⟨R19.out, R22.out, R25.out, R28.out, HO.out, BK.out, HB.out⟩)
       clear HO BK HB hHeld
       rintro ⟨v19, v22, v25, v28⟩ w15 ⟨R19, R22, R25, R28, HO_, BK_, HB_⟩
       have n_ := aC HO_ (aC BK_ (aE HB_))
       clear HO_ BK_ HB_
       obtain ⟨HO, BK, HB⟩ := n_
       have hC5 := five_rows w15 u3 v19 v22 v25 v28 _ _ _ _ _ (RowB.of HO.out) R19 R22 R25 R28
       obtain ⟨P1, d1, e1, _⟩ := R19
       obtain ⟨P2, d2, e2, _⟩ := R22
       obtain ⟨P3, d3, e3, _⟩ := R25
       obtain ⟨P4, d4, e4, _⟩ := R28
       subst e1 e2 e3 e4
       rw [ev] at hC5
       have HC5 := Aside0.mk hC5
       clear hC5
       refine norm_ (a' := ?_) ?_ ?_
       rotate_left
       ·simp only [putAll, Act.put, List.setIfInBounds_toArray, List.set_cons_zero, List.set_cons_succ]
        rfl
       refine one_ (i := 14) (N := some 29) (bv 17 32767) rfl rfl (one_of HT_.out (by kernel_rfl)) (by decide) (fun K hK => ?_)
       refine value_ (w1 := ?_) (v := ?_) (by rfl) rfl ?_ ?_
       rotate_left 2
       ·go_simp
        constructor
        ·rfl
        ·rfl
       refine hK.out _ _ (cz3 (blk_alloc BK.out _)) (fun hHeld => ?_)
       clear hK K
       refine nm (some 29) ?_
       refine one_ (i := 15) (N := some 30) (bv 17 65535) rfl rfl (one_of HT_.out (by kernel_rfl)) (by decide) (fun K hK => ?_)
       refine gK Tryd.func72 rfl #[.slice (some ⟨w15.heap.size, 0, none⟩) 5 5] rfl rfl ?_
       refine (concat_calls (some ⟨w15.heap.size, 0, none⟩) 5 [o1, y1, bytesOf ((rd_T61 l0 i1).f0), y2, y3] _ HC5.out (Nat.le_refl 5) (by have := LM.out; have := bytesOf_length ((rd_T61 l0 i1).f0); simp; omega) (by simp)).mono ?_
       rintro e w16 ⟨v30, rfl, ho, hb⟩
       refine ⟨_, rfl, ?_⟩
       have n_ := aC (show Kd.R (Kd.int .u8) 5 w16 w.heap.size (fun _ => True) v30 (o1 ++ y1 ++ bytesOf ((rd_T61 l0 i1).f0) ++ y2 ++ y3) from by have h_ := Kd.R_lower ho (below_size (below_alloc HB.out _)); simpa [List.append_assoc] using h_) (aC (blk_below (blk_alloc BK.out _) hb) (aE (below_step (below_alloc HB.out _) hb)))
       clear HO BK HB ho hb HC5
       obtain ⟨HO, BK, HB⟩ := n_
       refine hK.out _ _ (cz3 BK.out) (fun hHeld => ?_)
       clear hK K
       refine nm (some 30) ?_
       refine pu 16 3 (bv 17 131071) HT_ rfl rfl ?_
       refine done_ (done_of HT_.out (by kernel_rfl)) ?_
       go_wp2
       go_roundg k1
       case measure => have := HK1.out; omega
       case rel => exact ⟨_, wrap64 (i1 + 1), rq, H', ⟨by have := HK1.out; omega⟩, HO, HB⟩
      ·rw [if_neg lm] at H
       exact absurd H (by simp)
     ·rw [if_neg lt] at H
      exact absurd H (by simp)
    ·rw [if_neg c5] at H
     exact absurd H (by simp)
   ·obtain rfl := Option.some.inj H
    go_wp2
    go_ret
    exact ⟨_, re, HO.out, HB.out⟩
def note_PutOutlines.f (k : Nat) (l0 : List (S61)) : Option (List Int × Int) := (note_ValidOutlines.f k l0).bind fun t139 => (if t139 = true then ((note_put.f k l0).bind fun t140 => (some (t140, 0))) else (some (([] : List Int), 95)))
theorem note_PutOutlines.mono : ∀ a0 k, LeO (note_PutOutlines.f k a0) (note_PutOutlines.f (k + 1) a0) := by
 intro a0 k
 unfold note_PutOutlines.f
 repeat' first
   | (with_reducible exact note_ValidOutlines.mono _ _)
   | (with_reducible exact note_put.mono _ _)
   | (with_reducible first | exact LeO.refl _ | exact LeO.none _ | refine LeO.ite ?_ ?_ | refine LeO.bind ?_ (fun _ => ?_))
set_option maxHeartbeats 8000000 in
set_option maxRecDepth 100000 in
theorem note_PutOutlines.calls (k : Nat) (A0 : Option Addr) (c0 : Nat) (l0 : List (S61)) (r1 : List Int) (r2 : Int) (w : World) (hr0 : Kd.C k61 w A0 l0.length l0) (hc0 : l0.length ≤ c0) (h : note_PutOutlines.f k l0 = some (r1, r2)) :
  Calls Tryd.prog 24 #[.slice A0 l0.length c0] w fun e w' => ∃ v0_ : Value, e = .returned (.tuple #[v0_, .int .i64 r2]) ∧ Kd.R (Kd.int .u8) 5 w' w.heap.size (fun _ => True) v0_ r1 ∧ Below w.heap.size w w' := by
 have HR0 := Aside0.mk hr0
 have HC0 := Aside0.mk hc0
 clear hr0 hc0
 have HB := Aside0.mk (Below.refl w.heap.size w)
 have H := h
 unfold note_PutOutlines.f at H
 clear h
 obtain ⟨t139, A2, H⟩ := oB H
 try dsimp only at H
 by_cases c3 : t139 = true
 ·subst c3
  rw [if_pos rfl] at H
  obtain ⟨t140, A4, H⟩ := oB H
  try dsimp only at H
  simp only [Option.some.injEq, Prod.mk.injEq] at H
  obtain ⟨rfl, rfl⟩ := H
  go_enter Tryd.func24, Tryd.ntmps24
  go_wp2_with (first | (refine gF 27 5 Tryd.func27 #[.slice A0 l0.length c0] rfl rfl ?_; (with_reducible refine (note_ValidOutlines.calls k _ _ l0 true _ ?side1 ?side2 A2.out).mono ?_); (case side1 => exact cU HR0.out); (case side2 => exact HC0.out); rintro e w5 ⟨rfl, hb⟩; refine ⟨_, rfl, ?_⟩; have n_ := aE (bs hb); clear HB; have HB := n_; clear n_) | (refine gF 50 8 Tryd.func50 #[.slice A0 l0.length c0] rfl rfl ?_; (with_reducible refine (note_put.calls k _ _ l0 t140 _ ?side1 ?side2 A4.out).mono ?_); (case side1 => exact cU (Kd.C_below HR0.out HB.out)); (case side2 => exact HC0.out); rintro e w6 ⟨v141, rfl, ho0, hb⟩; refine ⟨_, rfl, ?_⟩; have n_ := aC (Kd.R_lower ho0 bz) (aE (bs hb)); clear HB; obtain ⟨HO142, HB⟩ := n_))
  go_ret2
  exact ⟨_, re, rU HO142.out, bl⟩
 ·replace c3 := Bool.eq_false_iff.mpr c3
  subst c3
  rw [if_neg Bool.false_ne_true] at H
  simp only [Option.some.injEq, Prod.mk.injEq] at H
  obtain ⟨rfl, rfl⟩ := H
  go_enter Tryd.func24, Tryd.ntmps24
  go_wp2_with (first | (refine gF 27 5 Tryd.func27 #[.slice A0 l0.length c0] rfl rfl ?_; (with_reducible refine (note_ValidOutlines.calls k _ _ l0 false _ ?side1 ?side2 A2.out).mono ?_); (case side1 => exact cU HR0.out); (case side2 => exact HC0.out); rintro e w7 ⟨rfl, hb⟩; refine ⟨_, rfl, ?_⟩; have n_ := aE (bs hb); clear HB; have HB := n_; clear n_))
  go_ret2
  exact ⟨_, re, by first | exact Kd.R_nil _ _ _ _ _ | exact Kd.N_nil _ _ _ _ _ | exact Kd.V_nil _ _ _ _ _ | exact Kd.Q_nil _ _ _ _ _ | exact Kd.S_nil _ _ _ _ _, bl⟩
def incunableref01_SameBytes.f (l0 : List Int) (l1 : List Int) : Option (Bool) := some ((strOfNums l0).toList == (strOfNums l1).toList)
set_option maxHeartbeats 8000000 in
set_option maxRecDepth 100000 in
theorem incunableref01_SameBytes.calls (A0 : Option Addr) (c0 : Nat) (l0 : List Int) (A1 : Option Addr) (c1 : Nat) (l1 : List Int) (r : Bool) (w : World) (hr0 : Kd.C (Kd.int .u8) w A0 l0.length l0) (hc0 : l0.length ≤ c0) (hr1 : Kd.C (Kd.int .u8) w A1 l1.length l1) (hc1 : l1.length ≤ c1) (h : incunableref01_SameBytes.f l0 l1 = some r) :
  Calls Tryd.prog 26 #[.slice A0 l0.length c0, .slice A1 l1.length c1] w fun e w' => e = .returned (.bool r) ∧ Drawn0 w w' := by
 have HR0 := Aside0.mk hr0
 have HC0 := Aside0.mk hc0
 clear hr0 hc0
 have HR1 := Aside0.mk hr1
 have HC1 := Aside0.mk hc1
 clear hr1 hc1
 have H : (some ((strOfNums l0).toList == (strOfNums l1).toList)) = some r := h
 clear h
 obtain rfl := Option.some.inj H
 have hcv3 := Kd.C_string (P := Tryd.prog) (A := A0) (c := c0) Tryd.underlying44 Tryd.underlying5 Tryd.underlying9 HR0.out
 have hcv4 := Kd.C_string (P := Tryd.prog) (A := A1) (c := c1) Tryd.underlying44 Tryd.underlying5 Tryd.underlying9 HR1.out
 go_enter Tryd.func26, Tryd.ntmps26
 go_wp2
 go_ret
 exact ⟨by first | rfl | (simp; done) | (simp [*]; done), by repeat (first | exact Drawn0.refl _ | apply Drawn0.step)⟩
mutual
def bits_GetSize.j0 : Nat → List Int → Int → Int → Bool → Option (Int × Int × Int)
 | 0, _, _, _, _ => none
 | k + 1, x0, x1, x4, x16 => if x16 = true then (some (0, 0, 2)) else (bits_GetSize.l0 k x0 x1 x4 0)
def bits_GetSize.l0 : Nat → List Int → Int → Int → Int → Option (Int × Int × Int)
 | 0, _, _, _, _ => none
 | k + 1, x0, x1, x4, x17 => if x17 < 5 then (if (wrap64 (x1 + x17)) ≥ (x0.length : Int) then (some (0, 0, 6)) else (if 0 ≤ (wrap64 (x1 + x17)) then (if (wrap64 (x1 + x17)) < (x0.length : Int) then (if (wrap64 (rd x0 (wrap64 (x1 + x17)))) < 128 then (if (wrap64 ((wrap64 (x4 * 128)) + (Int.tmod (wrap64 (rd x0 (wrap64 (x1 + x17)))) 128))) > 2147483647 then (some (0, 0, 3)) else (if x17 > 0 then (if 0 ≤ x1 then (if x1 < (x0.length : Int) then (if (rd x0 x1) = 128 then (some (0, 0, 3)) else (some (wrap64 ((wrap64 (x4 * 128)) + (Int.tmod (wrap64 (rd x0 (wrap64 (x1 + x17)))) 128)), wrap64 ((wrap64 (x1 + x17)) + 1), 0))) else (none)) else (none)) else (some (wrap64 ((wrap64 (x4 * 128)) + (Int.tmod (wrap64 (rd x0 (wrap64 (x1 + x17)))) 128)), wrap64 ((wrap64 (x1 + x17)) + 1), 0)))) else (bits_GetSize.l0 k x0 x1 (wrap64 ((wrap64 (x4 * 128)) + (Int.tmod (wrap64 (rd x0 (wrap64 (x1 + x17)))) 128))) (wrap64 (x17 + 1)))) else (none)) else (none))) else (some (0, 0, 3))
end
def bits_GetSize.f (k : Nat) (l0 : List Int) (a1 : Int) : Option (Int × Int × Int) := if a1 < 0 then (bits_GetSize.j0 k l0 a1 0 true) else (bits_GetSize.j0 k l0 a1 0 (decide (a1 > (l0.length : Int))))
theorem bits_GetSize.mono_l : ∀ k, (∀ y0 y1 y2 y3, LeO (bits_GetSize.j0 k y0 y1 y2 y3) (bits_GetSize.j0 (k + 1) y0 y1 y2 y3)) ∧ (∀ y0 y1 y2 y3, LeO (bits_GetSize.l0 k y0 y1 y2 y3) (bits_GetSize.l0 (k + 1) y0 y1 y2 y3))
 | 0 => ⟨fun _ _ _ _ r h => by simp [bits_GetSize.j0] at h, fun _ _ _ _ r h => by simp [bits_GetSize.l0] at h⟩
 | k + 1 => by
  obtain ⟨ih0, ih1⟩ := bits_GetSize.mono_l k
  refine ⟨?_, ?_⟩
  ·intro y0 y1 y2 y3
   unfold bits_GetSize.j0
   repeat' first
   | (with_reducible exact ih0 _ _ _ _)
   | (with_reducible exact ih1 _ _ _ _)
   | (with_reducible first | exact LeO.refl _ | exact LeO.none _ | refine LeO.ite ?_ ?_ | refine LeO.bind ?_ (fun _ => ?_))
  ·intro y0 y1 y2 y3
   unfold bits_GetSize.l0
   repeat' first
   | (with_reducible exact ih0 _ _ _ _)
   | (with_reducible exact ih1 _ _ _ _)
   | (with_reducible first | exact LeO.refl _ | exact LeO.none _ | refine LeO.ite ?_ ?_ | refine LeO.bind ?_ (fun _ => ?_))
theorem bits_GetSize.mono : ∀ a0 a1 k, LeO (bits_GetSize.f k a0 a1) (bits_GetSize.f (k + 1) a0 a1) := by
 intro a0 a1 k
 obtain ⟨ih0, ih1⟩ := bits_GetSize.mono_l k
 unfold bits_GetSize.f
 repeat' first
   | (with_reducible exact ih0 _ _ _ _)
   | (with_reducible exact ih1 _ _ _ _)
   | (with_reducible first | exact LeO.refl _ | exact LeO.none _ | refine LeO.ite ?_ ?_ | refine LeO.bind ?_ (fun _ => ?_))
set_option maxHeartbeats 8000000 in
set_option maxRecDepth 100000 in
theorem bits_GetSize.calls (k : Nat) (A0 : Option Addr) (c0 : Nat) (l0 : List Int) (a1 : Int) (r1 : Int) (r2 : Int) (r3 : Int) (w : World) (hr0 : Kd.C (Kd.int .u8) w A0 l0.length l0) (hc0 : l0.length ≤ c0) (h : bits_GetSize.f k l0 a1 = some (r1, r2, r3)) :
  Calls Tryd.prog 92 #[.slice A0 l0.length c0, .int .i64 a1] w fun e w' => e = .returned (.tuple #[.int .i64 r1, .int .i64 r2, .int .i64 r3]) ∧ Drawn0 w w' := by
 have HR0 := Aside0.mk hr0
 have HC0 := Aside0.mk hc0
 clear hr0 hc0
 have H := h
 unfold bits_GetSize.f at H
 clear h
 have HC3 := Aside0.mk H
 clear H
 go_enter Tryd.func92, Tryd.ntmps92
 go_upto_region 1 with (fail)
 go_cut [16] (fun v16 wc => ∃ (kq : Nat) (x16_2 : Bool), v16 = .bool x16_2 ∧ Aside0 (bits_GetSize.j0 kq l0 a1 0 x16_2 = some (r1, r2, r3)) ∧ Aside0 (kq ≤ k) ∧ Drawn0 w wc)
 case first =>
  have H := HC3.out
  clear HC3
  rcases iL H with H1 | H1 <;> clear H <;> obtain ⟨H, c4b0⟩ := H1
  ·(first | rw [c4b0] | (simp only [i64_w, i32_w]; rw [c4b0]) | skip)
   have H' := Aside0.mk H
   clear H
   go_wp2
   go_meet
   case rel => exact ⟨_, (true), rq, H', ⟨by first | omega | exact Nat.le_refl _⟩, by repeat (first | exact Drawn0.refl _ | apply Drawn0.step)⟩
  ·(first | rw [c4b0] | (simp only [i64_w, i32_w]; rw [c4b0]) | skip)
   have H' := Aside0.mk H
   clear H
   go_wp2
   go_meet
   case rel => exact ⟨_, (decide (a1 > (l0.length : Int))), rq, H', ⟨by first | omega | exact Nat.le_refl _⟩, by repeat (first | exact Drawn0.refl _ | apply Drawn0.step)⟩
 case rest =>
  clear HC3
  obtain ⟨kq, x16_2, rfl, HA, HJ2, ⟨mc2, rfl⟩⟩ := hcut
  cases kq with
  | zero => exact absurd HA.out (by simp [bits_GetSize.j0])
  | succ kj2 =>
   have H := HA.out
   clear HA
   simp only [bits_GetSize.j0] at H
   by_cases c5 : x16_2 = true
   ·subst c5
    rw [if_pos rfl] at H
    simp only [Option.some.injEq, Prod.mk.injEq] at H
    obtain ⟨rfl, rfl, rfl⟩ := H
    go_wp2
    go_ret3
    exact ⟨by first | rfl | (simp; done) | (simp [*]; done), by repeat (first | exact Drawn0.refl _ | apply Drawn0.step)⟩
   ·replace c5 := Bool.eq_false_iff.mpr c5
    subst c5
    rw [if_neg Bool.false_ne_true] at H
    have H' := Aside0.mk H
    clear H
    go_wp2
    go_loopg [4, 17] kj2 (fun kq v4 v17 w' => ∃ (x4_2 : Int) (x17_2 : Int), v4 = .int .i64 x4_2 ∧ v17 = .int .i64 x17_2 ∧ Aside0 (bits_GetSize.l0 kq l0 a1 x4_2 x17_2 = some (r1, r2, r3)) ∧ Aside0 (kq ≤ kj2) ∧ Drawn0 w w')
    case atStart => exact ⟨(0), (0), rq, rq, H', ⟨Nat.le_refl _⟩, by repeat (first | exact Drawn0.refl _ | apply Drawn0.step)⟩
    case round =>
     clear H'
     obtain ⟨x4_2, x17_2, rfl, rfl, HA, HK2, ⟨m2, rfl⟩⟩ := hrel
     cases gk with
     | zero => exact absurd HA.out (by simp [bits_GetSize.l0])
     | succ k2 =>
      have H := HA.out
      clear HA
      simp only [bits_GetSize.l0] at H
      rcases iL H with H1 | H1 <;> clear H <;> obtain ⟨H, c6b0⟩ := H1
      ·rcases iL H with H1 | H1 <;> clear H <;> obtain ⟨H, c7b0⟩ := H1
       ·simp only [Option.some.injEq, Prod.mk.injEq] at H
        obtain ⟨rfl, rfl, rfl⟩ := H
        go_wp2
        go_ret3
        exact ⟨by first | rfl | (simp; done) | (simp [*]; done), by repeat (first | exact Drawn0.refl _ | apply Drawn0.step)⟩
       ·obtain ⟨ji8, hji8⟩ : ∃ j_ : Int, (wrap64 (a1 + x17_2)) = j_ := ⟨_, rfl⟩
        replace H : (if 0 ≤ (ji8) then (if (ji8) < (l0.length : Int) then (if (wrap64 (rd l0 (ji8))) < 128 then (if (wrap64 ((wrap64 (x4_2 * 128)) + (Int.tmod (wrap64 (rd l0 (ji8))) 128))) > 2147483647 then (some (0, 0, 3)) else (if x17_2 > 0 then (if 0 ≤ a1 then (if a1 < (l0.length : Int) then (if (rd l0 a1) = 128 then (some (0, 0, 3)) else (some (wrap64 ((wrap64 (x4_2 * 128)) + (Int.tmod (wrap64 (rd l0 (ji8))) 128)), wrap64 ((ji8) + 1), 0))) else (none)) else (none)) else (some (wrap64 ((wrap64 (x4_2 * 128)) + (Int.tmod (wrap64 (rd l0 (ji8))) 128)), wrap64 ((ji8) + 1), 0)))) else (bits_GetSize.l0 k2 l0 a1 (wrap64 ((wrap64 (x4_2 * 128)) + (Int.tmod (wrap64 (rd l0 (ji8))) 128))) (wrap64 (x17_2 + 1)))) else (none)) else (none)) = some (r1, r2, r3) := by first | (rw [hji8] at H; exact H) | (simp only [hji8] at H ⊢; exact H)
        (try rw [hji8] at c7b0)
        have hji8w : (IntKind.i64.wrap (a1 + x17_2)) = ji8 := (i64_w _).trans hji8
        by_cases c9 : 0 ≤ (ji8)
        ·rw [if_pos c9] at H
         have c9b0 := decide_eq_true c9
         clear c9
         by_cases c10 : (ji8) < (l0.length : Int)
         ·rw [if_pos c10] at H
          have c10b0 := decide_eq_true c10
          clear c10
          rcases iL H with H1 | H1 <;> clear H <;> obtain ⟨H, c11b0⟩ := H1
          ·rcases iL H with H1 | H1 <;> clear H <;> obtain ⟨H, c12b0⟩ := H1
           ·simp only [Option.some.injEq, Prod.mk.injEq] at H
            obtain ⟨rfl, rfl, rfl⟩ := H
            have p143 : 0 ≤ ((ji8) : Int) := dt
            have q143 : (ji8) < (l0.length : Int) := dt
            obtain ⟨ad143, e143, hx143_0⟩ := Kd.at_int HR0.out (ji8) p143 q143
            cases e143
            replace p143 := eq_true p143
            replace q143 := eq_true q143
            go_wp2
            go_ret3
            exact ⟨by first | rfl | (simp; done) | (simp only [← hji8] <;> (first | rfl | simp)) | (simp [*]; done), by repeat (first | exact Drawn0.refl _ | apply Drawn0.step)⟩
           ·rcases iL H with H1 | H1 <;> clear H <;> obtain ⟨H, c13b0⟩ := H1
            ·by_cases c14 : 0 ≤ a1
             ·rw [if_pos c14] at H
              have c14b0 := decide_eq_true c14
              clear c14
              by_cases c15 : a1 < (l0.length : Int)
              ·rw [if_pos c15] at H
               have c15b0 := decide_eq_true c15
               clear c15
               rcases iE H with H1 | H1 <;> clear H <;> obtain ⟨H, c16b0, c16b1, c16⟩ := H1
               ·simp only [Option.some.injEq, Prod.mk.injEq] at H
                obtain ⟨rfl, rfl, rfl⟩ := H
                have p143 : 0 ≤ ((ji8) : Int) := dt
                have q143 : (ji8) < (l0.length : Int) := dt
                obtain ⟨ad143, e143, hx143_0⟩ := Kd.at_int HR0.out (ji8) p143 q143
                cases e143
                replace p143 := eq_true p143
                replace q143 := eq_true q143
                have p144 : 0 ≤ (a1 : Int) := dt
                have q144 : a1 < (l0.length : Int) := dt
                obtain ⟨ad144, e144, hx144_0⟩ := Kd.at_int HR0.out a1 p144 q144
                obtain rfl : ad143 = ad144 := (by injection e144)
                replace p144 := eq_true p144
                replace q144 := eq_true q144
                go_wp2
                go_ret3
                exact ⟨by first | rfl | (simp; done) | (simp only [← hji8] <;> (first | rfl | simp)) | (simp [*]; done), by repeat (first | exact Drawn0.refl _ | apply Drawn0.step)⟩
               ·simp only [Option.some.injEq, Prod.mk.injEq] at H
                obtain ⟨rfl, rfl, rfl⟩ := H
                have p143 : 0 ≤ ((ji8) : Int) := dt
                have q143 : (ji8) < (l0.length : Int) := dt
                obtain ⟨ad143, e143, hx143_0⟩ := Kd.at_int HR0.out (ji8) p143 q143
                cases e143
                replace p143 := eq_true p143
                replace q143 := eq_true q143
                have p144 : 0 ≤ (a1 : Int) := dt
                have q144 : a1 < (l0.length : Int) := dt
                obtain ⟨ad144, e144, hx144_0⟩ := Kd.at_int HR0.out a1 p144 q144
                obtain rfl : ad143 = ad144 := (by injection e144)
                replace p144 := eq_true p144
                replace q144 := eq_true q144
                go_wp2
                go_ret3
                exact ⟨by first | rfl | (simp; done) | (simp only [← hji8] <;> (first | rfl | simp)) | (simp [*]; done), by repeat (first | exact Drawn0.refl _ | apply Drawn0.step)⟩
              ·rw [if_neg c15] at H
               exact absurd H (by simp)
             ·rw [if_neg c14] at H
              exact absurd H (by simp)
            ·simp only [Option.some.injEq, Prod.mk.injEq] at H
             obtain ⟨rfl, rfl, rfl⟩ := H
             have p143 : 0 ≤ ((ji8) : Int) := dt
             have q143 : (ji8) < (l0.length : Int) := dt
             obtain ⟨ad143, e143, hx143_0⟩ := Kd.at_int HR0.out (ji8) p143 q143
             cases e143
             replace p143 := eq_true p143
             replace q143 := eq_true q143
             go_wp2
             go_ret3
             exact ⟨by first | rfl | (simp; done) | (simp only [← hji8] <;> (first | rfl | simp)) | (simp [*]; done), by repeat (first | exact Drawn0.refl _ | apply Drawn0.step)⟩
          ·have H' := Aside0.mk H
           clear H
           have p143 : 0 ≤ ((ji8) : Int) := dt
           have q143 : (ji8) < (l0.length : Int) := dt
           obtain ⟨ad143, e143, hx143_0⟩ := Kd.at_int HR0.out (ji8) p143 q143
           cases e143
           replace p143 := eq_true p143
           replace q143 := eq_true q143
           go_wp2
           go_roundg k2
           case measure => have := HJ2.out; have := HK2.out; omega
           case rel => exact ⟨(wrap64 ((wrap64 (x4_2 * 128)) + (Int.tmod (wrap64 (rd l0 (ji8))) 128))), (wrap64 (x17_2 + 1)), (by first | rfl | (simp; done) | (simp only [← hji8] <;> (first | rfl | simp)) | (simp [*]; done)), rq, H', ⟨by have := HJ2.out; have := HK2.out; omega⟩, by repeat (first | exact Drawn0.refl _ | apply Drawn0.step)⟩
         ·rw [if_neg c10] at H
          exact absurd H (by simp)
        ·rw [if_neg c9] at H
         exact absurd H (by simp)
      ·simp only [Option.some.injEq, Prod.mk.injEq] at H
       obtain ⟨rfl, rfl, rfl⟩ := H
       go_wp2
       go_ret3
       exact ⟨by first | rfl | (simp; done) | (simp [*]; done), by repeat (first | exact Drawn0.refl _ | apply Drawn0.step)⟩
end Go.Proofs.YtacdchogjpeffaaDoor.PNoteGets
