-- printed (wip/tools/myprint.py)
import Derived.Test.YtacdchogjpeffaaDoorPNoteParsesx0
import Derived.Test.YtacdchogjpeffaaDoorPNoteParsesx1
namespace Go.Proofs.YtacdchogjpeffaaDoor.PNoteParses
open Go.RowKit Go.Proofs.YtacdchogjpeffaaDoorW.PrintWords Go.Proofs.YtacdchogjpeffaaDoorW.PrintLast Go.Proofs.YtacdchogjpeffaaDoorW.PrintMore
attribute [local go_sem] max2_int min2_int max_two min_two max_three min_three max_four min_four
set_option linter.unusedVariables false
set_option linter.unusedSimpArgs false
def Fm (g : Nat) (w0 w : World) (bs : List UInt8) (W : World) : Prop := IsB g bs W ∧ Bk g w W ∧ Below w0.heap.size w0 W
theorem Fm.below {g : Nat} {w0 w W W' : World} {bs : List UInt8} (h : Fm g w0 w bs W) (hb : Below W.heap.size W W') : Fm g w0 w bs W' :=
 ⟨h.1.below hb, h.2.1.trans (Bk.of_below (Nat.le_of_lt h.1.lt) hb), below_step h.2.2 hb⟩
theorem Fm.call {g : Nat} {w0 w W W' : World} {bs bs' : List UInt8} (h : Fm g w0 w bs W) (hi : IsB g bs' W') (hk : Bk g W W') (hg : w0.heap.size ≤ g) : Fm g w0 w bs' W' :=
 ⟨hi, h.2.1.trans hk, h.2.2.trans (hk.1.mono hg)⟩
theorem Fm.put {g b j : Nat} {w0 w W : World} {bs : List UInt8} {cs : Array Value} {t : TypeId} {fz : Nat × Nat} (h : Fm g w0 w bs W) (hb : W.heap[b]? = some (.cells cs t fz)) (ht : t ≠ 5) (hn : b ≠ g) (hw : w.heap.size ≤ b) (hg : g ≤ b) (h0 : w0.heap.size ≤ b) (u : Value) : Fm g w0 w bs (W.setCell ⟨b, j, none⟩ u) := by
 refine ⟨h.1.put hb ht hn u, ⟨h.2.1.1.setCell hg _, fun k o hk hk1 hk2 => ?_⟩, below_set h.2.2 h0⟩
 have hlt := (Array.getElem?_eq_some_iff.1 hk).1
 exact (Below.heap_setCell W ⟨b, j, none⟩ u k (by show k ≠ b; omega)).trans (h.2.1.2 k o hk hk1 hk2)
theorem Fm.fill {g b : Nat} {w0 w W : World} {bs : List UInt8} {c0 c1 c2 c3 : Value} {t : TypeId} (h : Fm g w0 w bs W) (hb : W.heap[b]? = some (.cells #[c0, c1, c2, c3] t (0, 0))) (ht : t ≠ 5) (hn : b ≠ g) (hw : w.heap.size ≤ b) (hg : g ≤ b) (h0 : w0.heap.size ≤ b) (u0 u1 u2 u3 : Value) :
  Fm g w0 w bs ((((W.setCell ⟨b, 0, none⟩ u0).setCell ⟨b, 1, none⟩ u1).setCell ⟨b, 2, none⟩ u2).setCell ⟨b, 3, none⟩ u3) ∧ ((((W.setCell ⟨b, 0, none⟩ u0).setCell ⟨b, 1, none⟩ u1).setCell ⟨b, 2, none⟩ u2).setCell ⟨b, 3, none⟩ u3).heap[b]? = some (.cells #[u0, u1, u2, u3] t (0, 0)) := by
 have b1 := blk_put (cs := #[c0, c1, c2, c3]) hb 0 u0 rfl
 have b2 := blk_put (cs := #[u0, c1, c2, c3]) b1 1 u1 rfl
 have b3 := blk_put (cs := #[u0, u1, c2, c3]) b2 2 u2 rfl
 exact ⟨(((h.put hb ht hn hw hg h0 u0).put b1 ht hn hw hg h0 u1).put b2 ht hn hw hg h0 u2).put b3 ht hn hw hg h0 u3, blk_put (cs := #[u0, u1, u2, c3]) b3 3 u3 rfl⟩
def note_format.q0 : Nat → List UInt8 → ByteArray → Int → Option (List UInt8)
 | 0, _, _, _ => none
 | k + 1, bs, s, i => if i < (s.size : Int) then (if 0 ≤ i then (if bs.length + 1 < 140737488355328 then (if bt s i = 34 then note_format.q0 k (bs ++ [92] ++ [UInt8.ofNat (bt s i).toNat]) s (wrap64 (i + 1)) else (if bt s i = 92 then note_format.q0 k (bs ++ [92] ++ [UInt8.ofNat (bt s i).toNat]) s (wrap64 (i + 1)) else note_format.q0 k (bs ++ [UInt8.ofNat (bt s i).toNat]) s (wrap64 (i + 1)))) else none) else none) else (if bs.length < 140737488355328 then some (bs ++ [34]) else none)
mutual
def note_format.l0 : Nat → List UInt8 → List (S33) → Int → Option (List UInt8)
 | 0, _, _, _ => none
 | k + 1, bs, l, i => if i < (l.length : Int) then (if 0 ≤ i then (if i > 0 then (if bs.length < 140737488355328 then ((note_format.f k (bs ++ [32]) ((rd_T33 l i).f0) ((rd_T33 l i).f1) ((rd_T33 l i).f2) ((rd_T33 l i).f3)).bind fun b => note_format.l0 k b l (wrap64 (i + 1))) else none) else ((note_format.f k bs ((rd_T33 l i).f0) ((rd_T33 l i).f1) ((rd_T33 l i).f2) ((rd_T33 l i).f3)).bind fun b => note_format.l0 k b l (wrap64 (i + 1)))) else none) else (if bs.length < 140737488355328 then some (bs ++ [41]) else none)
def note_format.f : Nat → List UInt8 → Int → ByteArray → Int → List (S33) → Option (List UInt8)
 | 0, _, _, _, _, _ => none
 | k + 1, bs, a0, a1, a2, l3 => if a0 = 0 then (if bs.length < 140737488355328 then note_format.l0 k (bs ++ [40]) l3 0 else none) else (if a0 = 2 then ((strconv_Itoa_79.f a2).bind fun s => if bs.length + s.size ≤ 140737488355328 then some (bs ++ s.data.toList) else none) else (if a0 = 1 then (if bs.length + a1.size ≤ 140737488355328 then some (bs ++ a1.data.toList) else none) else (if bs.length < 140737488355328 then note_format.q0 k (bs ++ [34]) a1 0 else none)))
end
theorem note_format.q0_mono : ∀ k bs s i, LeO (note_format.q0 k bs s i) (note_format.q0 (k + 1) bs s i)
 | 0 => fun _ _ _ r h => by simp [note_format.q0] at h
 | k + 1 => by
  intro bs s i
  unfold note_format.q0
  exact LeO.ite (LeO.ite (LeO.ite (LeO.ite (note_format.q0_mono k _ _ _) (LeO.ite (note_format.q0_mono k _ _ _) (note_format.q0_mono k _ _ _))) (LeO.refl _)) (LeO.refl _)) (LeO.refl _)
theorem note_format.mono_l : ∀ k, (∀ y0 y1 y2, LeO (note_format.l0 k y0 y1 y2) (note_format.l0 (k + 1) y0 y1 y2)) ∧ (∀ y0 y1 y2 y3 y4, LeO (note_format.f k y0 y1 y2 y3 y4) (note_format.f (k + 1) y0 y1 y2 y3 y4))
 | 0 => ⟨fun _ _ _ r h => by simp [note_format.l0] at h, fun _ _ _ _ _ r h => by simp [note_format.f] at h⟩
 | k + 1 => by
  obtain ⟨ih0, ih1⟩ := note_format.mono_l k
  refine ⟨fun y0 y1 y2 => ?_, fun y0 y1 y2 y3 y4 => ?_⟩
  ·unfold note_format.l0
   exact LeO.ite (LeO.ite (LeO.ite (LeO.ite (LeO.bind (ih1 _ _ _ _ _) (fun _ => ih0 _ _ _)) (LeO.refl _)) (LeO.bind (ih1 _ _ _ _ _) (fun _ => ih0 _ _ _))) (LeO.refl _)) (LeO.refl _)
  ·unfold note_format.f
   exact LeO.ite (LeO.ite (ih0 _ _ _) (LeO.refl _)) (LeO.ite (LeO.refl _) (LeO.ite (LeO.refl _) (LeO.ite (note_format.q0_mono k _ _ _) (LeO.refl _))))
theorem note_format.mono : ∀ a0 a1 a2 a3 a4 k, LeO (note_format.f k a0 a1 a2 a3 a4) (note_format.f (k + 1) a0 a1 a2 a3 a4) := fun _ _ _ _ _ k => (note_format.mono_l k).2 _ _ _ _ _
set_option maxHeartbeats 8000000 in
set_option maxRecDepth 100000 in
theorem note_format.calls (k : Nat) : ∀ (g : Nat) (bs : List UInt8) (a0 : Int) (a1 : ByteArray) (a2 : Int) (A3 : Option Addr) (c3 : Nat) (l3 : List (S33)) (r : List UInt8) (w0 w : World) (hT : TIs w0) (hg : w0.heap.size ≤ g) (hB : Below w0.heap.size w0 w) (hI : IsB g bs w) (hr3 : Kd.C k33 w0 A3 l3.length l3) (hc3 : l3.length ≤ c3) (h : note_format.f k bs a0 a1 a2 l3 = some r),
  Calls Tryd.prog 56 #[.pointer (some ⟨g, 0, none⟩), .agg #[.int .i64 a0, .string a1, .int .i64 a2, .slice A3 l3.length c3]] w fun e w' => e = .returned (.tuple #[]) ∧ IsB g r w' ∧ Bk g w w' := by
 induction k using Nat.strongRecOn with
 | _ k ih =>
 intro g bs a0 a1 a2 A3 c3 l3 r w0 w hT hg hB hI hr3 hc3 h
 cases k with
 | zero => exact absurd h (by simp [note_format.f])
 | succ k =>
 simp only [note_format.f] at h
 have hu33 := Tryd.underlying33
 have HT := Aside0.mk hT
 have HG := Aside0.mk hg
 have HR3 := Aside0.mk hr3
 have HC3 := Aside0.mk hc3
 have GL := Aside0.mk hI.lt
 have FM : Aside0 (Fm g w0 w bs w) := ⟨hI, Bk.refl g w, hB⟩
 clear hT hg hr3 hc3 hI hB
 by_cases c0 : a0 = 0
 ·rw [if_pos c0] at h
  have c0b0 := beq_iff_eq.mpr c0
  clear c0
  by_cases lm : bs.length < 140737488355328
  ·rw [if_pos lm] at h
   have LM := aE lm
   have H' := aE h
   clear lm h
   go_enter Tryd.func56, Tryd.ntmps56
   go_wp2_with (first | ((with_reducible refine gd 3 rfl ?_); refine bx 3 #[.int .i64 a0, .string a1, .int .i64 a2, .slice A3 l3.length c3] 33 rfl rfl ?_; intro gb hg_ w1 hbox hb; have n_ := aC (FM.out.below hb) (aC hbox (aE (show gb ≠ g by have := GL.out; omega))); clear FM; obtain ⟨FM, BK, NB⟩ := n_; clear hb hbox hg_; obtain ⟨z0, z1, z2, z3, y0, y1, y2, y3⟩ := cz4f BK.out) | (refine gF 77 42 Tryd.func77 #[.pointer (some ⟨g, 0, none⟩), .int .u8 40] rfl rfl ?_; refine (writeByte_calls g bs 40 (by decide) (by decide) LM.out _ FM.out.1).mono ?_; rintro e w2 ⟨rfl, hi, hk⟩; refine ⟨_, rfl, ?_⟩; have n_ := aC (hk.blk BK.out (by decide) NB.out) (aE (FM.out.call hi hk HG.out)); clear BK FM; obtain ⟨BK, FM⟩ := n_; clear hi hk; obtain ⟨z0, z1, z2, z3, y0, y1, y2, y3⟩ := cz4f BK.out))
   go_loopg [46] k (fun kq v46 w' => ∃ (b1 : List UInt8) (i1 : Int), v46 = .int .i64 i1 ∧ Aside0 (note_format.l0 kq b1 l3 i1 = some r) ∧ Aside0 (kq ≤ k) ∧ Aside0 (Fm g w0 w b1 w'))
   case atStart => exact ⟨bs ++ [40], (0), rq, H', ⟨Nat.le_refl _⟩, FM⟩
   case round =>
    clear H' FM BK
    obtain ⟨b1, i1, rfl, HA, HK1, FM⟩ := hrel
    cases gk with
    | zero => exact absurd HA.out (by simp [note_format.l0])
    | succ k1 =>
     have H := HA.out
     clear HA
     simp only [note_format.l0] at H
     rcases iL H with H1 | H1 <;> clear H <;> obtain ⟨H, c1b0⟩ := H1
     ·by_cases c2 : 0 ≤ i1
      ·rw [if_pos c2] at H
       have c2b0 := decide_eq_true c2
       clear c2
       have p110 : 0 ≤ (i1 : Int) := dt
       have q110 : i1 < (l3.length : Int) := dt
       obtain ⟨ad, Ak, ck, ead, x0, x1, x2, x3, hl, hi⟩ := at_T33 HR3.out i1 p110 q110
       have KD := aC hi (aE hl)
       replace x0 := hcB FM.out.2.2 x0
       replace x1 := hcB FM.out.2.2 x1
       replace x2 := hcB FM.out.2.2 x2
       replace x3 := hcB FM.out.2.2 x3
       clear hi hl
       cases ead
       replace p110 := eq_true p110
       replace q110 := eq_true q110
       rcases iL H with H1 | H1 <;> clear H <;> obtain ⟨H, c3b0⟩ := H1
       ·by_cases lm : b1.length < 140737488355328
        ·rw [if_pos lm] at H
         have LM1 := aE lm
         clear lm
         obtain ⟨b2, A2, H⟩ := oB H
         have H' := aE H
         clear H
         go_wp2_with (first | ((with_reducible refine gd 5 rfl ?_); refine bx 5 #[.int .i64 0, .string (⟨#[]⟩ : ByteArray), .int .i64 0, .slice none 0 0] 33 rfl rfl ?_; intro gb5 hg_ w3 hbox hb; have n_ := aC (show w.heap.size ≤ gb5 by rw [hg_]; exact FM.out.2.1.1.size) (aE (show gb5 ≠ g by have := FM.out.1.lt; omega)); obtain ⟨GW5, NB5⟩ := n_; have n_ := aC (FM.out.below hb) (aC hbox (aC (show g ≤ gb5 by have := GL.out; have := GW5.out; omega) (aE (show w0.heap.size ≤ gb5 by have := GL.out; have := HG.out; have := GW5.out; omega)))); clear FM; obtain ⟨FM, BK5, GG5, G05⟩ := n_; clear hb hbox hg_; obtain ⟨z0, z1, z2, z3, y0, y1, y2, y3⟩ := cz4f BK5.out; have FF := aE (FM.out.fill BK5.out (by decide) NB5.out GW5.out GG5.out G05.out (.int .i64 ((rd_T33 l3 i1).f0)) (.string ((rd_T33 l3 i1).f1)) (.int .i64 ((rd_T33 l3 i1).f2)) (.slice Ak ((rd_T33 l3 i1).f3).length ck))) | (refine gF 77 54 Tryd.func77 #[.pointer (some ⟨g, 0, none⟩), .int .u8 32] rfl rfl ?_; refine (writeByte_calls g b1 32 (by decide) (by decide) LM1.out _ FF.out.1.1).mono ?_; rintro e w4 ⟨rfl, hi, hk⟩; refine ⟨_, rfl, ?_⟩; have n_ := aC (hk.blk FF.out.2 (by decide) NB5.out) (aE (FF.out.1.call hi hk HG.out)); clear BK5 FM FF; obtain ⟨BK5, FM⟩ := n_; clear hi hk; obtain ⟨z0, z1, z2, z3, y0, y1, y2, y3⟩ := cz4f BK5.out) | (refine gF 56 57 Tryd.func56 #[.pointer (some ⟨g, 0, none⟩), .agg #[.int .i64 ((rd_T33 l3 i1).f0), .string ((rd_T33 l3 i1).f1), .int .i64 ((rd_T33 l3 i1).f2), .slice Ak ((rd_T33 l3 i1).f3).length ck]] rfl rfl ?_; refine (ih k1 (by have := HK1.out; omega) g (b1 ++ [32]) _ _ _ Ak ck _ b2 w0 _ HT.out HG.out FM.out.2.2 FM.out.1 KD.1.out KD.2.out A2.out).mono ?_; rintro e w5 ⟨rfl, hi, hk⟩; refine ⟨_, rfl, ?_⟩; have n_ := aE (FM.out.call hi hk HG.out); clear FM; have FM := n_; clear hi hk))
         go_roundg k1
         case measure => have := HK1.out; omega
         case rel => exact ⟨b2, (wrap64 (i1 + 1)), rq, H', ⟨by have := HK1.out; omega⟩, FM⟩
        ·rw [if_neg lm] at H
         exact absurd H (by simp)
       ·obtain ⟨b2, A2, H⟩ := oB H
        have H' := aE H
        clear H
        go_wp2_with (first | ((with_reducible refine gd 5 rfl ?_); refine bx 5 #[.int .i64 0, .string (⟨#[]⟩ : ByteArray), .int .i64 0, .slice none 0 0] 33 rfl rfl ?_; intro gb5 hg_ w3 hbox hb; have n_ := aC (show w.heap.size ≤ gb5 by rw [hg_]; exact FM.out.2.1.1.size) (aE (show gb5 ≠ g by have := FM.out.1.lt; omega)); obtain ⟨GW5, NB5⟩ := n_; have n_ := aC (FM.out.below hb) (aC hbox (aC (show g ≤ gb5 by have := GL.out; have := GW5.out; omega) (aE (show w0.heap.size ≤ gb5 by have := GL.out; have := HG.out; have := GW5.out; omega)))); clear FM; obtain ⟨FM, BK5, GG5, G05⟩ := n_; clear hb hbox hg_; obtain ⟨z0, z1, z2, z3, y0, y1, y2, y3⟩ := cz4f BK5.out; have FF := aE (FM.out.fill BK5.out (by decide) NB5.out GW5.out GG5.out G05.out (.int .i64 ((rd_T33 l3 i1).f0)) (.string ((rd_T33 l3 i1).f1)) (.int .i64 ((rd_T33 l3 i1).f2)) (.slice Ak ((rd_T33 l3 i1).f3).length ck))) | (refine gF 56 57 Tryd.func56 #[.pointer (some ⟨g, 0, none⟩), .agg #[.int .i64 ((rd_T33 l3 i1).f0), .string ((rd_T33 l3 i1).f1), .int .i64 ((rd_T33 l3 i1).f2), .slice Ak ((rd_T33 l3 i1).f3).length ck]] rfl rfl ?_; refine (ih k1 (by have := HK1.out; omega) g b1 _ _ _ Ak ck _ b2 w0 _ HT.out HG.out FF.out.1.2.2 FF.out.1.1 KD.1.out KD.2.out A2.out).mono ?_; rintro e w5 ⟨rfl, hi, hk⟩; refine ⟨_, rfl, ?_⟩; have n_ := aE (FF.out.1.call hi hk HG.out); clear FM; have FM := n_; clear hi hk))
        go_roundg k1
        case measure => have := HK1.out; omega
        case rel => exact ⟨b2, (wrap64 (i1 + 1)), rq, H', ⟨by have := HK1.out; omega⟩, FM⟩
      ·rw [if_neg c2] at H
       exact absurd H (by simp)
     ·by_cases lm : b1.length < 140737488355328
      ·rw [if_pos lm] at H
       have LM1 := aE lm
       obtain rfl := Option.some.inj H
       clear lm H
       go_wp2_with (first | (refine gF 77 60 Tryd.func77 #[.pointer (some ⟨g, 0, none⟩), .int .u8 41] rfl rfl ?_; refine (writeByte_calls g b1 41 (by decide) (by decide) LM1.out _ FM.out.1).mono ?_; rintro e w6 ⟨rfl, hi, hk⟩; refine ⟨_, rfl, ?_⟩; have n_ := aE (FM.out.call hi hk HG.out); clear FM; have FM := n_; clear hi hk))
       go_end0
       exact ⟨rfl, FM.out.1, FM.out.2.1⟩
      ·rw [if_neg lm] at H
       exact absurd H (by simp)
  ·rw [if_neg lm] at h
   exact absurd h (by simp)
 ·rw [if_neg c0] at h
  have c0b0 := beq_eq_false_iff_ne.mpr c0
  clear c0
  by_cases c1 : a0 = 2
  ·rw [if_pos c1] at h
   have c1b0 := beq_iff_eq.mpr c1
   clear c1
   obtain ⟨s, A1, h⟩ := oB h
   by_cases lm : bs.length + s.size ≤ 140737488355328
   ·rw [if_pos lm] at h
    have LM := aE lm
    obtain rfl := Option.some.inj h
    clear lm h
    go_enter Tryd.func56, Tryd.ntmps56
    go_wp2_with (first | ((with_reducible refine gd 3 rfl ?_); refine bx 3 #[.int .i64 a0, .string a1, .int .i64 a2, .slice A3 l3.length c3] 33 rfl rfl ?_; intro gb hg_ w1 hbox hb; have n_ := aC (FM.out.below hb) (aC hbox (aE (show gb ≠ g by have := GL.out; omega))); clear FM; obtain ⟨FM, BK, NB⟩ := n_; clear hb hbox hg_; obtain ⟨z0, z1, z2, z3, y0, y1, y2, y3⟩ := cz4f BK.out) | (refine gF 79 66 Tryd.func79 #[.int .i64 a2] rfl rfl ?_; refine (strconv_Itoa_79.calls a2 s _ (HT.out.below FM.out.2.2) A1.out).mono ?_; rintro e w2 ⟨rfl, hb⟩; refine ⟨_, rfl, ?_⟩; have n_ := aE (FM.out.below hb); clear FM; have FM := n_; clear hb) | (refine gF 78 67 Tryd.func78 #[.pointer (some ⟨g, 0, none⟩), .string s] rfl rfl ?_; refine (writeString_calls g bs s LM.out _ FM.out.1).mono ?_; rintro e w3 ⟨rfl, hi, hk⟩; refine ⟨_, rfl, ?_⟩; have n_ := aE (FM.out.call hi hk HG.out); clear FM; have FM := n_; clear hi hk))
    go_end0
    exact ⟨rfl, FM.out.1, FM.out.2.1⟩
   ·rw [if_neg lm] at h
    exact absurd h (by simp)
  ·rw [if_neg c1] at h
   have c1b0 := beq_eq_false_iff_ne.mpr c1
   clear c1
   by_cases c2 : a0 = 1
   ·rw [if_pos c2] at h
    have c2b0 := beq_iff_eq.mpr c2
    clear c2
    by_cases lm : bs.length + a1.size ≤ 140737488355328
    ·rw [if_pos lm] at h
     have LM := aE lm
     obtain rfl := Option.some.inj h
     clear lm h
     go_enter Tryd.func56, Tryd.ntmps56
     go_wp2_with (first | ((with_reducible refine gd 3 rfl ?_); refine bx 3 #[.int .i64 a0, .string a1, .int .i64 a2, .slice A3 l3.length c3] 33 rfl rfl ?_; intro gb hg_ w1 hbox hb; have n_ := aC (FM.out.below hb) (aC hbox (aE (show gb ≠ g by have := GL.out; omega))); clear FM; obtain ⟨FM, BK, NB⟩ := n_; clear hb hbox hg_; obtain ⟨z0, z1, z2, z3, y0, y1, y2, y3⟩ := cz4f BK.out) | (refine gF 78 73 Tryd.func78 #[.pointer (some ⟨g, 0, none⟩), .string a1] rfl rfl ?_; refine (writeString_calls g bs a1 LM.out _ FM.out.1).mono ?_; rintro e w3 ⟨rfl, hi, hk⟩; refine ⟨_, rfl, ?_⟩; have n_ := aE (FM.out.call hi hk HG.out); clear FM; have FM := n_; clear hi hk))
     go_end0
     exact ⟨rfl, FM.out.1, FM.out.2.1⟩
    ·rw [if_neg lm] at h
     exact absurd h (by simp)
   ·rw [if_neg c2] at h
    have c2b0 := beq_eq_false_iff_ne.mpr c2
    clear c2
    by_cases lm : bs.length < 140737488355328
    ·rw [if_pos lm] at h
     have LM := aE lm
     have H' := aE h
     clear lm h
     go_enter Tryd.func56, Tryd.ntmps56
     go_wp2_with (first | ((with_reducible refine gd 3 rfl ?_); refine bx 3 #[.int .i64 a0, .string a1, .int .i64 a2, .slice A3 l3.length c3] 33 rfl rfl ?_; intro gb hg_ w1 hbox hb; have n_ := aC (FM.out.below hb) (aC hbox (aE (show gb ≠ g by have := GL.out; omega))); clear FM; obtain ⟨FM, BK, NB⟩ := n_; clear hb hbox hg_; obtain ⟨z0, z1, z2, z3, y0, y1, y2, y3⟩ := cz4f BK.out) | (refine gF 77 11 Tryd.func77 #[.pointer (some ⟨g, 0, none⟩), .int .u8 34] rfl rfl ?_; refine (writeByte_calls g bs 34 (by decide) (by decide) LM.out _ FM.out.1).mono ?_; rintro e w2 ⟨rfl, hi, hk⟩; refine ⟨_, rfl, ?_⟩; have n_ := aC (hk.blk BK.out (by decide) NB.out) (aE (FM.out.call hi hk HG.out)); clear BK FM; obtain ⟨BK, FM⟩ := n_; clear hi hk; obtain ⟨z0, z1, z2, z3, y0, y1, y2, y3⟩ := cz4f BK.out))
     go_loopg [15] k (fun kq v15 w' => ∃ (b1 : List UInt8) (i1 : Int), v15 = .int .i64 i1 ∧ Aside0 (note_format.q0 kq b1 a1 i1 = some r) ∧ Aside0 (kq ≤ k) ∧ Aside0 (w'.heap[gb]? = some (.cells #[.int .i64 a0, .string a1, .int .i64 a2, .slice A3 l3.length c3] 33 (0, 0))) ∧ Aside0 (Fm g w0 w b1 w'))
     case atStart => exact ⟨bs ++ [34], (0), rq, H', ⟨Nat.le_refl _⟩, BK, FM⟩
     case round =>
      clear H' FM BK
      obtain ⟨b1, i1, rfl, HA, HK1, BK, FM⟩ := hrel
      cases gk with
      | zero => exact absurd HA.out (by simp [note_format.q0])
      | succ k1 =>
       have H := HA.out
       clear HA
       simp only [note_format.q0] at H
       obtain ⟨z0, z1, z2, z3, y0, y1, y2, y3⟩ := cz4f BK.out
       rcases iL H with H1 | H1 <;> clear H <;> obtain ⟨H, c3b0⟩ := H1
       ·by_cases c4 : 0 ≤ i1
        ·rw [if_pos c4] at H
         have c4b0 := decide_eq_true c4
         clear c4
         by_cases lm : b1.length + 1 < 140737488355328
         ·rw [if_pos lm] at H
          have LM1 := aE lm
          clear lm
          have p13 : 0 ≤ (i1 : Int) := dt
          have q13 : i1 < (a1.size : Int) := dt
          have CB := aE (show 0 ≤ bt a1 i1 ∧ bt a1 i1 < 256 from ⟨(bt_range a1 i1).1, by have := (bt_range a1 i1).2; omega⟩)
          have hx13 := bt_at a1 i1
          replace p13 := eq_true p13
          replace q13 := eq_true q13
          by_cases c5 : bt a1 i1 = 34
          ·rw [if_pos c5] at H
           have c5b0 := beq_iff_eq.mpr c5
           clear c5
           have H' := aE H
           clear H
           go_wp2_with (first | (refine gF 77 29 Tryd.func77 #[.pointer (some ⟨g, 0, none⟩), .int .u8 92] rfl rfl ?_; refine (writeByte_calls g b1 92 (by decide) (by decide) (by have := LM1.out; omega) _ FM.out.1).mono ?_; rintro e w2 ⟨rfl, hi, hk⟩; refine ⟨_, rfl, ?_⟩; have n_ := aC (hk.blk BK.out (by decide) NB.out) (aE (FM.out.call hi hk HG.out)); clear BK FM; obtain ⟨BK, FM⟩ := n_; clear hi hk; obtain ⟨z0, z1, z2, z3, y0, y1, y2, y3⟩ := cz4f BK.out) | (refine gF 77 35 Tryd.func77 #[.pointer (some ⟨g, 0, none⟩), .int .u8 (bt a1 i1)] rfl rfl ?_; refine (writeByte_calls g (b1 ++ [92]) (bt a1 i1) CB.out.1 CB.out.2 (by have := LM1.out; simp; omega) _ FM.out.1).mono ?_; rintro e w3 ⟨rfl, hi, hk⟩; refine ⟨_, rfl, ?_⟩; have n_ := aC (hk.blk BK.out (by decide) NB.out) (aE (FM.out.call hi hk HG.out)); clear BK FM; obtain ⟨BK, FM⟩ := n_; clear hi hk))
           go_roundg k1
           case measure => have := HK1.out; omega
           case rel => exact ⟨_, (wrap64 (i1 + 1)), rq, H', ⟨by have := HK1.out; omega⟩, BK, FM⟩
          ·rw [if_neg c5] at H
           have c5b0 := beq_eq_false_iff_ne.mpr c5
           clear c5
           by_cases c6 : bt a1 i1 = 92
           ·rw [if_pos c6] at H
            have c6b0 := beq_iff_eq.mpr c6
            clear c6
            have H' := aE H
            clear H
            go_wp2_with (first | (refine gF 77 29 Tryd.func77 #[.pointer (some ⟨g, 0, none⟩), .int .u8 92] rfl rfl ?_; refine (writeByte_calls g b1 92 (by decide) (by decide) (by have := LM1.out; omega) _ FM.out.1).mono ?_; rintro e w2 ⟨rfl, hi, hk⟩; refine ⟨_, rfl, ?_⟩; have n_ := aC (hk.blk BK.out (by decide) NB.out) (aE (FM.out.call hi hk HG.out)); clear BK FM; obtain ⟨BK, FM⟩ := n_; clear hi hk; obtain ⟨z0, z1, z2, z3, y0, y1, y2, y3⟩ := cz4f BK.out) | (refine gF 77 35 Tryd.func77 #[.pointer (some ⟨g, 0, none⟩), .int .u8 (bt a1 i1)] rfl rfl ?_; refine (writeByte_calls g (b1 ++ [92]) (bt a1 i1) CB.out.1 CB.out.2 (by have := LM1.out; simp; omega) _ FM.out.1).mono ?_; rintro e w3 ⟨rfl, hi, hk⟩; refine ⟨_, rfl, ?_⟩; have n_ := aC (hk.blk BK.out (by decide) NB.out) (aE (FM.out.call hi hk HG.out)); clear BK FM; obtain ⟨BK, FM⟩ := n_; clear hi hk))
            go_roundg k1
            case measure => have := HK1.out; omega
            case rel => exact ⟨_, (wrap64 (i1 + 1)), rq, H', ⟨by have := HK1.out; omega⟩, BK, FM⟩
           ·rw [if_neg c6] at H
            have c6b0 := beq_eq_false_iff_ne.mpr c6
            clear c6
            have H' := aE H
            clear H
            go_wp2_with (first | (refine gF 77 35 Tryd.func77 #[.pointer (some ⟨g, 0, none⟩), .int .u8 (bt a1 i1)] rfl rfl ?_; refine (writeByte_calls g b1 (bt a1 i1) CB.out.1 CB.out.2 (by have := LM1.out; omega) _ FM.out.1).mono ?_; rintro e w3 ⟨rfl, hi, hk⟩; refine ⟨_, rfl, ?_⟩; have n_ := aC (hk.blk BK.out (by decide) NB.out) (aE (FM.out.call hi hk HG.out)); clear BK FM; obtain ⟨BK, FM⟩ := n_; clear hi hk))
            go_roundg k1
            case measure => have := HK1.out; omega
            case rel => exact ⟨_, (wrap64 (i1 + 1)), rq, H', ⟨by have := HK1.out; omega⟩, BK, FM⟩
         ·rw [if_neg lm] at H
          exact absurd H (by simp)
        ·rw [if_neg c4] at H
         exact absurd H (by simp)
       ·by_cases lm : b1.length < 140737488355328
        ·rw [if_pos lm] at H
         have LM1 := aE lm
         obtain rfl := Option.some.inj H
         clear lm H
         go_wp2_with (first | (refine gF 77 38 Tryd.func77 #[.pointer (some ⟨g, 0, none⟩), .int .u8 34] rfl rfl ?_; refine (writeByte_calls g b1 34 (by decide) (by decide) LM1.out _ FM.out.1).mono ?_; rintro e w6 ⟨rfl, hi, hk⟩; refine ⟨_, rfl, ?_⟩; have n_ := aE (FM.out.call hi hk HG.out); clear FM; have FM := n_; clear hi hk))
         go_end0
         exact ⟨rfl, FM.out.1, FM.out.2.1⟩
        ·rw [if_neg lm] at H
         exact absurd H (by simp)
    ·rw [if_neg lm] at h
     exact absurd h (by simp)
def note_Format.f (k : Nat) (a0 : Int) (a1 : ByteArray) (a2 : Int) (l3 : List (S33)) : Option (ByteArray × Int) := (note_Valid.f k a0 a1 a2 l3).bind fun v => (if v = true then ((note_format.f k [] a0 a1 a2 l3).bind fun b => some (⟨b.toArray⟩, 0)) else some ((⟨#[]⟩ : ByteArray), 95))
theorem note_Format.mono : ∀ a0 a1 a2 a3 k, LeO (note_Format.f k a0 a1 a2 a3) (note_Format.f (k + 1) a0 a1 a2 a3) := by
 intro a0 a1 a2 a3 k
 unfold note_Format.f
 exact LeO.bind (note_Valid.mono _ _ _ _ k) (fun _ => LeO.ite (LeO.bind (note_format.mono _ _ _ _ _ k) (fun _ => LeO.refl _)) (LeO.refl _))
set_option maxHeartbeats 8000000 in
set_option maxRecDepth 100000 in
theorem note_Format.calls (k : Nat) (a0_0 : Int) (a0_1 : ByteArray) (a0_2 : Int) (A0_3 : Option Addr) (c0_3 : Nat) (l0_3 : List (S33)) (r1 : ByteArray) (r2 : Int) (w : World) (hT0 : TIs w) (hr0_3 : Kd.C k33 w A0_3 l0_3.length l0_3) (hc0_3 : l0_3.length ≤ c0_3) (h : note_Format.f k a0_0 a0_1 a0_2 l0_3 = some (r1, r2)) :
  Calls Tryd.prog 31 #[.agg #[.int .i64 a0_0, .string a0_1, .int .i64 a0_2, .slice A0_3 l0_3.length c0_3]] w fun e w' => e = .returned (.tuple #[.string r1, .int .i64 r2]) ∧ Below w.heap.size w w' := by
 have hu33 := Tryd.underlying33
 unfold note_Format.f at h
 obtain ⟨v, A1, h⟩ := oB h
 have HT := Aside0.mk hT0
 have HR0 := Aside0.mk hr0_3
 have HC0 := Aside0.mk hc0_3
 clear hr0_3 hc0_3 hT0
 have HB := Aside0.mk (Below.refl w.heap.size w)
 by_cases c : v = true
 ·rw [if_pos c] at h
  subst c
  obtain ⟨b, A2, h⟩ := oB h
  simp only [Option.some.injEq, Prod.mk.injEq] at h
  obtain ⟨rfl, rfl⟩ := h
  go_enter Tryd.func31, Tryd.ntmps31
  go_wp2_with (first | ((with_reducible refine gd 1 rfl ?_); refine bx 1 #[.int .i64 a0_0, .string a0_1, .int .i64 a0_2, .slice A0_3 l0_3.length c0_3] 33 rfl rfl ?_; intro gb hg_ w1 hbox hb; have n_ := aC (bs hb) (aE hbox); clear HB; obtain ⟨HB, BK⟩ := n_; clear hb hbox hg_; obtain ⟨z0, z1, z2, z3, y0, y1, y2, y3⟩ := cz4f BK.out) | (refine gF 33 6 Tryd.func33 #[.agg #[.int .i64 a0_0, .string a0_1, .int .i64 a0_2, .slice A0_3 l0_3.length c0_3]] rfl rfl ?_; refine (note_Valid.calls k a0_0 a0_1 a0_2 _ _ l0_3 true _ (Kd.C_below HR0.out HB.out) HC0.out A1.out).mono ?_; rintro e w2 ⟨rfl, hb⟩; refine ⟨_, rfl, ?_⟩; have n_ := aC (blk_below BK.out hb) (aE (bs hb)); clear BK HB; obtain ⟨BK, HB⟩ := n_; clear hb; obtain ⟨z0, z1, z2, z3, y0, y1, y2, y3⟩ := cz4f BK.out) | ((with_reducible refine gd 4 rfl ?_); refine bx 4 #[.pointer none, .slice none 0 0] 86 rfl rfl ?_; intro gs hg_ w3 hbox hb; have n_ := aC (gz hg_) (aC (bs hb) (aC (IsB.made hbox) (aC (blk_below BK.out hb) (aE (blk_lt_of hg_ BK.out))))); clear HB BK; obtain ⟨GE, HB, IB, BK, LT⟩ := n_; clear hb hbox hg_; obtain ⟨z0, z1, z2, z3, y0, y1, y2, y3⟩ := cz4f BK.out) | (refine gF 56 9 Tryd.func56 #[.pointer (some ⟨gs, 0, none⟩), .agg #[.int .i64 a0_0, .string a0_1, .int .i64 a0_2, .slice A0_3 l0_3.length c0_3]] rfl rfl ?_; refine (note_format.calls k gs [] a0_0 a0_1 a0_2 _ _ l0_3 b w _ HT.out GE.out HB.out IB.out HR0.out HC0.out A2.out).mono ?_; rintro e w4 ⟨rfl, hi, hk⟩; refine ⟨_, rfl, ?_⟩; have n_ := aC hi (aE (HB.out.trans (hk.1.mono GE.out))); clear IB HB BK; obtain ⟨IB, HB⟩ := n_; clear hi hk) | (refine gF 57 10 Tryd.func57 #[.pointer (some ⟨gs, 0, none⟩)] rfl rfl ?_; refine (builderString_calls gs b _ IB.out).mono ?_; rintro e w5 ⟨rfl, hk⟩; refine ⟨_, rfl, ?_⟩; have n_ := aE (HB.out.trans (hk.mono GE.out)); clear IB HB; have HB := n_; clear hk))
  go_ret2
  exact ⟨re, HB.out⟩
 ·rw [if_neg c] at h
  replace c := Bool.eq_false_iff.mpr c
  subst c
  simp only [Option.some.injEq, Prod.mk.injEq] at h
  obtain ⟨rfl, rfl⟩ := h
  go_enter Tryd.func31, Tryd.ntmps31
  go_wp2_with (first | ((with_reducible refine gd 1 rfl ?_); refine bx 1 #[.int .i64 a0_0, .string a0_1, .int .i64 a0_2, .slice A0_3 l0_3.length c0_3] 33 rfl rfl ?_; intro gb hg_ w1 hbox hb; have n_ := aC (bs hb) (aE hbox); clear HB; obtain ⟨HB, BK⟩ := n_; clear hb hbox hg_; obtain ⟨z0, z1, z2, z3, y0, y1, y2, y3⟩ := cz4f BK.out) | (refine gF 33 6 Tryd.func33 #[.agg #[.int .i64 a0_0, .string a0_1, .int .i64 a0_2, .slice A0_3 l0_3.length c0_3]] rfl rfl ?_; refine (note_Valid.calls k a0_0 a0_1 a0_2 _ _ l0_3 false _ (Kd.C_below HR0.out HB.out) HC0.out A1.out).mono ?_; rintro e w2 ⟨rfl, hb⟩; refine ⟨_, rfl, ?_⟩; have n_ := aE (bs hb); clear BK HB; have HB := n_; clear hb))
  go_ret2
  exact ⟨re, HB.out⟩
def incunablelaw25_Sane.f (k : Nat)  : Option (Bool) := (note_Format.f k 0 (⟨#[]⟩ : ByteArray) 0 (([(⟨1, (⟨#[97, 45, 49]⟩ : ByteArray), 0, ([] : List (S33))⟩ : S33), (⟨2, (⟨#[]⟩ : ByteArray), (-5), ([] : List (S33))⟩ : S33), (⟨3, (⟨#[34, 92]⟩ : ByteArray), 0, ([] : List (S33))⟩ : S33)] : List (S33)))).bind fun bt113 => (if bt113.2 = 0 then (some (bt113.1.toList == ([40, 97, 45, 49, 32, 45, 53, 32, 34, 92, 34, 92, 92, 34, 41] : List UInt8))) else (some false))
theorem incunablelaw25_Sane.mono : ∀ k, LeO (incunablelaw25_Sane.f k ) (incunablelaw25_Sane.f (k + 1) ) := by
 intro  k
 unfold incunablelaw25_Sane.f
 repeat' first
   | (with_reducible exact note_Format.mono _ _ _ _ _)
   | (with_reducible first | exact LeO.refl _ | exact LeO.none _ | refine LeO.ite ?_ ?_ | refine LeO.bind ?_ (fun _ => ?_))
set_option maxHeartbeats 8000000 in
set_option maxRecDepth 100000 in
theorem incunablelaw25_Sane.calls (k : Nat)  (r : Bool) (w : World) (hT0 : TIs w) (h : incunablelaw25_Sane.f k  = some r) :
  Calls Tryd.prog 11 #[] w fun e w' => e = .returned (.bool r) ∧ Below w.heap.size w w' := by
 have HTI := Aside0.mk hT0
 clear hT0
 have hu33 := Tryd.underlying33
 have HB := Aside0.mk (Below.refl w.heap.size w)
 have H := h
 unfold incunablelaw25_Sane.f at H
 clear h
 obtain ⟨y110, hy_⟩ : ∃ y_ : List (S33), y_ = (([(⟨1, (⟨#[97, 45, 49]⟩ : ByteArray), 0, ([] : List (S33))⟩ : S33), (⟨2, (⟨#[]⟩ : ByteArray), (-5), ([] : List (S33))⟩ : S33), (⟨3, (⟨#[34, 92]⟩ : ByteArray), 0, ([] : List (S33))⟩ : S33)] : List (S33))) := ⟨_, rfl⟩
 replace H : ((note_Format.f k 0 (⟨#[]⟩ : ByteArray) 0 y110).bind fun bt113 => (if bt113.2 = 0 then (some (bt113.1.toList == ([40, 97, 45, 49, 32, 45, 53, 32, 34, 92, 34, 92, 92, 34, 41] : List UInt8))) else (some false))) = some r := rh
 have Ny110 := aE hy_
 clear hy_
 obtain ⟨⟨t113, t114⟩, A1, H⟩ := oB H
 try dsimp only at H
 rcases iE H with H1 | H1 <;> clear H <;> obtain ⟨H, c2b0, c2b1, c2⟩ := H1
 ·obtain rfl := Option.some.inj H
  go_enter Tryd.func11, Tryd.ntmps11
  go_wp2_with (first | ((with_reducible refine gd 7 rfl ?_); refine Kd.R_lit k33 _ 33 ?hg (N := 7) ?hd (xs := ([(⟨1, (⟨#[97, 45, 49]⟩ : ByteArray), 0, ([] : List (S33))⟩ : S33), (⟨2, (⟨#[]⟩ : ByteArray), (-5), ([] : List (S33))⟩ : S33), (⟨3, (⟨#[34, 92]⟩ : ByteArray), 0, ([] : List (S33))⟩ : S33)] : List (S33))) (inner := [.int .i64 1, .string (⟨#[97, 45, 49]⟩ : ByteArray), .int .i64 0, .slice none 0 0, .int .i64 2, .string (⟨#[]⟩ : ByteArray), .int .i64 (-5), .slice none 0 0, .int .i64 3, .string (⟨#[34, 92]⟩ : ByteArray), .int .i64 0, .slice none 0 0]) (ok := fun _ => True) (okp := fun _ => True) ?hr ?hp (fun _ hk => hk) trivial (Below.refl _ _) (Nat.le_refl _) (by simp) ?_; (case hd => rfl); (case hg => rfl); (case hr => first | (go_simp; done) | (go_simp; rfl)); (case hp => exact (Reps.c4 (show Kd.M k33 _ _ _ (⟨1, (⟨#[97, 45, 49]⟩ : ByteArray), 0, ([] : List (S33))⟩ : S33) [.int .i64 1, .string (⟨#[97, 45, 49]⟩ : ByteArray), .int .i64 0, .slice none 0 0] from (k33_mkM _ _ _ (⟨1, (⟨#[97, 45, 49]⟩ : ByteArray), 0, ([] : List (S33))⟩ : S33) (Kd.R_nil _ _ _ _ _))) (Reps.c4 (show Kd.M k33 _ _ _ (⟨2, (⟨#[]⟩ : ByteArray), (-5), ([] : List (S33))⟩ : S33) [.int .i64 2, .string (⟨#[]⟩ : ByteArray), .int .i64 (-5), .slice none 0 0] from (k33_mkM _ _ _ (⟨2, (⟨#[]⟩ : ByteArray), (-5), ([] : List (S33))⟩ : S33) (Kd.R_nil _ _ _ _ _))) (Reps.c4 (show Kd.M k33 _ _ _ (⟨3, (⟨#[34, 92]⟩ : ByteArray), 0, ([] : List (S33))⟩ : S33) [.int .i64 3, .string (⟨#[34, 92]⟩ : ByteArray), .int .i64 0, .slice none 0 0] from (k33_mkM _ _ _ (⟨3, (⟨#[34, 92]⟩ : ByteArray), 0, ([] : List (S33))⟩ : S33) (Kd.R_nil _ _ _ _ _))) (Reps.none _ _))))); intro v111 w3 ho4 hb hg_ hnew_; clear hg_ hnew_; (first | rw [← Ny110.out] at ho4 | (simp only [Int.reduceToNat] at ho4; rw [← Ny110.out] at ho4)); have n_ := aC (Kd.R_lower ho4 bz) (aE (bs hb)); clear HB; obtain ⟨HO112, HB⟩ := n_; clear hb ho4; obtain ⟨Ao5, co5, eo5⟩ := Kd.R_slice HO112.out; subst eo5) | (refine gF 31 9 Tryd.func31 #[.agg #[.int .i64 0, .string (⟨#[]⟩ : ByteArray), .int .i64 0, .slice Ao5 y110.length co5]] rfl rfl ?_; (with_reducible refine (note_Format.calls k 0 (⟨#[]⟩ : ByteArray) 0 _ _ y110 t113 t114 _ (TIs.on HTI) ?side1 ?side2 A1.out).mono ?_); (case side1 => exact cU (Kd.R_reads' HO112.out).2.2); (case side2 => exact (Kd.R_reads' HO112.out).2.1); rintro e w6 ⟨rfl, hb⟩; refine ⟨_, rfl, ?_⟩; have n_ := aC (Kd.R_below (rU HO112.out) hb) (aE (bs hb)); clear HO112 HB; obtain ⟨HO112, HB⟩ := n_))
  go_ret
  exact ⟨re, bl⟩
 ·obtain rfl := Option.some.inj H
  go_enter Tryd.func11, Tryd.ntmps11
  go_wp2_with (first | ((with_reducible refine gd 7 rfl ?_); refine Kd.R_lit k33 _ 33 ?hg (N := 7) ?hd (xs := ([(⟨1, (⟨#[97, 45, 49]⟩ : ByteArray), 0, ([] : List (S33))⟩ : S33), (⟨2, (⟨#[]⟩ : ByteArray), (-5), ([] : List (S33))⟩ : S33), (⟨3, (⟨#[34, 92]⟩ : ByteArray), 0, ([] : List (S33))⟩ : S33)] : List (S33))) (inner := [.int .i64 1, .string (⟨#[97, 45, 49]⟩ : ByteArray), .int .i64 0, .slice none 0 0, .int .i64 2, .string (⟨#[]⟩ : ByteArray), .int .i64 (-5), .slice none 0 0, .int .i64 3, .string (⟨#[34, 92]⟩ : ByteArray), .int .i64 0, .slice none 0 0]) (ok := fun _ => True) (okp := fun _ => True) ?hr ?hp (fun _ hk => hk) trivial (Below.refl _ _) (Nat.le_refl _) (by simp) ?_; (case hd => rfl); (case hg => rfl); (case hr => first | (go_simp; done) | (go_simp; rfl)); (case hp => exact (Reps.c4 (show Kd.M k33 _ _ _ (⟨1, (⟨#[97, 45, 49]⟩ : ByteArray), 0, ([] : List (S33))⟩ : S33) [.int .i64 1, .string (⟨#[97, 45, 49]⟩ : ByteArray), .int .i64 0, .slice none 0 0] from (k33_mkM _ _ _ (⟨1, (⟨#[97, 45, 49]⟩ : ByteArray), 0, ([] : List (S33))⟩ : S33) (Kd.R_nil _ _ _ _ _))) (Reps.c4 (show Kd.M k33 _ _ _ (⟨2, (⟨#[]⟩ : ByteArray), (-5), ([] : List (S33))⟩ : S33) [.int .i64 2, .string (⟨#[]⟩ : ByteArray), .int .i64 (-5), .slice none 0 0] from (k33_mkM _ _ _ (⟨2, (⟨#[]⟩ : ByteArray), (-5), ([] : List (S33))⟩ : S33) (Kd.R_nil _ _ _ _ _))) (Reps.c4 (show Kd.M k33 _ _ _ (⟨3, (⟨#[34, 92]⟩ : ByteArray), 0, ([] : List (S33))⟩ : S33) [.int .i64 3, .string (⟨#[34, 92]⟩ : ByteArray), .int .i64 0, .slice none 0 0] from (k33_mkM _ _ _ (⟨3, (⟨#[34, 92]⟩ : ByteArray), 0, ([] : List (S33))⟩ : S33) (Kd.R_nil _ _ _ _ _))) (Reps.none _ _))))); intro v111 w7 ho8 hb hg_ hnew_; clear hg_ hnew_; (first | rw [← Ny110.out] at ho8 | (simp only [Int.reduceToNat] at ho8; rw [← Ny110.out] at ho8)); have n_ := aC (Kd.R_lower ho8 bz) (aE (bs hb)); clear HB; obtain ⟨HO112, HB⟩ := n_; clear hb ho8; obtain ⟨Ao9, co9, eo9⟩ := Kd.R_slice HO112.out; subst eo9) | (refine gF 31 9 Tryd.func31 #[.agg #[.int .i64 0, .string (⟨#[]⟩ : ByteArray), .int .i64 0, .slice Ao9 y110.length co9]] rfl rfl ?_; (with_reducible refine (note_Format.calls k 0 (⟨#[]⟩ : ByteArray) 0 _ _ y110 t113 t114 _ (TIs.on HTI) ?side1 ?side2 A1.out).mono ?_); (case side1 => exact cU (Kd.R_reads' HO112.out).2.2); (case side2 => exact (Kd.R_reads' HO112.out).2.1); rintro e w10 ⟨rfl, hb⟩; refine ⟨_, rfl, ?_⟩; have n_ := aC (Kd.R_below (rU HO112.out) hb) (aE (bs hb)); clear HO112 HB; obtain ⟨HO112, HB⟩ := n_))
  go_ret
  exact ⟨re, bl⟩
theorem want_ {c : Bool} {A B : Prop} (hc : c = true) (h : A) : if c = true then A else B := by rw [if_pos hc]; exact h
structure Pz where
 s : ByteArray
 at_ : Int
 vo : Value
 deep : Int
 many : Int
 done : Bool
 xk : Int
 xt : ByteArray
 xn : Int
 xv : Value
def Pz.cells (p : Pz) : Array Value := #[.string p.s, .int .i64 p.at_, p.vo, .int .i64 p.deep, .int .i64 p.many, .bool p.done, .int .i64 p.xk, .string p.xt, .int .i64 p.xn, p.xv]
def Pt (w0 w : World) (g : Nat) (p : Pz) (W : World) : Prop := W.heap[g]? = some (.cells p.cells 93 (0, 0)) ∧ KeepBut w W g none ∧ Below w0.heap.size w0 W ∧ w0.heap.size ≤ g
theorem Pt.at_S {w0 w W : World} {g : Nat} {p : Pz} (h : Pt w0 w g p W) (x : Int) : Pt w0 w g { p with at_ := x } (W.setCell ⟨g, 1, none⟩ (.int .i64 x)) := ⟨blk_put (cs := p.cells) h.1 1 _ rfl, h.2.1.set_ 1 _, below_set h.2.2.1 h.2.2.2, h.2.2.2⟩
theorem Pt.voS {w0 w W : World} {g : Nat} {p : Pz} (h : Pt w0 w g p W) (x : Value) : Pt w0 w g { p with vo := x } (W.setCell ⟨g, 2, none⟩ x) := ⟨blk_put (cs := p.cells) h.1 2 _ rfl, h.2.1.set_ 2 _, below_set h.2.2.1 h.2.2.2, h.2.2.2⟩
theorem Pt.deepS {w0 w W : World} {g : Nat} {p : Pz} (h : Pt w0 w g p W) (x : Int) : Pt w0 w g { p with deep := x } (W.setCell ⟨g, 3, none⟩ (.int .i64 x)) := ⟨blk_put (cs := p.cells) h.1 3 _ rfl, h.2.1.set_ 3 _, below_set h.2.2.1 h.2.2.2, h.2.2.2⟩
theorem Pt.manyS {w0 w W : World} {g : Nat} {p : Pz} (h : Pt w0 w g p W) (x : Int) : Pt w0 w g { p with many := x } (W.setCell ⟨g, 4, none⟩ (.int .i64 x)) := ⟨blk_put (cs := p.cells) h.1 4 _ rfl, h.2.1.set_ 4 _, below_set h.2.2.1 h.2.2.2, h.2.2.2⟩
theorem Pt.doneS {w0 w W : World} {g : Nat} {p : Pz} (h : Pt w0 w g p W) (x : Bool) : Pt w0 w g { p with done := x } (W.setCell ⟨g, 5, none⟩ (.bool x)) := ⟨blk_put (cs := p.cells) h.1 5 _ rfl, h.2.1.set_ 5 _, below_set h.2.2.1 h.2.2.2, h.2.2.2⟩
theorem Pt.xkS {w0 w W : World} {g : Nat} {p : Pz} (h : Pt w0 w g p W) (x : Int) : Pt w0 w g { p with xk := x } (W.setCell ⟨g, 6, none⟩ (.int .i64 x)) := ⟨blk_put (cs := p.cells) h.1 6 _ rfl, h.2.1.set_ 6 _, below_set h.2.2.1 h.2.2.2, h.2.2.2⟩
theorem Pt.xtS {w0 w W : World} {g : Nat} {p : Pz} (h : Pt w0 w g p W) (x : ByteArray) : Pt w0 w g { p with xt := x } (W.setCell ⟨g, 7, none⟩ (.string x)) := ⟨blk_put (cs := p.cells) h.1 7 _ rfl, h.2.1.set_ 7 _, below_set h.2.2.1 h.2.2.2, h.2.2.2⟩
theorem Pt.xnS {w0 w W : World} {g : Nat} {p : Pz} (h : Pt w0 w g p W) (x : Int) : Pt w0 w g { p with xn := x } (W.setCell ⟨g, 8, none⟩ (.int .i64 x)) := ⟨blk_put (cs := p.cells) h.1 8 _ rfl, h.2.1.set_ 8 _, below_set h.2.2.1 h.2.2.2, h.2.2.2⟩
theorem Pt.xvS {w0 w W : World} {g : Nat} {p : Pz} (h : Pt w0 w g p W) (x : Value) : Pt w0 w g { p with xv := x } (W.setCell ⟨g, 9, none⟩ x) := ⟨blk_put (cs := p.cells) h.1 9 _ rfl, h.2.1.set_ 9 _, below_set h.2.2.1 h.2.2.2, h.2.2.2⟩
theorem Pt.cz {w0 w W : World} {g : Nat} {p : Pz} (h : Pt w0 w g p W) : W.cell? ⟨g, 0, none⟩ = some (.string p.s) ∧ W.cell? ⟨g, 1, none⟩ = some (.int .i64 p.at_) ∧ W.cell? ⟨g, 2, none⟩ = some p.vo ∧ W.cell? ⟨g, 3, none⟩ = some (.int .i64 p.deep) ∧ W.cell? ⟨g, 4, none⟩ = some (.int .i64 p.many) ∧ W.cell? ⟨g, 5, none⟩ = some (.bool p.done) ∧ W.cell? ⟨g, 6, none⟩ = some (.int .i64 p.xk) ∧ W.cell? ⟨g, 7, none⟩ = some (.string p.xt) ∧ W.cell? ⟨g, 8, none⟩ = some (.int .i64 p.xn) ∧ W.cell? ⟨g, 9, none⟩ = some p.xv := ⟨(blk_cell h.1 0).trans rfl, (blk_cell h.1 1).trans rfl, (blk_cell h.1 2).trans rfl, (blk_cell h.1 3).trans rfl, (blk_cell h.1 4).trans rfl, (blk_cell h.1 5).trans rfl, (blk_cell h.1 6).trans rfl, (blk_cell h.1 7).trans rfl, (blk_cell h.1 8).trans rfl, (blk_cell h.1 9).trans rfl⟩
theorem Pt.cf {w0 w W : World} {g : Nat} {p : Pz} (h : Pt w0 w g p W) : W.frozen? ⟨g, 0, none⟩ = false ∧ W.frozen? ⟨g, 1, none⟩ = false ∧ W.frozen? ⟨g, 2, none⟩ = false ∧ W.frozen? ⟨g, 3, none⟩ = false ∧ W.frozen? ⟨g, 4, none⟩ = false ∧ W.frozen? ⟨g, 5, none⟩ = false ∧ W.frozen? ⟨g, 6, none⟩ = false ∧ W.frozen? ⟨g, 7, none⟩ = false ∧ W.frozen? ⟨g, 8, none⟩ = false ∧ W.frozen? ⟨g, 9, none⟩ = false := ⟨blk_frozen h.1 0, blk_frozen h.1 1, blk_frozen h.1 2, blk_frozen h.1 3, blk_frozen h.1 4, blk_frozen h.1 5, blk_frozen h.1 6, blk_frozen h.1 7, blk_frozen h.1 8, blk_frozen h.1 9⟩
theorem Pt.lt {w0 w W : World} {g : Nat} {p : Pz} (h : Pt w0 w g p W) : g < W.heap.size := blk_lt h.1
theorem Pt.below {w0 w W W1 : World} {g : Nat} {p : Pz} (h : Pt w0 w g p W) (hb : Below W.heap.size W W1) : Pt w0 w g p W1 :=
 ⟨blk_below h.1 hb, h.2.1.trans (KeepBut.of_below hb g none) (.inl rfl), below_step h.2.2.1 hb, h.2.2.2⟩
theorem Pt.call {w0 w W W1 : World} {g : Nat} {p q : Pz} (h : Pt w0 w g p W) (h1 : Pt w0 W g q W1) : Pt w0 w g q W1 := ⟨h1.1, h.2.1.trans h1.2.1 (.inl rfl), h1.2.2.1, h.2.2.2⟩
theorem Pt.grown {w0 w W W1 : World} {g : Nat} {p : Pz} {row : Option Nat} (h : Pt w0 w g p W) (hg : W.grownBy W1 row) (hrow : ∀ b, row = some b → w.heap.size ≤ b) (hlt : g < w.heap.size) : Pt w0 w g p W1 := by
 have hg0 := h.2.2.2
 refine ⟨(hg.block g (blk_lt h.1) (fun e => by have := hrow g e.symm; omega)).trans h.1, h.2.1.trans (KeepBut.of_grown hg g) ?_, h.2.2.1.grown hg h.2.2.1.size (fun k e => by have := hrow k e; omega), hg0⟩
 cases row with
 | none => exact .inl rfl
 | some b => exact .inr ⟨b, rfl, hrow b rfl⟩
theorem R_keepG {α : Type} {d : Kd α} {e base g : Nat} {ok : Nat → Prop} {W W1 : World} {v : Value} {xs : List α} (h : d.R e W base ok v xs) (hk : KeepBut W W1 g none) (hg : g < base) : d.R e W1 base ok v xs :=
 Kd.R_mono (Kd.R_move (Kd.R_bound h) (fun k hk' => hk.2 k hk'.2.2.1 (by have := hk'.2.1; omega) (by simp))) (fun _ h => h.1)
theorem Pt.now {w0 w W : World} {g : Nat} {p : Pz} (h : Pt w0 w g p W) : Pt w0 W g p W := ⟨h.1, KeepBut.refl _ _ _, h.2.2.1, h.2.2.2⟩
theorem Pt.drew {w0 w W : World} {g : Nat} {p : Pz} (h : Pt w0 w g p W) : Pt w0 w g p W.drew := h.below (below_drew1 (Below.refl _ _))
def note_parser_spaces.f : Nat → ByteArray → Int → Option Int
 | 0, _, _ => none
 | k + 1, s, i => if i < (s.size : Int) then (if 0 ≤ i then ((strings_IndexByte.f (⟨#[32, 9, 10]⟩ : ByteArray) (bt s i)).bind fun t => if t ≥ 0 then note_parser_spaces.f k s (wrap64 (i + 1)) else some i) else none) else some i
theorem note_parser_spaces.mono : ∀ k s i, LeO (note_parser_spaces.f k s i) (note_parser_spaces.f (k + 1) s i)
 | 0 => fun _ _ r h => by simp [note_parser_spaces.f] at h
 | k + 1 => by
  intro s i
  unfold note_parser_spaces.f
  exact LeO.ite (LeO.ite (LeO.bind (LeO.refl _) (fun _ => LeO.ite (note_parser_spaces.mono k _ _) (LeO.refl _))) (LeO.refl _)) (LeO.refl _)
def note_parser_spaces.T0 : Bool × List (List Nat × List Nat) := (true, [([], []), ([0], [0]), ([1], [1]), ([2], [2]), ([], []), ([4], [4]), ([5], [5]), ([6], [6]), ([7], [7]), ([3, 8], [3, 8]), ([9], [9]), ([10], [10]), ([11, 10], [10, 11]), ([12, 10], [10, 12]), ([13, 10], [10, 13]), ([10], [10]), ([15, 10], [10, 15]), ([16, 10], [10, 16]), ([17, 10], [10, 17]), ([14, 18, 10], [10, 14, 18]), ([19, 10, 10], [10, 19]), ([20, 10], [10, 20]), ([10, 21], [10, 21])])
def note_parser_spaces.B0 : List Nat := [0, 1, 3, 7, 0, 16, 48, 112, 240, 511, 1023, 2047, 4095, 8191, 16383, 2047, 34815, 100351, 231423, 524287, 1048575, 2097151, 4194303]
theorem note_parser_spaces.tab0 : rtab .any (opsOf Tryd.f62 0) = note_parser_spaces.T0 := by kernel_rfl
theorem note_parser_spaces.bits0 : waitsOk note_parser_spaces.T0.2 note_parser_spaces.B0 = true := by kernel_rfl
set_option maxHeartbeats 8000000 in
set_option maxRecDepth 100000 in
theorem note_parser_spaces.calls (k : Nat) (g : Nat) (p : Pz) (r : Int) (w0 w : World) (hI : Pt w0 w g p w) (h : note_parser_spaces.f k p.s p.at_ = some r) :
  Calls Tryd.prog 62 #[.pointer (some ⟨g, 0, none⟩)] w fun e w' => e = .returned (.tuple #[]) ∧ Pt w0 w g { p with at_ := r } w' := by
 have hu := Tryd.underlying93
 have HI := Aside0.mk hI
 have H' := Aside0.mk h
 clear hI h
 go_enter Tryd.func62, Tryd.ntmps62
 go_wp2
 go_loopg [] k (fun kq w' => ∃ (i1 : Int), Aside0 (note_parser_spaces.f kq p.s i1 = some r) ∧ Aside0 (kq ≤ k) ∧ Aside0 (Pt w0 w g { p with at_ := i1 } w'))
 case atStart => exact ⟨p.at_, H', ⟨Nat.le_refl _⟩, HI⟩
 case round =>
  clear H' HI
  obtain ⟨i1, HA, HK1, HI⟩ := hrel
  cases gk with
  | zero => exact absurd HA.out (by simp [note_parser_spaces.f])
  | succ k1 =>
   have H := HA.out
   clear HA
   simp only [note_parser_spaces.f] at H
   have HQ := aE HI.out.drew
   clear HI
   have HI := HQ
   clear HQ
   obtain ⟨z0, z1, z2, z3, z4, z5, z6, z7, z8, z9⟩ := HI.out.cz
   obtain ⟨y0, y1, y2, y3, y4, y5, y6, y7, y8, y9⟩ := HI.out.cf
   by_cases c1 : i1 < (p.s.size : Int)
   ·rw [if_pos c1] at H
    have b1 := decide_eq_true c1
    by_cases c2 : 0 ≤ i1
    ·rw [if_pos c2] at H
     obtain ⟨t, A1, H⟩ := oB H
     have hx := bt_at p.s i1
     replace c1 := eq_true c1
     replace c2 := eq_true c2
     go_wp2
     refine st 23 (fun w' => w'.cell? ⟨g, 0, none⟩ = some (.string p.s) ∧ w'.cell? ⟨g, 1, none⟩ = some (.int .i64 i1)) [] (bv 23 0) note_parser_spaces.tab0 note_parser_spaces.bits0 ⟨z0, z1⟩ (fun hHeld HT_ HW_ => ?_)
     clear z0 z1 z2 z3 z4 z5 z6 z7 z8 z9
     generalize wr.drew = w1 at HI hHeld ⊢
     refine pu 0 2 (bv 23 1) HT_ rfl rfl ?_
     refine pu 1 3 (bv 23 3) HT_ rfl rfl ?_
     refine pu 2 4 (bv 23 7) HT_ rfl rfl ?_
     refine tk 3 5 (bv 23 15) HT_ HW_ hHeld rfl rfl (by rintro w' ⟨s0, s1⟩; exact yl) ?_
     refine pu 4 6 (bv 23 31) HT_ rfl rfl ?_
     refine pu 5 7 (bv 23 63) HT_ rfl rfl ?_
     refine pu 6 8 (bv 23 127) HT_ rfl rfl ?_
     refine tk 7 9 (bv 23 255) HT_ HW_ hHeld rfl rfl (by rintro w' ⟨s0, s1⟩; exact yl) ?_
     refine pu 8 10 (bv 23 511) HT_ rfl rfl ?_
     refine pu 9 11 (bv 23 1023) HT_ rfl rfl ?_
     refine pu 10 12 (bv 23 2047) HT_ rfl rfl ?_
     refine pu 11 13 (bv 23 4095) HT_ rfl rfl ?_
     refine pu 12 14 (bv 23 8191) HT_ rfl rfl ?_
     refine pu 13 15 (bv 23 16383) HT_ rfl rfl ?_
     refine tk 14 16 (bv 23 32767) HT_ HW_ hHeld rfl rfl (by rintro w' ⟨s0, s1⟩; exact yl) ?_
     refine pu 15 17 (bv 23 65535) HT_ rfl rfl ?_
     refine pu 16 18 (bv 23 131071) HT_ rfl rfl ?_
     refine pu 17 19 (bv 23 262143) HT_ rfl rfl ?_
     refine tk 18 20 (bv 23 524287) HT_ HW_ hHeld rfl rfl (by rintro w' ⟨s0, s1⟩; exact yl) ?_
     refine pu 19 21 (bv 23 1048575) HT_ rfl rfl ?_
     refine one_ (i := 20) (N := some 22) (bv 23 2097151) rfl rfl (one_of HT_.out (by kernel_rfl)) (by decide) (fun K hK => ?_)
     refine gK Tryd.func83 rfl #[.string (⟨#[32, 9, 10]⟩ : ByteArray), .int .u8 (bt p.s i1)] rfl rfl ?_
     refine (strings_IndexByte.calls (⟨#[32, 9, 10]⟩ : ByteArray) (bt p.s i1) t _ A1.out).mono ?_
     rintro e_ w2 ⟨rfl, hb⟩
     refine ⟨_, rfl, ?_⟩
     have HQ := aE (HI.out.below hb)
     clear HI hb y0 y1 y2 y3 y4 y5 y6 y7 y8 y9
     have HI := HQ
     clear HQ
     obtain ⟨z0, z1, z2, z3, z4, z5, z6, z7, z8, z9⟩ := HI.out.cz
     obtain ⟨y0, y1, y2, y3, y4, y5, y6, y7, y8, y9⟩ := HI.out.cf
     refine hK.out _ _ ⟨z0, z1⟩ (fun hHeld => ?_)
     clear hK K
     refine nm (some 22) ?_
     by_cases c3 : t ≥ 0
     ·rw [if_pos c3] at H
      have H' := aE H
      have c3' : 0 ≤ t := c3
      have b3 := decide_eq_true c3'
      clear H c3
      refine pu 21 23 (bv 23 4194303) HT_ rfl rfl ?_
      refine pu 22 24 (bv 23 8388607) HT_ rfl rfl ?_
      refine done_ (done_of HT_.out (by kernel_rfl)) ?_
      clear hHeld HT_ HW_
      have HQ := aE (HI.out.at_S (wrap64 (i1 + 1)))
      go_wp2
      go_roundg k1
      case measure => have := HK1.out; omega
      case rel => exact ⟨wrap64 (i1 + 1), H', ⟨by have := HK1.out; omega⟩, HQ⟩
     ·rw [if_neg c3] at H
      obtain rfl := Option.some.inj H
      have c3' : ¬ 0 ≤ t := c3
      have b3 := decide_eq_false c3'
      clear H c3
      refine pu 21 23 (bv 23 4194303) HT_ rfl rfl ?_
      refine pu 22 24 (bv 23 8388607) HT_ rfl rfl ?_
      refine done_ (done_of HT_.out (by kernel_rfl)) ?_
      clear hHeld HT_ HW_
      go_wp2
      go_end0
      exact ⟨rfl, HI.out⟩
    ·rw [if_neg c2] at H
     exact absurd H (by simp)
   ·rw [if_neg c1] at H
    have b1 := decide_eq_false c1
    obtain rfl := Option.some.inj H
    clear H c1
    go_wp2
    refine st 23 (fun w' => w'.cell? ⟨g, 0, none⟩ = some (.string p.s) ∧ w'.cell? ⟨g, 1, none⟩ = some (.int .i64 i1)) [] (bv 23 0) note_parser_spaces.tab0 note_parser_spaces.bits0 ⟨z0, z1⟩ (fun hHeld HT_ HW_ => ?_)
    clear z0 z1 z2 z3 z4 z5 z6 z7 z8 z9
    generalize wr.drew = w1 at HI hHeld ⊢
    refine pu 0 2 (bv 23 1) HT_ rfl rfl ?_
    refine pu 1 3 (bv 23 3) HT_ rfl rfl ?_
    refine pu 2 4 (bv 23 7) HT_ rfl rfl ?_
    refine tk 3 5 (bv 23 15) HT_ HW_ hHeld rfl rfl (by rintro w' ⟨s0, s1⟩; exact yl) ?_
    refine pu 4 6 (bv 23 31) HT_ rfl rfl ?_
    refine pu 5 7 (bv 23 63) HT_ rfl rfl ?_
    refine pu 6 8 (bv 23 127) HT_ rfl rfl ?_
    refine tk 7 9 (bv 23 255) HT_ HW_ hHeld rfl rfl (by rintro w' ⟨s0, s1⟩; exact yl) ?_
    refine pu 8 10 (bv 23 511) HT_ rfl rfl ?_
    refine pu 9 11 (bv 23 1023) HT_ rfl rfl ?_
    refine pu 10 12 (bv 23 2047) HT_ rfl rfl ?_
    refine pn 11 13 (bv 23 4095) HT_ rfl rfl ?_
    refine pn 12 14 (bv 23 8191) HT_ rfl rfl ?_
    refine pn 13 15 (bv 23 16383) HT_ rfl rfl ?_
    refine pn 14 16 (bv 23 32767) HT_ rfl rfl ?_
    refine pn 15 17 (bv 23 65535) HT_ rfl rfl ?_
    refine pn 16 18 (bv 23 131071) HT_ rfl rfl ?_
    refine pn 17 19 (bv 23 262143) HT_ rfl rfl ?_
    refine pn 18 20 (bv 23 524287) HT_ rfl rfl ?_
    refine pn 19 21 (bv 23 1048575) HT_ rfl rfl ?_
    refine pn 20 22 (bv 23 2097151) HT_ rfl rfl ?_
    refine pn 21 23 (bv 23 4194303) HT_ rfl rfl ?_
    refine pu 22 24 (bv 23 8388607) HT_ rfl rfl ?_
    refine done_ (done_of HT_.out (by kernel_rfl)) ?_
    clear hHeld HT_ HW_
    obtain ⟨z0, z1, z2, z3, z4, z5, z6, z7, z8, z9⟩ := HI.out.cz
    go_wp2
    go_end0
    exact ⟨rfl, HI.out⟩
def note_parser_begins.T2 : Bool × List (List Nat × List Nat) := (true, [([], []), ([], []), ([1], [1]), ([2], [2]), ([3], [3]), ([], []), ([5], [5]), ([6], [6]), ([7], [7]), ([8], [8]), ([9], [9]), ([4, 10], [4, 10]), ([0, 0, 1, 2, 3, 4, 5, 6, 7, 8, 9, 10, 11], [0]), ([12, 0, 1, 2, 3, 4, 5, 6, 7, 8, 9, 10, 11], [12]), ([13, 11, 0, 1, 2, 3, 4, 5, 6, 7, 8, 9, 10, 11], [11, 13])])
def note_parser_begins.B2 : List Nat := [0, 0, 2, 6, 14, 0, 32, 96, 224, 480, 992, 2046, 4095, 8191, 16383]
theorem note_parser_begins.tab2 : rtab .any (opsOf Tryd.f85 2) = note_parser_begins.T2 := by kernel_rfl
theorem note_parser_begins.bits2 : waitsOk note_parser_begins.T2.2 note_parser_begins.B2 = true := by kernel_rfl
set_option maxHeartbeats 8000000 in
set_option maxRecDepth 100000 in
theorem note_parser_begins.calls (g : Nat) (p : Pz) (A : Option Addr) (n c : Nat) (w0 w : World) (hI : Pt w0 w g p w) (hv : p.vo = .slice A n c) (hn : n ≤ 1000000) :
  Calls Tryd.prog 85 #[.pointer (some ⟨g, 0, none⟩)] w fun e w' => e = .returned (.bool (!p.done)) ∧ Pt w0 w g { p with many := wrap64 (p.many + 1), deep := mx p.deep ((n : Int) + 1) } w' := by
 have hu := Tryd.underlying93
 have HI := Aside0.mk hI
 clear hI
 obtain ⟨z0, z1, z2, z3, z4, z5, z6, z7, z8, z9⟩ := HI.out.cz
 obtain ⟨y0, y1, y2, y3, y4, y5, y6, y7, y8, y9⟩ := HI.out.cf
 rw [hv] at z2
 go_enter Tryd.func85, Tryd.ntmps85
 go_wp2
 have HQ := aE (HI.out.manyS (wrap64 (p.many + 1))).drew
 clear HI z0 z1 z2 z3 z4 z5 z6 z7 z8 z9 y0 y1 y2 y3 y4 y5 y6 y7 y8 y9
 have HI := HQ
 clear HQ
 obtain ⟨z0, z1, z2, z3, z4, z5, z6, z7, z8, z9⟩ := HI.out.cz
 obtain ⟨y0, y1, y2, y3, y4, y5, y6, y7, y8, y9⟩ := HI.out.cf
 rw [show ({ p with many := wrap64 (p.many + 1) } : Pz).vo = .slice A n c from hv] at z2
 have ew : wrap64 ((n : Int) + 1) = (n : Int) + 1 := by unfold wrap64; omega
 refine st 15 (fun w' => w'.cell? ⟨g, 2, none⟩ = some (.slice A n c) ∧ w'.cell? ⟨g, 3, none⟩ = some (.int .i64 p.deep)) [14] (bv 15 0) note_parser_begins.tab2 note_parser_begins.bits2 ⟨z2, z3⟩ (fun hHeld HT_ HW_ => ?_)
 clear z0 z1 z2 z3 z4 z5 z6 z7 z8 z9
 generalize World.drew _ = w1 at HI hHeld ⊢
 refine pu 0 10 (bv 15 1) HT_ rfl rfl ?_
 refine pu 1 11 (bv 15 3) HT_ rfl rfl ?_
 refine pu 2 12 (bv 15 7) HT_ rfl rfl ?_
 refine pu 3 13 (bv 15 15) HT_ rfl rfl ?_
 refine tk 4 14 (bv 15 31) HT_ HW_ hHeld rfl rfl (by rintro w' ⟨s2, s3⟩; exact yl) ?_
 refine pu 5 15 (bv 15 63) HT_ rfl rfl ?_
 refine pu 6 16 (bv 15 127) HT_ rfl rfl ?_
 refine pu 7 17 (bv 15 255) HT_ rfl rfl ?_
 refine tk 8 18 (bv 15 511) HT_ HW_ hHeld rfl rfl (by rintro w' ⟨s2, s3⟩; exact yl) ?_
 refine pu 9 19 (bv 15 1023) HT_ rfl rfl ?_
 refine pu 10 20 (bv 15 2047) HT_ rfl rfl ?_
 refine pu 11 21 (bv 15 4095) HT_ rfl rfl ?_
 refine pu 12 22 (bv 15 8191) HT_ rfl rfl ?_
 refine pu 13 23 (bv 15 16383) HT_ rfl rfl ?_
 refine last_ (i := 14) (N := none) (bv 15 32767) rfl rfl (one_of HT_.out (by kernel_rfl)) (by decide) (fun K hK => ?_)
 refine want_ (by rfl) ?_
 obtain ⟨z0, z1, z2, z3, z4, z5, z6, z7, z8, z9⟩ := HI.out.cz
 obtain ⟨y0, y1, y2, y3, y4, y5, y6, y7, y8, y9⟩ := HI.out.cf
 unfold Oper.wp
 go_simp
 refine hK.out _ _ ?_
 clear hK K
 refine done_ (done_of HT_.out (by kernel_rfl)) ?_
 clear hHeld HT_ HW_
 obtain ⟨md, hmd⟩ : ∃ m, m = mx p.deep ((n : Int) + 1) := ⟨_, rfl⟩
 rw [show (if p.deep < (n : Int) + 1 then (n : Int) + 1 else p.deep) = md from hmd.symm]
 have HQ := aE (HI.out.deepS md)
 clear HI
 have HI := HQ
 clear HQ
 go_wp2
 go_ret
 subst hmd
 have hh := HI.out
 rw [hv] at hh
 exact ⟨re, hh⟩
end Go.Proofs.YtacdchogjpeffaaDoor.PNoteParses
