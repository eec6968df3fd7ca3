-- printed (wip/tools/myprint.py)
import Derived.Test.YtacdchogjpeffaaDoorPNoteFormatsx0
import Derived.Test.YtacdchogjpeffaaDoorPNoteFormatsx1
namespace Go.Proofs.YtacdchogjpeffaaDoor.PNoteFormats
open Go.RowKit Go.Proofs.YtacdchogjpeffaaDoorW.PrintWords Go.Proofs.YtacdchogjpeffaaDoorW.PrintLast Go.Proofs.YtacdchogjpeffaaDoorW.PrintMore
attribute [local go_sem] max2_int min2_int max_two min_two max_three min_three max_four min_four
set_option linter.unusedVariables false
set_option linter.unusedSimpArgs false
def Fm (g : Nat) (w0 w : World) (bs : List UInt8) (W : World) : Prop := IsB g bs W ∧ Bk g w W ∧ Below w0.heap.size w0 W
theorem Fm.below {g : Nat} {w0 w W W' : World} {bs : List UInt8} (h : Fm g w0 w bs W) (hb : Below W.heap.size W W') : Fm g w0 w bs W' :=
 ⟨h.1.below hb, h.2.1.trans (Bk.of_below (Nat.le_of_lt h.1.lt) hb), below_step h.2.2 hb⟩
theorem Fm.call {g : Nat} {w0 w W W' : World} {bs bs' : List UInt8} (h : Fm g w0 w bs W) (hi : IsB g bs' W') (hk : Bk g W W') (hg : w0.heap.size ≤ g) : Fm g w0 w bs' W' :=
 ⟨hi, h.2.1.trans hk, h.2.2.trans (hk.1.mono hg)⟩
theorem Fm.put {g b j : Nat} {w0 w W : World} {bs : List UInt8} {cs : Array Value} {t : TypeId} {fz : Nat × Nat} (h : Fm g w0 w bs W) (hb : W.heap[b]? = some (.cells cs t fz)) (ht : t ≠ 5) (hn : b ≠ g) (hw : w.heap.size ≤ b) (hg : g ≤ b) (h0 : w0.heap.size ≤ b) (u : Value) : Fm g w0 w bs (W.setCell ⟨b, j, none⟩ u) := by
 refine ⟨h.1.put hb ht hn u, ⟨h.2.1.1.setCell hg _, fun k o hk hk1 hk2 => ?_⟩, below_set h.2.2 h0⟩
 have hlt := (Array.getElem?_eq_some_iff.1 hk).1
 exact (Below.heap_setCell W ⟨b, j, none⟩ u k (by show k ≠ b; omega)).trans (h.2.1.2 k o hk hk1 hk2)
theorem Fm.fill {g b : Nat} {w0 w W : World} {bs : List UInt8} {c0 c1 c2 c3 : Value} {t : TypeId} (h : Fm g w0 w bs W) (hb : W.heap[b]? = some (.cells #[c0, c1, c2, c3] t (0, 0))) (ht : t ≠ 5) (hn : b ≠ g) (hw : w.heap.size ≤ b) (hg : g ≤ b) (h0 : w0.heap.size ≤ b) (u0 u1 u2 u3 : Value) :
  Fm g w0 w bs ((((W.setCell ⟨b, 0, none⟩ u0).setCell ⟨b, 1, none⟩ u1).setCell ⟨b, 2, none⟩ u2).setCell ⟨b, 3, none⟩ u3) ∧ ((((W.setCell ⟨b, 0, none⟩ u0).setCell ⟨b, 1, none⟩ u1).setCell ⟨b, 2, none⟩ u2).setCell ⟨b, 3, none⟩ u3).heap[b]? = some (.cells #[u0, u1, u2, u3] t (0, 0)) := by
 have b1 := blk_put (cs := #[c0, c1, c2, c3]) hb 0 u0 rfl
 have b2 := blk_put (cs := #[u0, c1, c2, c3]) b1 1 u1 rfl
 have b3 := blk_put (cs := #[u0, u1, c2, c3]) b2 2 u2 rfl
 exact ⟨(((h.put hb ht hn hw hg h0 u0).put b1 ht hn hw hg h0 u1).put b2 ht hn hw hg h0 u2).put b3 ht hn hw hg h0 u3, blk_put (cs := #[u0, u1, u2, c3]) b3 3 u3 rfl⟩
def note_format.q0 : Nat → List UInt8 → ByteArray → Int → Option (List UInt8)
 | 0, _, _, _ => none
 | k + 1, bs, s, i => if i < (s.size : Int) then (if 0 ≤ i then (if bs.length + 1 < 140737488355328 then (if bt s i = 34 then note_format.q0 k (bs ++ [92] ++ [UInt8.ofNat (bt s i).toNat]) s (wrap64 (i + 1)) else (if bt s i = 92 then note_format.q0 k (bs ++ [92] ++ [UInt8.ofNat (bt s i).toNat]) s (wrap64 (i + 1)) else note_format.q0 k (bs ++ [UInt8.ofNat (bt s i).toNat]) s (wrap64 (i + 1)))) else none) else none) else (if bs.length < 140737488355328 then some (bs ++ [34]) else none)
mutual
def note_format.l0 : Nat → List UInt8 → List (S33) → Int → Option (List UInt8)
 | 0, _, _, _ => none
 | k + 1, bs, l, i => if i < (l.length : Int) then (if 0 ≤ i then (if i > 0 then (if bs.length < 140737488355328 then ((note_format.f k (bs ++ [32]) ((rd_T33 l i).f0) ((rd_T33 l i).f1) ((rd_T33 l i).f2) ((rd_T33 l i).f3)).bind fun b => note_format.l0 k b l (wrap64 (i + 1))) else none) else ((note_format.f k bs ((rd_T33 l i).f0) ((rd_T33 l i).f1) ((rd_T33 l i).f2) ((rd_T33 l i).f3)).bind fun b => note_format.l0 k b l (wrap64 (i + 1)))) else none) else (if bs.length < 140737488355328 then some (bs ++ [41]) else none)
def note_format.f : Nat → List UInt8 → Int → ByteArray → Int → List (S33) → Option (List UInt8)
 | 0, _, _, _, _, _ => none
 | k + 1, bs, a0, a1, a2, l3 => if a0 = 0 then (if bs.length < 140737488355328 then note_format.l0 k (bs ++ [40]) l3 0 else none) else (if a0 = 2 then ((strconv_Itoa_79.f a2).bind fun s => if bs.length + s.size ≤ 140737488355328 then some (bs ++ s.data.toList) else none) else (if a0 = 1 then (if bs.length + a1.size ≤ 140737488355328 then some (bs ++ a1.data.toList) else none) else (if bs.length < 140737488355328 then note_format.q0 k (bs ++ [34]) a1 0 else none)))
end
theorem note_format.q0_mono : ∀ k bs s i, LeO (note_format.q0 k bs s i) (note_format.q0 (k + 1) bs s i)
 | 0 => fun _ _ _ r h => by simp [note_format.q0] at h
 | k + 1 => by
  intro bs s i
  unfold note_format.q0
  exact LeO.ite (LeO.ite (LeO.ite (LeO.ite (note_format.q0_mono k _ _ _) (LeO.ite (note_format.q0_mono k _ _ _) (note_format.q0_mono k _ _ _))) (LeO.refl _)) (LeO.refl _)) (LeO.refl _)
theorem note_format.mono_l : ∀ k, (∀ y0 y1 y2, LeO (note_format.l0 k y0 y1 y2) (note_format.l0 (k + 1) y0 y1 y2)) ∧ (∀ y0 y1 y2 y3 y4, LeO (note_format.f k y0 y1 y2 y3 y4) (note_format.f (k + 1) y0 y1 y2 y3 y4))
 | 0 => ⟨fun _ _ _ r h => by simp [note_format.l0] at h, fun _ _ _ _ _ r h => by simp [note_format.f] at h⟩
 | k + 1 => by
  obtain ⟨ih0, ih1⟩ := note_format.mono_l k
  refine ⟨fun y0 y1 y2 => ?_, fun y0 y1 y2 y3 y4 => ?_⟩
  ·unfold note_format.l0
   exact LeO.ite (LeO.ite (LeO.ite (LeO.ite (LeO.bind (ih1 _ _ _ _ _) (fun _ => ih0 _ _ _)) (LeO.refl _)) (LeO.bind (ih1 _ _ _ _ _) (fun _ => ih0 _ _ _))) (LeO.refl _)) (LeO.refl _)
  ·unfold note_format.f
   exact LeO.ite (LeO.ite (ih0 _ _ _) (LeO.refl _)) (LeO.ite (LeO.refl _) (LeO.ite (LeO.refl _) (LeO.ite (note_format.q0_mono k _ _ _) (LeO.refl _))))
theorem note_format.mono : ∀ a0 a1 a2 a3 a4 k, LeO (note_format.f k a0 a1 a2 a3 a4) (note_format.f (k + 1) a0 a1 a2 a3 a4) := fun _ _ _ _ _ k => (note_format.mono_l k).2 _ _ _ _ _
set_option maxHeartbeats 8000000 in
set_option maxRecDepth 100000 in
theorem note_format.calls (k : Nat) : ∀ (g : Nat) (bs : List UInt8) (a0 : Int) (a1 : ByteArray) (a2 : Int) (A3 : Option Addr) (c3 : Nat) (l3 : List (S33)) (r : List UInt8) (w0 w : World) (hT : TIs w0) (hg : w0.heap.size ≤ g) (hB : Below w0.heap.size w0 w) (hI : IsB g bs w) (hr3 : Kd.C k33 w0 A3 l3.length l3) (hc3 : l3.length ≤ c3) (h : note_format.f k bs a0 a1 a2 l3 = some r),
  Calls Tryd.prog 56 #[.pointer (some ⟨g, 0, none⟩), .agg #[.int .i64 a0, .string a1, .int .i64 a2, .slice A3 l3.length c3]] w fun e w' => e = .returned (.tuple #[]) ∧ IsB g r w' ∧ Bk g w w' := by
 induction k using Nat.strongRecOn with
 | _ k ih =>
 intro g bs a0 a1 a2 A3 c3 l3 r w0 w hT hg hB hI hr3 hc3 h
 cases k with
 | zero => exact absurd h (by simp [note_format.f])
 | succ k =>
 simp only [note_format.f] at h
 have hu33 := Tryd.underlying33
 have HT := Aside0.mk hT
 have HG := Aside0.mk hg
 have HR3 := Aside0.mk hr3
 have HC3 := Aside0.mk hc3
 have GL := Aside0.mk hI.lt
 have FM : Aside0 (Fm g w0 w bs w) := ⟨hI, Bk.refl g w, hB⟩
 clear hT hg hr3 hc3 hI hB
 by_cases c0 : a0 = 0
 ·rw [if_pos c0] at h
  have c0b0 := beq_iff_eq.mpr c0
  clear c0
  by_cases lm : bs.length < 140737488355328
  ·rw [if_pos lm] at h
   have LM := aE lm
   have H' := aE h
   clear lm h
   go_enter Tryd.func56, Tryd.ntmps56
   go_wp2_with (first | ((with_reducible refine gd 3 rfl ?_); refine bx 3 #[.int .i64 a0, .string a1, .int .i64 a2, .slice A3 l3.length c3] 33 rfl rfl ?_; intro gb hg_ w1 hbox hb; have n_ := aC (FM.out.below hb) (aC hbox (aE (show gb ≠ g by have := GL.out; omega))); clear FM; obtain ⟨FM, BK, NB⟩ := n_; clear hb hbox hg_; obtain ⟨z0, z1, z2, z3, y0, y1, y2, y3⟩ := cz4f BK.out) | (refine gF 77 42 Tryd.func77 #[.pointer (some ⟨g, 0, none⟩), .int .u8 40] rfl rfl ?_; refine (writeByte_calls g bs 40 (by decide) (by decide) LM.out _ FM.out.1).mono ?_; rintro e w2 ⟨rfl, hi, hk⟩; refine ⟨_, rfl, ?_⟩; have n_ := aC (hk.blk BK.out (by decide) NB.out) (aE (FM.out.call hi hk HG.out)); clear BK FM; obtain ⟨BK, FM⟩ := n_; clear hi hk; obtain ⟨z0, z1, z2, z3, y0, y1, y2, y3⟩ := cz4f BK.out))
   go_loopg [46] k (fun kq v46 w' => ∃ (b1 : List UInt8) (i1 : Int), v46 = .int .i64 i1 ∧ Aside0 (note_format.l0 kq b1 l3 i1 = some r) ∧ Aside0 (kq ≤ k) ∧ Aside0 (Fm g w0 w b1 w'))
   case atStart => exact ⟨bs ++ [40], (0), rq, H', ⟨Nat.le_refl _⟩, FM⟩
   case round =>
    clear H' FM BK
    obtain ⟨b1, i1, rfl, HA, HK1, FM⟩ := hrel
    cases gk with
    | zero => exact absurd HA.out (by simp [note_format.l0])
    | succ k1 =>
     have H := HA.out
     clear HA
     simp only [note_format.l0] at H
     rcases iL H with H1 | H1 <;> clear H <;> obtain ⟨H, c1b0⟩ := H1
     ·by_cases c2 : 0 ≤ i1
      ·rw [if_pos c2] at H
       have c2b0 := decide_eq_true c2
       clear c2
       have p110 : 0 ≤ (i1 : Int) := dt
       have q110 : i1 < (l3.length : Int) := dt
       obtain ⟨ad, Ak, ck, ead, x0, x1, x2, x3, hl, hi⟩ := at_T33 HR3.out i1 p110 q110
       have KD := aC hi (aE hl)
       replace x0 := hcB FM.out.2.2 x0
       replace x1 := hcB FM.out.2.2 x1
       replace x2 := hcB FM.out.2.2 x2
       replace x3 := hcB FM.out.2.2 x3
       clear hi hl
       cases ead
       replace p110 := eq_true p110
       replace q110 := eq_true q110
       rcases iL H with H1 | H1 <;> clear H <;> obtain ⟨H, c3b0⟩ := H1
       ·by_cases lm : b1.length < 140737488355328
        ·rw [if_pos lm] at H
         have LM1 := aE lm
         clear lm
         obtain ⟨b2, A2, H⟩ := oB H
         have H' := aE H
         clear H
         go_wp2_with (first | ((with_reducible refine gd 5 rfl ?_); refine bx 5 #[.int .i64 0, .string (⟨#[]⟩ : ByteArray), .int .i64 0, .slice none 0 0] 33 rfl rfl ?_; intro gb5 hg_ w3 hbox hb; have n_ := aC (show w.heap.size ≤ gb5 by rw [hg_]; exact FM.out.2.1.1.size) (aE (show gb5 ≠ g by have := FM.out.1.lt; omega)); obtain ⟨GW5, NB5⟩ := n_; have n_ := aC (FM.out.below hb) (aC hbox (aC (show g ≤ gb5 by have := GL.out; have := GW5.out; omega) (aE (show w0.heap.size ≤ gb5 by have := GL.out; have := HG.out; have := GW5.out; omega)))); clear FM; obtain ⟨FM, BK5, GG5, G05⟩ := n_; clear hb hbox hg_; obtain ⟨z0, z1, z2, z3, y0, y1, y2, y3⟩ := cz4f BK5.out; have FF := aE (FM.out.fill BK5.out (by decide) NB5.out GW5.out GG5.out G05.out (.int .i64 ((rd_T33 l3 i1).f0)) (.string ((rd_T33 l3 i1).f1)) (.int .i64 ((rd_T33 l3 i1).f2)) (.slice Ak ((rd_T33 l3 i1).f3).length ck))) | (refine gF 77 54 Tryd.func77 #[.pointer (some ⟨g, 0, none⟩), .int .u8 32] rfl rfl ?_; refine (writeByte_calls g b1 32 (by decide) (by decide) LM1.out _ FF.out.1.1).mono ?_; rintro e w4 ⟨rfl, hi, hk⟩; refine ⟨_, rfl, ?_⟩; have n_ := aC (hk.blk FF.out.2 (by decide) NB5.out) (aE (FF.out.1.call hi hk HG.out)); clear BK5 FM FF; obtain ⟨BK5, FM⟩ := n_; clear hi hk; obtain ⟨z0, z1, z2, z3, y0, y1, y2, y3⟩ := cz4f BK5.out) | (refine gF 56 57 Tryd.func56 #[.pointer (some ⟨g, 0, none⟩), .agg #[.int .i64 ((rd_T33 l3 i1).f0), .string ((rd_T33 l3 i1).f1), .int .i64 ((rd_T33 l3 i1).f2), .slice Ak ((rd_T33 l3 i1).f3).length ck]] rfl rfl ?_; refine (ih k1 (by have := HK1.out; omega) g (b1 ++ [32]) _ _ _ Ak ck _ b2 w0 _ HT.out HG.out FM.out.2.2 FM.out.1 KD.1.out KD.2.out A2.out).mono ?_; rintro e w5 ⟨rfl, hi, hk⟩; refine ⟨_, rfl, ?_⟩; have n_ := aE (FM.out.call hi hk HG.out); clear FM; have FM := n_; clear hi hk))
         go_roundg k1
         case measure => have := HK1.out; omega
         case rel => exact ⟨b2, (wrap64 (i1 + 1)), rq, H', ⟨by have := HK1.out; omega⟩, FM⟩
        ·rw [if_neg lm] at H
         exact absurd H (by simp)
       ·obtain ⟨b2, A2, H⟩ := oB H
        have H' := aE H
        clear H
        go_wp2_with (first | ((with_reducible refine gd 5 rfl ?_); refine bx 5 #[.int .i64 0, .string (⟨#[]⟩ : ByteArray), .int .i64 0, .slice none 0 0] 33 rfl rfl ?_; intro gb5 hg_ w3 hbox hb; have n_ := aC (show w.heap.size ≤ gb5 by rw [hg_]; exact FM.out.2.1.1.size) (aE (show gb5 ≠ g by have := FM.out.1.lt; omega)); obtain ⟨GW5, NB5⟩ := n_; have n_ := aC (FM.out.below hb) (aC hbox (aC (show g ≤ gb5 by have := GL.out; have := GW5.out; omega) (aE (show w0.heap.size ≤ gb5 by have := GL.out; have := HG.out; have := GW5.out; omega)))); clear FM; obtain ⟨FM, BK5, GG5, G05⟩ := n_; clear hb hbox hg_; obtain ⟨z0, z1, z2, z3, y0, y1, y2, y3⟩ := cz4f BK5.out; have FF := aE (FM.out.fill BK5.out (by decide) NB5.out GW5.out GG5.out G05.out (.int .i64 ((rd_T33 l3 i1).f0)) (.string ((rd_T33 l3 i1).f1)) (.int .i64 ((rd_T33 l3 i1).f2)) (.slice Ak ((rd_T33 l3 i1).f3).length ck))) | (refine gF 56 57 Tryd.func56 #[.pointer (some ⟨g, 0, none⟩), .agg #[.int .i64 ((rd_T33 l3 i1).f0), .string ((rd_T33 l3 i1).f1), .int .i64 ((rd_T33 l3 i1).f2), .slice Ak ((rd_T33 l3 i1).f3).length ck]] rfl rfl ?_; refine (ih k1 (by have := HK1.out; omega) g b1 _ _ _ Ak ck _ b2 w0 _ HT.out HG.out FF.out.1.2.2 FF.out.1.1 KD.1.out KD.2.out A2.out).mono ?_; rintro e w5 ⟨rfl, hi, hk⟩; refine ⟨_, rfl, ?_⟩; have n_ := aE (FF.out.1.call hi hk HG.out); clear FM; have FM := n_; clear hi hk))
        go_roundg k1
        case measure => have := HK1.out; omega
        case rel => exact ⟨b2, (wrap64 (i1 + 1)), rq, H', ⟨by have := HK1.out; omega⟩, FM⟩
      ·rw [if_neg c2] at H
       exact absurd H (by simp)
     ·by_cases lm : b1.length < 140737488355328
      ·rw [if_pos lm] at H
       have LM1 := aE lm
       obtain rfl := Option.some.inj H
       clear lm H
       go_wp2_with (first | (refine gF 77 60 Tryd.func77 #[.pointer (some ⟨g, 0, none⟩), .int .u8 41] rfl rfl ?_; refine (writeByte_calls g b1 41 (by decide) (by decide) LM1.out _ FM.out.1).mono ?_; rintro e w6 ⟨rfl, hi, hk⟩; refine ⟨_, rfl, ?_⟩; have n_ := aE (FM.out.call hi hk HG.out); clear FM; have FM := n_; clear hi hk))
       go_end0
       exact ⟨rfl, FM.out.1, FM.out.2.1⟩
      ·rw [if_neg lm] at H
       exact absurd H (by simp)
  ·rw [if_neg lm] at h
   exact absurd h (by simp)
 ·rw [if_neg c0] at h
  have c0b0 := beq_eq_false_iff_ne.mpr c0
  clear c0
  by_cases c1 : a0 = 2
  ·rw [if_pos c1] at h
   have c1b0 := beq_iff_eq.mpr c1
   clear c1
   obtain ⟨s, A1, h⟩ := oB h
   by_cases lm : bs.length + s.size ≤ 140737488355328
   ·rw [if_pos lm] at h
    have LM := aE lm
    obtain rfl := Option.some.inj h
    clear lm h
    go_enter Tryd.func56, Tryd.ntmps56
    go_wp2_with (first | ((with_reducible refine gd 3 rfl ?_); refine bx 3 #[.int .i64 a0, .string a1, .int .i64 a2, .slice A3 l3.length c3] 33 rfl rfl ?_; intro gb hg_ w1 hbox hb; have n_ := aC (FM.out.below hb) (aC hbox (aE (show gb ≠ g by have := GL.out; omega))); clear FM; obtain ⟨FM, BK, NB⟩ := n_; clear hb hbox hg_; obtain ⟨z0, z1, z2, z3, y0, y1, y2, y3⟩ := cz4f BK.out) | (refine gF 79 66 Tryd.func79 #[.int .i64 a2] rfl rfl ?_; refine (strconv_Itoa_79.calls a2 s _ (HT.out.below FM.out.2.2) A1.out).mono ?_; rintro e w2 ⟨rfl, hb⟩; refine ⟨_, rfl, ?_⟩; have n_ := aE (FM.out.below hb); clear FM; have FM := n_; clear hb) | (refine gF 78 67 Tryd.func78 #[.pointer (some ⟨g, 0, none⟩), .string s] rfl rfl ?_; refine (writeString_calls g bs s LM.out _ FM.out.1).mono ?_; rintro e w3 ⟨rfl, hi, hk⟩; refine ⟨_, rfl, ?_⟩; have n_ := aE (FM.out.call hi hk HG.out); clear FM; have FM := n_; clear hi hk))
    go_end0
    exact ⟨rfl, FM.out.1, FM.out.2.1⟩
   ·rw [if_neg lm] at h
    exact absurd h (by simp)
  ·rw [if_neg c1] at h
   have c1b0 := beq_eq_false_iff_ne.mpr c1
   clear c1
   by_cases c2 : a0 = 1
   ·rw [if_pos c2] at h
    have c2b0 := beq_iff_eq.mpr c2
    clear c2
    by_cases lm : bs.length + a1.size ≤ 140737488355328
    ·rw [if_pos lm] at h
     have LM := aE lm
     obtain rfl := Option.some.inj h
     clear lm h
     go_enter Tryd.func56, Tryd.ntmps56
     go_wp2_with (first | ((with_reducible refine gd 3 rfl ?_); refine bx 3 #[.int .i64 a0, .string a1, .int .i64 a2, .slice A3 l3.length c3] 33 rfl rfl ?_; intro gb hg_ w1 hbox hb; have n_ := aC (FM.out.below hb) (aC hbox (aE (show gb ≠ g by have := GL.out; omega))); clear FM; obtain ⟨FM, BK, NB⟩ := n_; clear hb hbox hg_; obtain ⟨z0, z1, z2, z3, y0, y1, y2, y3⟩ := cz4f BK.out) | (refine gF 78 73 Tryd.func78 #[.pointer (some ⟨g, 0, none⟩), .string a1] rfl rfl ?_; refine (writeString_calls g bs a1 LM.out _ FM.out.1).mono ?_; rintro e w3 ⟨rfl, hi, hk⟩; refine ⟨_, rfl, ?_⟩; have n_ := aE (FM.out.call hi hk HG.out); clear FM; have FM := n_; clear hi hk))
     go_end0
     exact ⟨rfl, FM.out.1, FM.out.2.1⟩
    ·rw [if_neg lm] at h
     exact absurd h (by simp)
   ·rw [if_neg c2] at h
    have c2b0 := beq_eq_false_iff_ne.mpr c2
    clear c2
    by_cases lm : bs.length < 140737488355328
    ·rw [if_pos lm] at h
     have LM := aE lm
     have H' := aE h
     clear lm h
     go_enter Tryd.func56, Tryd.ntmps56
     go_wp2_with (first | ((with_reducible refine gd 3 rfl ?_); refine bx 3 #[.int .i64 a0, .string a1, .int .i64 a2, .slice A3 l3.length c3] 33 rfl rfl ?_; intro gb hg_ w1 hbox hb; have n_ := aC (FM.out.below hb) (aC hbox (aE (show gb ≠ g by have := GL.out; omega))); clear FM; obtain ⟨FM, BK, NB⟩ := n_; clear hb hbox hg_; obtain ⟨z0, z1, z2, z3, y0, y1, y2, y3⟩ := cz4f BK.out) | (refine gF 77 11 Tryd.func77 #[.pointer (some ⟨g, 0, none⟩), .int .u8 34] rfl rfl ?_; refine (writeByte_calls g bs 34 (by decide) (by decide) LM.out _ FM.out.1).mono ?_; rintro e w2 ⟨rfl, hi, hk⟩; refine ⟨_, rfl, ?_⟩; have n_ := aC (hk.blk BK.out (by decide) NB.out) (aE (FM.out.call hi hk HG.out)); clear BK FM; obtain ⟨BK, FM⟩ := n_; clear hi hk; obtain ⟨z0, z1, z2, z3, y0, y1, y2, y3⟩ := cz4f BK.out))
     go_loopg [15] k (fun kq v15 w' => ∃ (b1 : List UInt8) (i1 : Int), v15 = .int .i64 i1 ∧ Aside0 (note_format.q0 kq b1 a1 i1 = some r) ∧ Aside0 (kq ≤ k) ∧ Aside0 (w'.heap[gb]? = some (.cells #[.int .i64 a0, .string a1, .int .i64 a2, .slice A3 l3.length c3] 33 (0, 0))) ∧ Aside0 (Fm g w0 w b1 w'))
     case atStart => exact ⟨bs ++ [34], (0), rq, H', ⟨Nat.le_refl _⟩, BK, FM⟩
     case round =>
      clear H' FM BK
      obtain ⟨b1, i1, rfl, HA, HK1, BK, FM⟩ := hrel
      cases gk with
      | zero => exact absurd HA.out (by simp [note_format.q0])
      | succ k1 =>
       have H := HA.out
       clear HA
       simp only [note_format.q0] at H
       obtain ⟨z0, z1, z2, z3, y0, y1, y2, y3⟩ := cz4f BK.out
       rcases iL H with H1 | H1 <;> clear H <;> obtain ⟨H, c3b0⟩ := H1
       ·by_cases c4 : 0 ≤ i1
        ·rw [if_pos c4] at H
         have c4b0 := decide_eq_true c4
         clear c4
         by_cases lm : b1.length + 1 < 140737488355328
         ·rw [if_pos lm] at H
          have LM1 := aE lm
          clear lm
          have p13 : 0 ≤ (i1 : Int) := dt
          have q13 : i1 < (a1.size : Int) := dt
          have CB := aE (show 0 ≤ bt a1 i1 ∧ bt a1 i1 < 256 from ⟨(bt_range a1 i1).1, by have := (bt_range a1 i1).2; omega⟩)
          have hx13 := bt_at a1 i1
          replace p13 := eq_true p13
          replace q13 := eq_true q13
          by_cases c5 : bt a1 i1 = 34
          ·rw [if_pos c5] at H
           have c5b0 := beq_iff_eq.mpr c5
           clear c5
           have H' := aE H
           clear H
           go_wp2_with (first | (refine gF 77 29 Tryd.func77 #[.pointer (some ⟨g, 0, none⟩), .int .u8 92] rfl rfl ?_; refine (writeByte_calls g b1 92 (by decide) (by decide) (by have := LM1.out; omega) _ FM.out.1).mono ?_; rintro e w2 ⟨rfl, hi, hk⟩; refine ⟨_, rfl, ?_⟩; have n_ := aC (hk.blk BK.out (by decide) NB.out) (aE (FM.out.call hi hk HG.out)); clear BK FM; obtain ⟨BK, FM⟩ := n_; clear hi hk; obtain ⟨z0, z1, z2, z3, y0, y1, y2, y3⟩ := cz4f BK.out) | (refine gF 77 35 Tryd.func77 #[.pointer (some ⟨g, 0, none⟩), .int .u8 (bt a1 i1)] rfl rfl ?_; refine (writeByte_calls g (b1 ++ [92]) (bt a1 i1) CB.out.1 CB.out.2 (by have := LM1.out; simp; omega) _ FM.out.1).mono ?_; rintro e w3 ⟨rfl, hi, hk⟩; refine ⟨_, rfl, ?_⟩; have n_ := aC (hk.blk BK.out (by decide) NB.out) (aE (FM.out.call hi hk HG.out)); clear BK FM; obtain ⟨BK, FM⟩ := n_; clear hi hk))
           go_roundg k1
           case measure => have := HK1.out; omega
           case rel => exact ⟨_, (wrap64 (i1 + 1)), rq, H', ⟨by have := HK1.out; omega⟩, BK, FM⟩
          ·rw [if_neg c5] at H
           have c5b0 := beq_eq_false_iff_ne.mpr c5
           clear c5
           by_cases c6 : bt a1 i1 = 92
           ·rw [if_pos c6] at H
            have c6b0 := beq_iff_eq.mpr c6
            clear c6
            have H' := aE H
            clear H
            go_wp2_with (first | (refine gF 77 29 Tryd.func77 #[.pointer (some ⟨g, 0, none⟩), .int .u8 92] rfl rfl ?_; refine (writeByte_calls g b1 92 (by decide) (by decide) (by have := LM1.out; omega) _ FM.out.1).mono ?_; rintro e w2 ⟨rfl, hi, hk⟩; refine ⟨_, rfl, ?_⟩; have n_ := aC (hk.blk BK.out (by decide) NB.out) (aE (FM.out.call hi hk HG.out)); clear BK FM; obtain ⟨BK, FM⟩ := n_; clear hi hk; obtain ⟨z0, z1, z2, z3, y0, y1, y2, y3⟩ := cz4f BK.out) | (refine gF 77 35 Tryd.func77 #[.pointer (some ⟨g, 0, none⟩), .int .u8 (bt a1 i1)] rfl rfl ?_; refine (writeByte_calls g (b1 ++ [92]) (bt a1 i1) CB.out.1 CB.out.2 (by have := LM1.out; simp; omega) _ FM.out.1).mono ?_; rintro e w3 ⟨rfl, hi, hk⟩; refine ⟨_, rfl, ?_⟩; have n_ := aC (hk.blk BK.out (by decide) NB.out) (aE (FM.out.call hi hk HG.out)); clear BK FM; obtain ⟨BK, FM⟩ := n_; clear hi hk))
            go_roundg k1
            case measure => have := HK1.out; omega
            case rel => exact ⟨_, (wrap64 (i1 + 1)), rq, H', ⟨by have := HK1.out; omega⟩, BK, FM⟩
           ·rw [if_neg c6] at H
            have c6b0 := beq_eq_false_iff_ne.mpr c6
            clear c6
            have H' := aE H
            clear H
            go_wp2_with (first | (refine gF 77 35 Tryd.func77 #[.pointer (some ⟨g, 0, none⟩), .int .u8 (bt a1 i1)] rfl rfl ?_; refine (writeByte_calls g b1 (bt a1 i1) CB.out.1 CB.out.2 (by have := LM1.out; omega) _ FM.out.1).mono ?_; rintro e w3 ⟨rfl, hi, hk⟩; refine ⟨_, rfl, ?_⟩; have n_ := aC (hk.blk BK.out (by decide) NB.out) (aE (FM.out.call hi hk HG.out)); clear BK FM; obtain ⟨BK, FM⟩ := n_; clear hi hk))
            go_roundg k1
            case measure => have := HK1.out; omega
            case rel => exact ⟨_, (wrap64 (i1 + 1)), rq, H', ⟨by have := HK1.out; omega⟩, BK, FM⟩
         ·rw [if_neg lm] at H
          exact absurd H (by simp)
        ·rw [if_neg c4] at H
         exact absurd H (by simp)
       ·by_cases lm : b1.length < 140737488355328
        ·rw [if_pos lm] at H
         have LM1 := aE lm
         obtain rfl := Option.some.inj H
         clear lm H
         go_wp2_with (first | (refine gF 77 38 Tryd.func77 #[.pointer (some ⟨g, 0, none⟩), .int .u8 34] rfl rfl ?_; refine (writeByte_calls g b1 34 (by decide) (by decide) LM1.out _ FM.out.1).mono ?_; rintro e w6 ⟨rfl, hi, hk⟩; refine ⟨_, rfl, ?_⟩; have n_ := aE (FM.out.call hi hk HG.out); clear FM; have FM := n_; clear hi hk))
         go_end0
         exact ⟨rfl, FM.out.1, FM.out.2.1⟩
        ·rw [if_neg lm] at H
         exact absurd H (by simp)
    ·rw [if_neg lm] at h
     exact absurd h (by simp)
def note_Format.f (k : Nat) (a0 : Int) (a1 : ByteArray) (a2 : Int) (l3 : List (S33)) : Option (ByteArray × Int) := (note_Valid.f k a0 a1 a2 l3).bind fun v => (if v = true then ((note_format.f k [] a0 a1 a2 l3).bind fun b => some (⟨b.toArray⟩, 0)) else some ((⟨#[]⟩ : ByteArray), 95))
theorem note_Format.mono : ∀ a0 a1 a2 a3 k, LeO (note_Format.f k a0 a1 a2 a3) (note_Format.f (k + 1) a0 a1 a2 a3) := by
 intro a0 a1 a2 a3 k
 unfold note_Format.f
 exact LeO.bind (note_Valid.mono _ _ _ _ k) (fun _ => LeO.ite (LeO.bind (note_format.mono _ _ _ _ _ k) (fun _ => LeO.refl _)) (LeO.refl _))
set_option maxHeartbeats 8000000 in
set_option maxRecDepth 100000 in
theorem note_Format.calls (k : Nat) (a0_0 : Int) (a0_1 : ByteArray) (a0_2 : Int) (A0_3 : Option Addr) (c0_3 : Nat) (l0_3 : List (S33)) (r1 : ByteArray) (r2 : Int) (w : World) (hT0 : TIs w) (hr0_3 : Kd.C k33 w A0_3 l0_3.length l0_3) (hc0_3 : l0_3.length ≤ c0_3) (h : note_Format.f k a0_0 a0_1 a0_2 l0_3 = some (r1, r2)) :
  Calls Tryd.prog 31 #[.agg #[.int .i64 a0_0, .string a0_1, .int .i64 a0_2, .slice A0_3 l0_3.length c0_3]] w fun e w' => e = .returned (.tuple #[.string r1, .int .i64 r2]) ∧ Below w.heap.size w w' := by
 have hu33 := Tryd.underlying33
 unfold note_Format.f at h
 obtain ⟨v, A1, h⟩ := oB h
 have HT := Aside0.mk hT0
 have HR0 := Aside0.mk hr0_3
 have HC0 := Aside0.mk hc0_3
 clear hr0_3 hc0_3 hT0
 have HB := Aside0.mk (Below.refl w.heap.size w)
 by_cases c : v = true
 ·rw [if_pos c] at h
  subst c
  obtain ⟨b, A2, h⟩ := oB h
  simp only [Option.some.injEq, Prod.mk.injEq] at h
  obtain ⟨rfl, rfl⟩ := h
  go_enter Tryd.func31, Tryd.ntmps31
  go_wp2_with (first | ((with_reducible refine gd 1 rfl ?_); refine bx 1 #[.int .i64 a0_0, .string a0_1, .int .i64 a0_2, .slice A0_3 l0_3.length c0_3] 33 rfl rfl ?_; intro gb hg_ w1 hbox hb; have n_ := aC (bs hb) (aE hbox); clear HB; obtain ⟨HB, BK⟩ := n_; clear hb hbox hg_; obtain ⟨z0, z1, z2, z3, y0, y1, y2, y3⟩ := cz4f BK.out) | (refine gF 33 6 Tryd.func33 #[.agg #[.int .i64 a0_0, .string a0_1, .int .i64 a0_2, .slice A0_3 l0_3.length c0_3]] rfl rfl ?_; refine (note_Valid.calls k a0_0 a0_1 a0_2 _ _ l0_3 true _ (Kd.C_below HR0.out HB.out) HC0.out A1.out).mono ?_; rintro e w2 ⟨rfl, hb⟩; refine ⟨_, rfl, ?_⟩; have n_ := aC (blk_below BK.out hb) (aE (bs hb)); clear BK HB; obtain ⟨BK, HB⟩ := n_; clear hb; obtain ⟨z0, z1, z2, z3, y0, y1, y2, y3⟩ := cz4f BK.out) | ((with_reducible refine gd 4 rfl ?_); refine bx 4 #[.pointer none, .slice none 0 0] 86 rfl rfl ?_; intro gs hg_ w3 hbox hb; have n_ := aC (gz hg_) (aC (bs hb) (aC (IsB.made hbox) (aC (blk_below BK.out hb) (aE (blk_lt_of hg_ BK.out))))); clear HB BK; obtain ⟨GE, HB, IB, BK, LT⟩ := n_; clear hb hbox hg_; obtain ⟨z0, z1, z2, z3, y0, y1, y2, y3⟩ := cz4f BK.out) | (refine gF 56 9 Tryd.func56 #[.pointer (some ⟨gs, 0, none⟩), .agg #[.int .i64 a0_0, .string a0_1, .int .i64 a0_2, .slice A0_3 l0_3.length c0_3]] rfl rfl ?_; refine (note_format.calls k gs [] a0_0 a0_1 a0_2 _ _ l0_3 b w _ HT.out GE.out HB.out IB.out HR0.out HC0.out A2.out).mono ?_; rintro e w4 ⟨rfl, hi, hk⟩; refine ⟨_, rfl, ?_⟩; have n_ := aC hi (aE (HB.out.trans (hk.1.mono GE.out))); clear IB HB BK; obtain ⟨IB, HB⟩ := n_; clear hi hk) | (refine gF 57 10 Tryd.func57 #[.pointer (some ⟨gs, 0, none⟩)] rfl rfl ?_; refine (builderString_calls gs b _ IB.out).mono ?_; rintro e w5 ⟨rfl, hk⟩; refine ⟨_, rfl, ?_⟩; have n_ := aE (HB.out.trans (hk.mono GE.out)); clear IB HB; have HB := n_; clear hk))
  go_ret2
  exact ⟨re, HB.out⟩
 ·rw [if_neg c] at h
  replace c := Bool.eq_false_iff.mpr c
  subst c
  simp only [Option.some.injEq, Prod.mk.injEq] at h
  obtain ⟨rfl, rfl⟩ := h
  go_enter Tryd.func31, Tryd.ntmps31
  go_wp2_with (first | ((with_reducible refine gd 1 rfl ?_); refine bx 1 #[.int .i64 a0_0, .string a0_1, .int .i64 a0_2, .slice A0_3 l0_3.length c0_3] 33 rfl rfl ?_; intro gb hg_ w1 hbox hb; have n_ := aC (bs hb) (aE hbox); clear HB; obtain ⟨HB, BK⟩ := n_; clear hb hbox hg_; obtain ⟨z0, z1, z2, z3, y0, y1, y2, y3⟩ := cz4f BK.out) | (refine gF 33 6 Tryd.func33 #[.agg #[.int .i64 a0_0, .string a0_1, .int .i64 a0_2, .slice A0_3 l0_3.length c0_3]] rfl rfl ?_; refine (note_Valid.calls k a0_0 a0_1 a0_2 _ _ l0_3 false _ (Kd.C_below HR0.out HB.out) HC0.out A1.out).mono ?_; rintro e w2 ⟨rfl, hb⟩; refine ⟨_, rfl, ?_⟩; have n_ := aE (bs hb); clear BK HB; have HB := n_; clear hb))
  go_ret2
  exact ⟨re, HB.out⟩
def incunablelaw25_Sane.f (k : Nat)  : Option (Bool) := (note_Format.f k 0 (⟨#[]⟩ : ByteArray) 0 (([(⟨1, (⟨#[97, 45, 49]⟩ : ByteArray), 0, ([] : List (S33))⟩ : S33), (⟨2, (⟨#[]⟩ : ByteArray), (-5), ([] : List (S33))⟩ : S33), (⟨3, (⟨#[34, 92]⟩ : ByteArray), 0, ([] : List (S33))⟩ : S33)] : List (S33)))).bind fun bt113 => (if bt113.2 = 0 then (some (bt113.1.toList == ([40, 97, 45, 49, 32, 45, 53, 32, 34, 92, 34, 92, 92, 34, 41] : List UInt8))) else (some false))
theorem incunablelaw25_Sane.mono : ∀ k, LeO (incunablelaw25_Sane.f k ) (incunablelaw25_Sane.f (k + 1) ) := by
 intro  k
 unfold incunablelaw25_Sane.f
 repeat' first
   | (with_reducible exact note_Format.mono _ _ _ _ _)
   | (with_reducible first | exact LeO.refl _ | exact LeO.none _ | refine LeO.ite ?_ ?_ | refine LeO.bind ?_ (fun _ => ?_))
set_option maxHeartbeats 8000000 in
set_option maxRecDepth 100000 in
theorem incunablelaw25_Sane.calls (k : Nat)  (r : Bool) (w : World) (hT0 : TIs w) (h : incunablelaw25_Sane.f k  = some r) :
  Calls Tryd.prog 11 #[] w fun e w' => e = .returned (.bool r) ∧ Below w.heap.size w w' := by
 have HTI := Aside0.mk hT0
 clear hT0
 have hu33 := Tryd.underlying33
 have HB := Aside0.mk (Below.refl w.heap.size w)
 have H := h
 unfold incunablelaw25_Sane.f at H
 clear h
 obtain ⟨y110, hy_⟩ : ∃ y_ : List (S33), y_ = (([(⟨1, (⟨#[97, 45, 49]⟩ : ByteArray), 0, ([] : List (S33))⟩ : S33), (⟨2, (⟨#[]⟩ : ByteArray), (-5), ([] : List (S33))⟩ : S33), (⟨3, (⟨#[34, 92]⟩ : ByteArray), 0, ([] : List (S33))⟩ : S33)] : List (S33))) := ⟨_, rfl⟩
 replace H : ((note_Format.f k 0 (⟨#[]⟩ : ByteArray) 0 y110).bind fun bt113 => (if bt113.2 = 0 then (some (bt113.1.toList == ([40, 97, 45, 49, 32, 45, 53, 32, 34, 92, 34, 92, 92, 34, 41] : List UInt8))) else (some false))) = some r := rh
 have Ny110 := aE hy_
 clear hy_
 obtain ⟨⟨t113, t114⟩, A1, H⟩ := oB H
 try dsimp only at H
 rcases iE H with H1 | H1 <;> clear H <;> obtain ⟨H, c2b0, c2b1, c2⟩ := H1
 ·obtain rfl := Option.some.inj H
  go_enter Tryd.func11, Tryd.ntmps11
  go_wp2_with (first | ((with_reducible refine gd 7 rfl ?_); refine Kd.R_lit k33 _ 33 ?hg (N := 7) ?hd (xs := ([(⟨1, (⟨#[97, 45, 49]⟩ : ByteArray), 0, ([] : List (S33))⟩ : S33), (⟨2, (⟨#[]⟩ : ByteArray), (-5), ([] : List (S33))⟩ : S33), (⟨3, (⟨#[34, 92]⟩ : ByteArray), 0, ([] : List (S33))⟩ : S33)] : List (S33))) (inner := [.int .i64 1, .string (⟨#[97, 45, 49]⟩ : ByteArray), .int .i64 0, .slice none 0 0, .int .i64 2, .string (⟨#[]⟩ : ByteArray), .int .i64 (-5), .slice none 0 0, .int .i64 3, .string (⟨#[34, 92]⟩ : ByteArray), .int .i64 0, .slice none 0 0]) (ok := fun _ => True) (okp := fun _ => True) ?hr ?hp (fun _ hk => hk) trivial (Below.refl _ _) (Nat.le_refl _) (by simp) ?_; (case hd => rfl); (case hg => rfl); (case hr => first | (go_simp; done) | (go_simp; rfl)); (case hp => exact (Reps.c4 (show Kd.M k33 _ _ _ (⟨1, (⟨#[97, 45, 49]⟩ : ByteArray), 0, ([] : List (S33))⟩ : S33) [.int .i64 1, .string (⟨#[97, 45, 49]⟩ : ByteArray), .int .i64 0, .slice none 0 0] from (k33_mkM _ _ _ (⟨1, (⟨#[97, 45, 49]⟩ : ByteArray), 0, ([] : List (S33))⟩ : S33) (Kd.R_nil _ _ _ _ _))) (Reps.c4 (show Kd.M k33 _ _ _ (⟨2, (⟨#[]⟩ : ByteArray), (-5), ([] : List (S33))⟩ : S33) [.int .i64 2, .string (⟨#[]⟩ : ByteArray), .int .i64 (-5), .slice none 0 0] from (k33_mkM _ _ _ (⟨2, (⟨#[]⟩ : ByteArray), (-5), ([] : List (S33))⟩ : S33) (Kd.R_nil _ _ _ _ _))) (Reps.c4 (show Kd.M k33 _ _ _ (⟨3, (⟨#[34, 92]⟩ : ByteArray), 0, ([] : List (S33))⟩ : S33) [.int .i64 3, .string (⟨#[34, 92]⟩ : ByteArray), .int .i64 0, .slice none 0 0] from (k33_mkM _ _ _ (⟨3, (⟨#[34, 92]⟩ : ByteArray), 0, ([] : List (S33))⟩ : S33) (Kd.R_nil _ _ _ _ _))) (Reps.none _ _))))); intro v111 w3 ho4 hb hg_ hnew_; clear hg_ hnew_; (first | rw [← Ny110.out] at ho4 | (simp only [Int.reduceToNat] at ho4; rw [← Ny110.out] at ho4)); have n_ := aC (Kd.R_lower ho4 bz) (aE (bs hb)); clear HB; obtain ⟨HO112, HB⟩ := n_; clear hb ho4; obtain ⟨Ao5, co5, eo5⟩ := Kd.R_slice HO112.out; subst eo5) | (refine gF 31 9 Tryd.func31 #[.agg #[.int .i64 0, .string (⟨#[]⟩ : ByteArray), .int .i64 0, .slice Ao5 y110.length co5]] rfl rfl ?_; (with_reducible refine (note_Format.calls k 0 (⟨#[]⟩ : ByteArray) 0 _ _ y110 t113 t114 _ (TIs.on HTI) ?side1 ?side2 A1.out).mono ?_); (case side1 => exact cU (Kd.R_reads' HO112.out).2.2); (case side2 => exact (Kd.R_reads' HO112.out).2.1); rintro e w6 ⟨rfl, hb⟩; refine ⟨_, rfl, ?_⟩; have n_ := aC (Kd.R_below (rU HO112.out) hb) (aE (bs hb)); clear HO112 HB; obtain ⟨HO112, HB⟩ := n_))
  go_ret
  exact ⟨re, bl⟩
 ·obtain rfl := Option.some.inj H
  go_enter Tryd.func11, Tryd.ntmps11
  go_wp2_with (first | ((with_reducible refine gd 7 rfl ?_); refine Kd.R_lit k33 _ 33 ?hg (N := 7) ?hd (xs := ([(⟨1, (⟨#[97, 45, 49]⟩ : ByteArray), 0, ([] : List (S33))⟩ : S33), (⟨2, (⟨#[]⟩ : ByteArray), (-5), ([] : List (S33))⟩ : S33), (⟨3, (⟨#[34, 92]⟩ : ByteArray), 0, ([] : List (S33))⟩ : S33)] : List (S33))) (inner := [.int .i64 1, .string (⟨#[97, 45, 49]⟩ : ByteArray), .int .i64 0, .slice none 0 0, .int .i64 2, .string (⟨#[]⟩ : ByteArray), .int .i64 (-5), .slice none 0 0, .int .i64 3, .string (⟨#[34, 92]⟩ : ByteArray), .int .i64 0, .slice none 0 0]) (ok := fun _ => True) (okp := fun _ => True) ?hr ?hp (fun _ hk => hk) trivial (Below.refl _ _) (Nat.le_refl _) (by simp) ?_; (case hd => rfl); (case hg => rfl); (case hr => first | (go_simp; done) | (go_simp; rfl)); (case hp => exact (Reps.c4 (show Kd.M k33 _ _ _ (⟨1, (⟨#[97, 45, 49]⟩ : ByteArray), 0, ([] : List (S33))⟩ : S33) [.int .i64 1, .string (⟨#[97, 45, 49]⟩ : ByteArray), .int .i64 0, .slice none 0 0] from (k33_mkM _ _ _ (⟨1, (⟨#[97, 45, 49]⟩ : ByteArray), 0, ([] : List (S33))⟩ : S33) (Kd.R_nil _ _ _ _ _))) (Reps.c4 (show Kd.M k33 _ _ _ (⟨2, (⟨#[]⟩ : ByteArray), (-5), ([] : List (S33))⟩ : S33) [.int .i64 2, .string (⟨#[]⟩ : ByteArray), .int .i64 (-5), .slice none 0 0] from (k33_mkM _ _ _ (⟨2, (⟨#[]⟩ : ByteArray), (-5), ([] : List (S33))⟩ : S33) (Kd.R_nil _ _ _ _ _))) (Reps.c4 (show Kd.M k33 _ _ _ (⟨3, (⟨#[34, 92]⟩ : ByteArray), 0, ([] : List (S33))⟩ : S33) [.int .i64 3, .string (⟨#[34, 92]⟩ : ByteArray), .int .i64 0, .slice none 0 0] from (k33_mkM _ _ _ (⟨3, (⟨#[34, 92]⟩ : ByteArray), 0, ([] : List (S33))⟩ : S33) (Kd.R_nil _ _ _ _ _))) (Reps.none _ _))))); intro v111 w7 ho8 hb hg_ hnew_; clear hg_ hnew_; (first | rw [← Ny110.out] at ho8 | (simp only [Int.reduceToNat] at ho8; rw [← Ny110.out] at ho8)); have n_ := aC (Kd.R_lower ho8 bz) (aE (bs hb)); clear HB; obtain ⟨HO112, HB⟩ := n_; clear hb ho8; obtain ⟨Ao9, co9, eo9⟩ := Kd.R_slice HO112.out; subst eo9) | (refine gF 31 9 Tryd.func31 #[.agg #[.int .i64 0, .string (⟨#[]⟩ : ByteArray), .int .i64 0, .slice Ao9 y110.length co9]] rfl rfl ?_; (with_reducible refine (note_Format.calls k 0 (⟨#[]⟩ : ByteArray) 0 _ _ y110 t113 t114 _ (TIs.on HTI) ?side1 ?side2 A1.out).mono ?_); (case side1 => exact cU (Kd.R_reads' HO112.out).2.2); (case side2 => exact (Kd.R_reads' HO112.out).2.1); rintro e w10 ⟨rfl, hb⟩; refine ⟨_, rfl, ?_⟩; have n_ := aC (Kd.R_below (rU HO112.out) hb) (aE (bs hb)); clear HO112 HB; obtain ⟨HO112, HB⟩ := n_))
  go_ret
  exact ⟨re, bl⟩
mutual
def incunablelaw25_sizeOf.l0 : Nat → Int → Int → Int → Int → ByteArray → Int → List (S33) → Option (Int)
 | 0, _, _, _, _, _, _, _ => none
 | k + 1, x1, x2, x7, x116000, x116001, x116002, x116003 => if x7 < (x116003.length : Int) then (if x2 ≥ 0 then (if 0 ≤ x7 then ((incunablelaw25_sizeOf.f k ((rd_T33 x116003 x7).f0) ((rd_T33 x116003 x7).f1) ((rd_T33 x116003 x7).f2) ((rd_T33 x116003 x7).f3) (wrap64 (x1 - 1)) x2).bind fun t117 => (incunablelaw25_sizeOf.l0 k x1 t117 (wrap64 (x7 + 1)) x116000 x116001 x116002 x116003)) else (none)) else (some x2)) else (some x2)
def incunablelaw25_sizeOf.f : Nat → Int → ByteArray → Int → List (S33) → Int → Int → Option (Int)
 | 0, _, _, _, _, _, _ => none
 | k + 1, a0_0, a0_1, a0_2, l0_3, a1, a2 => if a1 = 0 then (some (-1)) else (incunablelaw25_sizeOf.l0 k a1 (wrap64 ((wrap64 (a2 - 1)) - (a0_1.size : Int))) 0 a0_0 a0_1 a0_2 l0_3)
end
theorem incunablelaw25_sizeOf.mono_l : ∀ k, (∀ y0 y1 y2 y3 y4 y5, LeO (incunablelaw25_sizeOf.f k y0 y1 y2 y3 y4 y5) (incunablelaw25_sizeOf.f (k + 1) y0 y1 y2 y3 y4 y5)) ∧ (∀ y0 y1 y2 y3 y4 y5 y6, LeO (incunablelaw25_sizeOf.l0 k y0 y1 y2 y3 y4 y5 y6) (incunablelaw25_sizeOf.l0 (k + 1) y0 y1 y2 y3 y4 y5 y6))
 | 0 => ⟨fun _ _ _ _ _ _ r h => by simp [incunablelaw25_sizeOf.f] at h, fun _ _ _ _ _ _ _ r h => by simp [incunablelaw25_sizeOf.l0] at h⟩
 | k + 1 => by
  obtain ⟨ih0, ih1⟩ := incunablelaw25_sizeOf.mono_l k
  refine ⟨?_, ?_⟩
  ·intro y0 y1 y2 y3 y4 y5
   unfold incunablelaw25_sizeOf.f
   repeat' first
   | (with_reducible exact ih0 _ _ _ _ _ _)
   | (with_reducible exact ih1 _ _ _ _ _ _ _)
   | (with_reducible first | exact LeO.refl _ | exact LeO.none _ | refine LeO.ite ?_ ?_ | refine LeO.bind ?_ (fun _ => ?_))
  ·intro y0 y1 y2 y3 y4 y5 y6
   unfold incunablelaw25_sizeOf.l0
   repeat' first
   | (with_reducible exact ih0 _ _ _ _ _ _)
   | (with_reducible exact ih1 _ _ _ _ _ _ _)
   | (with_reducible first | exact LeO.refl _ | exact LeO.none _ | refine LeO.ite ?_ ?_ | refine LeO.bind ?_ (fun _ => ?_))
theorem incunablelaw25_sizeOf.mono : ∀ a0 a1 a2 a3 a4 a5 k, LeO (incunablelaw25_sizeOf.f k a0 a1 a2 a3 a4 a5) (incunablelaw25_sizeOf.f (k + 1) a0 a1 a2 a3 a4 a5) := by
 intro a0 a1 a2 a3 a4 a5 k
 obtain ⟨ih0, ih1⟩ := incunablelaw25_sizeOf.mono_l k
 exact ih0 a0 a1 a2 a3 a4 a5
set_option maxHeartbeats 8000000 in
set_option maxRecDepth 100000 in
theorem incunablelaw25_sizeOf.calls (k : Nat) : ∀ (a0_0 : Int) (a0_1 : ByteArray) (a0_2 : Int) (A0_3 : Option Addr) (c0_3 : Nat) (l0_3 : List (S33)) (a1 : Int) (a2 : Int) (r : Int) (w : World) (hr0_3 : Kd.C k33 w A0_3 l0_3.length l0_3) (hc0_3 : l0_3.length ≤ c0_3) (h : incunablelaw25_sizeOf.f k a0_0 a0_1 a0_2 l0_3 a1 a2 = some r),
  Calls Tryd.prog 66 #[.agg #[.int .i64 a0_0, .string a0_1, .int .i64 a0_2, .slice A0_3 l0_3.length c0_3], .int .i64 a1, .int .i64 a2] w fun e w' => e = .returned (.int .i64 r) ∧ Below w.heap.size w w' := by
 induction k using Nat.strongRecOn with
 | _ k ih =>
 intro a0_0 a0_1 a0_2 A0_3 c0_3 l0_3 a1 a2 r w hr0_3 hc0_3 h
 cases k with
 | zero => exact absurd h (by simp [incunablelaw25_sizeOf.f])
 | succ k =>
 simp only [incunablelaw25_sizeOf.f] at h
 have hu33 := Tryd.underlying33
 have HR0_3 := Aside0.mk hr0_3
 have HC0_3 := Aside0.mk hc0_3
 clear hr0_3 hc0_3
 have HB := Aside0.mk (Below.refl w.heap.size w)
 have H := h
 unfold incunablelaw25_sizeOf.f at H
 clear h
 rcases iE H with H1 | H1 <;> clear H <;> obtain ⟨H, c4b0, c4b1, c4⟩ := H1
 ·obtain rfl := Option.some.inj H
  go_enter Tryd.func66, Tryd.ntmps66
  go_wp2_with (first | ((with_reducible refine gd 3 rfl ?_); refine bx 3 #[.int .i64 a0_0, .string a0_1, .int .i64 a0_2, .slice A0_3 l0_3.length c0_3] 33 rfl rfl ?_; intro gb115 hg w5 hbox hb; have n_ := aC (bs hb) (aC hbox (aC (gz hg) (aE (gz hg)))); clear HB; obtain ⟨HB, BK115, GW115, GE115⟩ := n_; clear hb hbox hg; obtain ⟨hcz6_0, hcz6_1, hcz6_2, hcz6_3, hfz6_0, hfz6_1, hfz6_2, hfz6_3⟩ := cz4f BK115.out))
  go_ret
  exact ⟨re, bl⟩
 ·have H' := Aside0.mk H
  clear H
  go_enter Tryd.func66, Tryd.ntmps66
  go_wp2_with (first | ((with_reducible refine gd 3 rfl ?_); refine bx 3 #[.int .i64 a0_0, .string a0_1, .int .i64 a0_2, .slice A0_3 l0_3.length c0_3] 33 rfl rfl ?_; intro gb115 hg w7 hbox hb; have n_ := aC (bs hb) (aC hbox (aC (gz hg) (aE (gz hg)))); clear HB; obtain ⟨HB, BK115, GW115, GE115⟩ := n_; clear hb hbox hg; obtain ⟨hcz8_0, hcz8_1, hcz8_2, hcz8_3, hfz8_0, hfz8_1, hfz8_2, hfz8_3⟩ := cz4f BK115.out))
  go_loopg [2, 7] k (fun kq v2 v7 w' => ∃ (x2_1 : Int) (x7_1 : Int), v2 = .int .i64 x2_1 ∧ v7 = .int .i64 x7_1 ∧ Aside0 (incunablelaw25_sizeOf.l0 kq a1 x2_1 x7_1 a0_0 a0_1 a0_2 l0_3 = some r) ∧ Aside0 (kq ≤ k) ∧ Aside0 (w'.heap[gb115]? = some (.cells #[.int .i64 a0_0, .string a0_1, .int .i64 a0_2, (.slice A0_3 l0_3.length c0_3)] 33 (0, 0))) ∧ Aside0 (Below w.heap.size w w'))
  case atStart => exact ⟨(wrap64 ((wrap64 (a2 - 1)) - (a0_1.size : Int))), (0), rq, rq, H', ⟨Nat.le_refl _⟩, ⟨bU BK115.out⟩, ⟨bl⟩⟩
  case round =>
   clear H'
   obtain ⟨x2_1, x7_1, rfl, rfl, HA, HK1, BK115, HB⟩ := hrel
   cases gk with
   | zero => exact absurd HA.out (by simp [incunablelaw25_sizeOf.l0])
   | succ k1 =>
    have H := HA.out
    clear HA
    simp only [incunablelaw25_sizeOf.l0] at H
    rcases iL H with H1 | H1 <;> clear H <;> obtain ⟨H, c9b0⟩ := H1
    ·rcases iL H with H1 | H1 <;> clear H <;> obtain ⟨H, c10b0⟩ := H1
     ·by_cases c11 : 0 ≤ x7_1
      ·rw [if_pos c11] at H
       have c11b0 := decide_eq_true c11
       clear c11
       obtain ⟨t117, A12, H⟩ := oB H
       try dsimp only at H
       have H' := Aside0.mk H
       clear H
       obtain ⟨hcz13_0, hcz13_1, hcz13_2, hcz13_3, hfz13_0, hfz13_1, hfz13_2, hfz13_3⟩ := cz4f BK115.out
       have p116 : 0 ≤ (x7_1 : Int) := dt
       have q116 : x7_1 < (l0_3.length : Int) := dt
       obtain ⟨ad116, A116_3, c116_3, e116, hx116_0, hx116_1, hx116_2, hx116_3, hl116_3, hi116_3⟩ := at_T33 HR0_3.out x7_1 p116 q116
       cases e116
       replace hx116_0 := hcB HB.out hx116_0
       replace hx116_1 := hcB HB.out hx116_1
       replace hx116_2 := hcB HB.out hx116_2
       replace hx116_3 := hcB HB.out hx116_3
       have HR116_3 := Aside0.mk hi116_3
       have HC116_3 := Aside0.mk hl116_3
       clear hi116_3 hl116_3
       replace p116 := eq_true p116
       replace q116 := eq_true q116
       go_wp2_with (first | (refine gF 66 35 Tryd.func66 #[.agg #[.int .i64 ((rd_T33 l0_3 x7_1).f0), .string ((rd_T33 l0_3 x7_1).f1), .int .i64 ((rd_T33 l0_3 x7_1).f2), .slice A116_3 ((rd_T33 l0_3 x7_1).f3).length c116_3], .int .i64 (wrap64 (a1 - 1)), .int .i64 x2_1] rfl rfl ?_; (with_reducible refine (ih k1 (by have := HK1.out; omega) ((rd_T33 l0_3 x7_1).f0) ((rd_T33 l0_3 x7_1).f1) ((rd_T33 l0_3 x7_1).f2) _ _ ((rd_T33 l0_3 x7_1).f3) (wrap64 (a1 - 1)) x2_1 t117 _ ?side1 ?side2 A12.out).mono ?_); (case side1 => exact cU (Kd.C_below HR116_3.out HB.out)); (case side2 => exact HC116_3.out); rintro e w14 ⟨rfl, hb⟩; refine ⟨_, rfl, ?_⟩; have n_ := aC (blk_below (bU BK115.out) hb) (aE (bs hb)); clear BK115 HB; obtain ⟨BK115, HB⟩ := n_))
       go_roundg k1
       case measure => have := HK1.out; omega
       case rel => exact ⟨(t117), (wrap64 (x7_1 + 1)), rq, rq, H', ⟨by have := HK1.out; omega⟩, ⟨bU BK115.out⟩, ⟨bl⟩⟩
      ·rw [if_neg c11] at H
       exact absurd H (by simp)
     ·obtain rfl := Option.some.inj H
      obtain ⟨hcz15_0, hcz15_1, hcz15_2, hcz15_3, hfz15_0, hfz15_1, hfz15_2, hfz15_3⟩ := cz4f BK115.out
      go_wp2
      go_ret
      exact ⟨re, bl⟩
    ·obtain rfl := Option.some.inj H
     obtain ⟨hcz16_0, hcz16_1, hcz16_2, hcz16_3, hfz16_0, hfz16_1, hfz16_2, hfz16_3⟩ := cz4f BK115.out
     go_wp2
     go_ret
     exact ⟨re, bl⟩
def incunablelaw25_size.f (k : Nat) (a0_0 : Int) (a0_1 : ByteArray) (a0_2 : Int) (l0_3 : List (S33)) (a1 : Int) : Option (Int) := (incunablelaw25_sizeOf.f k a0_0 a0_1 a0_2 l0_3 a1 6000).bind fun t119 => (some t119)
theorem incunablelaw25_size.mono : ∀ a0 a1 a2 a3 a4 k, LeO (incunablelaw25_size.f k a0 a1 a2 a3 a4) (incunablelaw25_size.f (k + 1) a0 a1 a2 a3 a4) := by
 intro a0 a1 a2 a3 a4 k
 unfold incunablelaw25_size.f
 repeat' first
   | (with_reducible exact incunablelaw25_sizeOf.mono _ _ _ _ _ _ _)
   | (with_reducible first | exact LeO.refl _ | exact LeO.none _ | refine LeO.ite ?_ ?_ | refine LeO.bind ?_ (fun _ => ?_))
set_option maxHeartbeats 8000000 in
set_option maxRecDepth 100000 in
theorem incunablelaw25_size.calls (k : Nat) (a0_0 : Int) (a0_1 : ByteArray) (a0_2 : Int) (A0_3 : Option Addr) (c0_3 : Nat) (l0_3 : List (S33)) (a1 : Int) (r : Int) (w : World) (hr0_3 : Kd.C k33 w A0_3 l0_3.length l0_3) (hc0_3 : l0_3.length ≤ c0_3) (h : incunablelaw25_size.f k a0_0 a0_1 a0_2 l0_3 a1 = some r) :
  Calls Tryd.prog 41 #[.agg #[.int .i64 a0_0, .string a0_1, .int .i64 a0_2, .slice A0_3 l0_3.length c0_3], .int .i64 a1] w fun e w' => e = .returned (.int .i64 r) ∧ Below w.heap.size w w' := by
 have hu33 := Tryd.underlying33
 have HR0_3 := Aside0.mk hr0_3
 have HC0_3 := Aside0.mk hc0_3
 clear hr0_3 hc0_3
 have HB := Aside0.mk (Below.refl w.heap.size w)
 have H : ((incunablelaw25_sizeOf.f k a0_0 a0_1 a0_2 l0_3 a1 6000).bind fun t119 => (some t119)) = some r := h
 clear h
 obtain ⟨t119, A3, H⟩ := oB H
 try dsimp only at H
 obtain rfl := Option.some.inj H
 go_enter Tryd.func41, Tryd.ntmps41
 go_wp2_with (first | ((with_reducible refine gd 2 rfl ?_); refine bx 2 #[.int .i64 a0_0, .string a0_1, .int .i64 a0_2, .slice A0_3 l0_3.length c0_3] 33 rfl rfl ?_; intro gb118 hg w4 hbox hb; have n_ := aC (bs hb) (aC hbox (aC (gz hg) (aE (gz hg)))); clear HB; obtain ⟨HB, BK118, GW118, GE118⟩ := n_; clear hb hbox hg; obtain ⟨hcz5_0, hcz5_1, hcz5_2, hcz5_3, hfz5_0, hfz5_1, hfz5_2, hfz5_3⟩ := cz4f BK118.out) | (refine gF 66 7 Tryd.func66 #[.agg #[.int .i64 a0_0, .string a0_1, .int .i64 a0_2, .slice A0_3 l0_3.length c0_3], .int .i64 a1, .int .i64 6000] rfl rfl ?_; (with_reducible refine (incunablelaw25_sizeOf.calls k a0_0 a0_1 a0_2 _ _ l0_3 a1 6000 t119 _ ?side1 ?side2 A3.out).mono ?_); (case side1 => exact cU (Kd.C_below HR0_3.out HB.out)); (case side2 => exact HC0_3.out); rintro e w6 ⟨rfl, hb⟩; refine ⟨_, rfl, ?_⟩; have n_ := aC (blk_below (bU BK118.out) hb) (aE (bs hb)); clear BK118 HB; obtain ⟨BK118, HB⟩ := n_))
 go_ret
 exact ⟨re, bl⟩
def incunablelaw25_Deep.f (k : Nat) (a0_0 : Int) (a0_1 : ByteArray) (a0_2 : Int) (l0_3 : List (S33)) : Option (Bool) := (incunablelaw25_size.f k a0_0 a0_1 a0_2 l0_3 60).bind fun t121 => (some (decide (t121 < 0)))
theorem incunablelaw25_Deep.mono : ∀ a0 a1 a2 a3 k, LeO (incunablelaw25_Deep.f k a0 a1 a2 a3) (incunablelaw25_Deep.f (k + 1) a0 a1 a2 a3) := by
 intro a0 a1 a2 a3 k
 unfold incunablelaw25_Deep.f
 repeat' first
   | (with_reducible exact incunablelaw25_size.mono _ _ _ _ _ _)
   | (with_reducible first | exact LeO.refl _ | exact LeO.none _ | refine LeO.ite ?_ ?_ | refine LeO.bind ?_ (fun _ => ?_))
set_option maxHeartbeats 8000000 in
set_option maxRecDepth 100000 in
theorem incunablelaw25_Deep.calls (k : Nat) (a0_0 : Int) (a0_1 : ByteArray) (a0_2 : Int) (A0_3 : Option Addr) (c0_3 : Nat) (l0_3 : List (S33)) (r : Bool) (w : World) (hr0_3 : Kd.C k33 w A0_3 l0_3.length l0_3) (hc0_3 : l0_3.length ≤ c0_3) (h : incunablelaw25_Deep.f k a0_0 a0_1 a0_2 l0_3 = some r) :
  Calls Tryd.prog 16 #[.agg #[.int .i64 a0_0, .string a0_1, .int .i64 a0_2, .slice A0_3 l0_3.length c0_3]] w fun e w' => e = .returned (.bool r) ∧ Below w.heap.size w w' := by
 have hu33 := Tryd.underlying33
 have HR0_3 := Aside0.mk hr0_3
 have HC0_3 := Aside0.mk hc0_3
 clear hr0_3 hc0_3
 have HB := Aside0.mk (Below.refl w.heap.size w)
 have H : ((incunablelaw25_size.f k a0_0 a0_1 a0_2 l0_3 60).bind fun t121 => (some (decide (t121 < 0)))) = some r := h
 clear h
 obtain ⟨t121, A2, H⟩ := oB H
 try dsimp only at H
 obtain rfl := Option.some.inj H
 go_enter Tryd.func16, Tryd.ntmps16
 go_wp2_with (first | ((with_reducible refine gd 1 rfl ?_); refine bx 1 #[.int .i64 a0_0, .string a0_1, .int .i64 a0_2, .slice A0_3 l0_3.length c0_3] 33 rfl rfl ?_; intro gb120 hg w3 hbox hb; have n_ := aC (bs hb) (aC hbox (aC (gz hg) (aE (gz hg)))); clear HB; obtain ⟨HB, BK120, GW120, GE120⟩ := n_; clear hb hbox hg; obtain ⟨hcz4_0, hcz4_1, hcz4_2, hcz4_3, hfz4_0, hfz4_1, hfz4_2, hfz4_3⟩ := cz4f BK120.out) | (refine gF 41 4 Tryd.func41 #[.agg #[.int .i64 a0_0, .string a0_1, .int .i64 a0_2, .slice A0_3 l0_3.length c0_3], .int .i64 60] rfl rfl ?_; (with_reducible refine (incunablelaw25_size.calls k a0_0 a0_1 a0_2 _ _ l0_3 60 t121 _ ?side1 ?side2 A2.out).mono ?_); (case side1 => exact cU (Kd.C_below HR0_3.out HB.out)); (case side2 => exact HC0_3.out); rintro e w5 ⟨rfl, hb⟩; refine ⟨_, rfl, ?_⟩; have n_ := aC (blk_below (bU BK120.out) hb) (aE (bs hb)); clear BK120 HB; obtain ⟨BK120, HB⟩ := n_))
 go_ret
 exact ⟨re, bl⟩
def incunableref25_isLetter.f (a0 : Int) : Option (Bool) := if a0 ≥ 97 then (some (decide (a0 ≤ 122))) else (some false)
set_option maxHeartbeats 8000000 in
set_option maxRecDepth 100000 in
theorem incunableref25_isLetter.calls (a0 : Int) (r : Bool) (w : World) (h : incunableref25_isLetter.f a0 = some r) :
  Calls Tryd.prog 97 #[.int .u8 a0] w fun e w' => e = .returned (.bool r) ∧ Drawn0 w w' := by
 have H : (if a0 ≥ 97 then (some (decide (a0 ≤ 122))) else (some false)) = some r := h
 clear h
 rcases iL H with H1 | H1 <;> clear H <;> obtain ⟨H, c2b0⟩ := H1
 ·obtain rfl := Option.some.inj H
  go_enter Tryd.func97, Tryd.ntmps97
  go_wp2
  go_ret
  exact ⟨by first | rfl | (simp; done) | (simp [*]; done), by repeat (first | exact Drawn0.refl _ | apply Drawn0.step)⟩
 ·obtain rfl := Option.some.inj H
  go_enter Tryd.func97, Tryd.ntmps97
  go_wp2
  go_ret
  exact ⟨by first | rfl | (simp; done) | (simp [*]; done), by repeat (first | exact Drawn0.refl _ | apply Drawn0.step)⟩
def incunableref25_isWord.f (a0 : Int) : Option (Bool) := (incunableref25_isLetter.f a0).bind fun t122 => (if t122 = true then (some true) else (if a0 ≥ 48 then (if a0 ≤ 57 then (some true) else (some (a0 == 45))) else (some (a0 == 45))))
set_option maxHeartbeats 8000000 in
set_option maxRecDepth 100000 in
theorem incunableref25_isWord.calls (a0 : Int) (r : Bool) (w : World) (h : incunableref25_isWord.f a0 = some r) :
  Calls Tryd.prog 98 #[.int .u8 a0] w fun e w' => e = .returned (.bool r) ∧ Drawn0 w w' := by
 have H := h
 unfold incunableref25_isWord.f at H
 clear h
 obtain ⟨t122, A2, H⟩ := oB H
 try dsimp only at H
 by_cases c3 : t122 = true
 ·subst c3
  rw [if_pos rfl] at H
  obtain rfl := Option.some.inj H
  go_enter Tryd.func98, Tryd.ntmps98
  go_wp2_with (first | (refine gF 97 4 Tryd.func97 #[.int .u8 a0] rfl rfl ?_; (with_reducible refine (incunableref25_isLetter.calls a0 true _ A2.out).mono ?_); rintro e w' ⟨rfl, ⟨nd, rfl⟩⟩; refine ⟨_, rfl, ?_⟩))
  go_ret
  exact ⟨by first | rfl | (simp; done) | (simp [*]; done), by repeat (first | exact Drawn0.refl _ | apply Drawn0.step)⟩
 ·replace c3 := Bool.eq_false_iff.mpr c3
  subst c3
  rw [if_neg Bool.false_ne_true] at H
  rcases iL H with H1 | H1 <;> clear H <;> obtain ⟨H, c4b0⟩ := H1
  ·rcases iL H with H1 | H1 <;> clear H <;> obtain ⟨H, c5b0⟩ := H1
   ·obtain rfl := Option.some.inj H
    go_enter Tryd.func98, Tryd.ntmps98
    go_wp2_with (first | (refine gF 97 4 Tryd.func97 #[.int .u8 a0] rfl rfl ?_; (with_reducible refine (incunableref25_isLetter.calls a0 false _ A2.out).mono ?_); rintro e w' ⟨rfl, ⟨nd, rfl⟩⟩; refine ⟨_, rfl, ?_⟩))
    go_ret
    exact ⟨by first | rfl | (simp; done) | (simp [*]; done), by repeat (first | exact Drawn0.refl _ | apply Drawn0.step)⟩
   ·obtain rfl := Option.some.inj H
    go_enter Tryd.func98, Tryd.ntmps98
    go_wp2_with (first | (refine gF 97 4 Tryd.func97 #[.int .u8 a0] rfl rfl ?_; (with_reducible refine (incunableref25_isLetter.calls a0 false _ A2.out).mono ?_); rintro e w' ⟨rfl, ⟨nd, rfl⟩⟩; refine ⟨_, rfl, ?_⟩))
    go_ret
    exact ⟨by first | rfl | (simp; done) | (simp [*]; done), by repeat (first | exact Drawn0.refl _ | apply Drawn0.step)⟩
  ·obtain rfl := Option.some.inj H
   go_enter Tryd.func98, Tryd.ntmps98
   go_wp2_with (first | (refine gF 97 4 Tryd.func97 #[.int .u8 a0] rfl rfl ?_; (with_reducible refine (incunableref25_isLetter.calls a0 false _ A2.out).mono ?_); rintro e w' ⟨rfl, ⟨nd, rfl⟩⟩; refine ⟨_, rfl, ?_⟩))
   go_ret
   exact ⟨by first | rfl | (simp; done) | (simp [*]; done), by repeat (first | exact Drawn0.refl _ | apply Drawn0.step)⟩
end Go.Proofs.YtacdchogjpeffaaDoor.PNoteFormats
