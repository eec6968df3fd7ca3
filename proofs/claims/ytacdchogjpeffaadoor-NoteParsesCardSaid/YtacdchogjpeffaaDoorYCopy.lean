/- Words for printed walks: the builtin copy onto a cut of a row of one's own. No conditions. -/
import Derived.Test.YtacdchogjpeffaaDoorWWords
namespace Go.Proofs.YtacdchogjpeffaaDoorW.PrintWords
open Go.RowKit
def cpy {α : Type} (xs : List α) (k m : Nat) (ys : List α) : List α := xs.take k ++ (ys.take (min ys.length m) ++ xs.drop (k + min ys.length m))
theorem cpy_length {α : Type} (xs : List α) (k m : Nat) (ys : List α) (h : k + m ≤ xs.length) : (cpy xs k m ys).length = xs.length := by
  unfold cpy
  rw [List.length_append, List.length_append, List.length_take, List.length_take, List.length_drop]
  omega
namespace Kd
theorem R_copyin_run {P : Program} {α : Type} {enc : α → Value} {h1 : ∀ x, (enc x).oneCell' = true} (d : α) {W : World} (base : Nat) (t t' ty e : TypeId) (ht : P.underlying t = some (.slice e)) (hinfo : (P.info? e).map (·.size) = some 1)
    {n c k m mb c1 cb : Nat} {A0 A B : Option Addr} {xs ys : List α} {ok : Nat → Prop} (HO : (scalar enc h1).R e W base ok (.slice A0 n c) xs) (hkm : k + m ≤ n)
    (hA : A = if c = k then A0 else A0.map (·.add (k * 1))) (HR : (scalar enc h1).C W B mb ys) :
    ∃ w1, (Builtin.copy_ #[t, t'] ty #[.slice A m c1, .slice B mb cb]).run P W = .ok (goInt ((min mb m : Nat) : Int)) w1 ∧ (scalar enc h1).R e w1 base ok (.slice A0 n c) (cpy xs k m ys) ∧ W.grownBy w1 (Value.slice A0 n c).ownBlock := by
  have hR := reads_of_C (enc := enc) (d := d) (h1 := h1) HR
  have hmb : ys.length = mb := hR.1
  have hown := own_of_R HO
  have hn : n = xs.length := (R_reads' HO).1
  have hnc0 : n ≤ c := (R_reads' HO).2.1
  rcases Nat.eq_zero_or_pos (min mb m) with h0 | hp
  · refine ⟨W, ?_, ?_, World.grownBy.refl W _⟩
    · rw [h0]; exact run_copy_none W t t' ty e A B m c1 mb cb ht hinfo h0
    · have : cpy xs k m ys = xs := by unfold cpy; rw [hmb, h0]; simp
      rw [this]; exact HO
  · obtain ⟨ad, hB, hc⟩ := hR.2.2 (by omega)
    rcases hown.2 with ⟨hv, _⟩ | ⟨g', cap, cur, hv, hb, hh, hnc, hcm, hcs, htake⟩
    · injection hv with _ hv _
      omega
    · injection hv with ha _ hc'
      subst ha; subst hc'
      obtain ⟨g, hg⟩ : ∃ g, g = g' := ⟨_, rfl⟩
      subst hg
      have hcs1 : cur.size = c := by omega
      have hAk : A = some ⟨g, k, none⟩ := by rw [hA, if_neg (by omega)]; simp [Addr.add]; try omega
      have hkl : (encs enc (ys.take (min mb m))).length = min mb m := by rw [encs_length, List.length_take]; omega
      have hsrc : ∀ j u, (encs enc (ys.take (min mb m)))[j]? = some u → W.cell? (ad.add j) = some u := by
        intro j u hu
        have hj : j < (ys.take (min mb m)).length := by
          rcases Nat.lt_or_ge j (ys.take (min mb m)).length with h | h
          · exact h
          · rw [List.getElem?_eq_none (by rw [encs_length]; exact h)] at hu
            cases hu
        have hjm : j < min mb m := by rw [List.length_take] at hj; omega
        rw [encs_get (d := d) _ j hj] at hu
        rw [hc j (by omega), ← hu]
        simp [List.getD_eq_getElem?_getD, hjm]
      have hr := run_copy_cells (P := P) W t t' ty e g k m c1 ad mb cb (encs enc (ys.take (min mb m))) ht hinfo (by rw [hkl]) hsrc
        (fun j hj => by rw [cell_of_row W g _ cur e (0, 0) hh]; simp; omega) (fun j _ => blk_frozen hh _) (by intro u hu; simp only [encs, List.mem_map] at hu; obtain ⟨q, _, rfl⟩ := hu; exact h1 q)
      obtain ⟨cur', h3, h4, h5⟩ := setCells_row (encs enc (ys.take (min mb m))) k W cur hh (by rw [hkl]; omega)
      obtain ⟨s1, s2, s3, s4⟩ := setCells_same g (encs enc (ys.take (min mb m))) k W
      have hln : (cpy xs k m ys).length = xs.length := cpy_length xs k m ys (by omega)
      refine ⟨_, by rw [hAk, hB, hr, hkl], R_of_own ?_ HO.1, ⟨s1, s2, s3, by rw [s4]; exact Nat.le_refl _, fun q _ hq => setCells_far _ _ q (fun he => hq (by rw [he]; simp [Value.ownBlock]))⟩⟩
      rw [hln]
      refine ⟨by rw [encs_length, hln, Nat.mul_one], .inr ⟨g, c, cur', by rw [hn], hb, h3, by omega, hcm, by rw [h4, hcs], ?_⟩⟩
      have htk : cur.toList.take xs.length = encs enc xs := by rw [← htake, Nat.mul_one]
      rw [Nat.mul_one, h5, hkl]
      have hk2 : k ≤ cur.toList.length := by simp; omega
      unfold cpy
      rw [hmb, encs_append, encs_append]
      have e1 : encs enc (xs.take k) = cur.toList.take k := by
        have : encs enc (xs.take k) = (encs enc xs).take k := by simp [encs, List.map_take]
        rw [this, ← htk, List.take_take, Nat.min_eq_left (by omega)]
      have e2 : encs enc (xs.drop (k + min mb m)) = (cur.toList.take xs.length).drop (k + min mb m) := by
        rw [htk]; simp [encs, List.map_drop]
      rw [e1, e2, List.append_assoc, List.take_append, List.length_take, Nat.min_eq_left hk2, List.take_append, hkl, List.take_of_length_le (l := cur.toList.take k) (by rw [List.length_take]; omega), List.take_of_length_le (l := encs enc _) (by rw [hkl]; omega), List.drop_take]
      congr 3
      omega
section
variable {P : Program} {ops : Array Oper} {rest : List Oper} {o : Oper} {a : Act} {Q : Exit → Act → World → Prop} {Kc : Act → World → Prop} {α : Type} {enc : α → Value} {h1 : ∀ x, (enc x).oneCell' = true}
theorem R_copyin (d : α) {w0 W : World} (base : Nat) (hgd : o.guard = none) (s x : Operand) (t t' e : TypeId) (ho : o.op = .call { callee := .builtin .copy, args := #[s, x], argTypes := #[t, t'] })
    (ht : P.underlying t = some (.slice e)) (hinfo : (P.info? e).map (·.size) = some 1) {n c k m mb c1 cb : Nat} {A0 A B : Option Addr} {xs ys : List α} {ok : Nat → Prop}
    (hs : a.eval s = .slice A m c1) (hx : a.eval x = .slice B mb cb) (hA : A = if c = k then A0 else A0.map (·.add (k * 1)))
    (HO : (scalar enc h1).R e W base ok (.slice A0 n c) xs) (HR : (scalar enc h1).C W B mb ys) (hkm : k + m ≤ n) (HB : Below base w0 W) (hbase : base ≤ W.heap.size)
    (h : ∀ w1, (scalar enc h1).R e w1 base ok (.slice A0 n c) (cpy xs k m ys) → Below base w0 w1 → W.grownBy w1 (Value.slice A0 n c).ownBlock → wpList P ops Q rest (a.put o.dst (goInt ((min mb m : Nat) : Int))) w1) : wpList P ops Q (o :: rest) a W := by
  obtain ⟨w1, hr, h2, h3⟩ := R_copyin_run (P := P) d base t t' o.type e ht hinfo HO hkm hA HR (c1 := c1) (cb := cb)
  refine wpList_plain hgd fun K hK => ?_
  unfold Oper.wp execOp
  simp only [ho, resolve, invoke, builtin, Sem.run_bind, Sem.run_pure, Result.andThen_ok, List.map_toArray, List.map_cons, List.map_nil, hs, hx, hr]
  exact hK _ _ (h w1 h2 (HB.grown h3 hbase (R_base HO)) h3)
theorem R_copyin_step (d : α) {w0 W : World} (base : Nat) (hw : Region.wanted o (yielded ops a.tmps) = true) (s x : Operand) (t t' e : TypeId) (ho : o.op = .call { callee := .builtin .copy, args := #[s, x], argTypes := #[t, t'] })
    (ht : P.underlying t = some (.slice e)) (hinfo : (P.info? e).map (·.size) = some 1) {n c k m mb c1 cb : Nat} {A0 A B : Option Addr} {xs ys : List α} {ok : Nat → Prop}
    (hs : a.eval s = .slice A m c1) (hx : a.eval x = .slice B mb cb) (hA : A = if c = k then A0 else A0.map (·.add (k * 1)))
    (HO : (scalar enc h1).R e W base ok (.slice A0 n c) xs) (HR : (scalar enc h1).C W B mb ys) (hkm : k + m ≤ n) (HB : Below base w0 W) (hbase : base ≤ W.heap.size)
    (h : ∀ w1, (scalar enc h1).R e w1 base ok (.slice A0 n c) (cpy xs k m ys) → Below base w0 w1 → W.grownBy w1 (Value.slice A0 n c).ownBlock → Kc (a.put o.dst (goInt ((min mb m : Nat) : Int))) w1) :
    if Region.wanted o (yielded ops a.tmps) = true then Oper.wp P o a W Kc Q else Kc (a.put o.dst undef) W := by
  obtain ⟨w1, hr, h2, h3⟩ := R_copyin_run (P := P) d base t t' o.type e ht hinfo HO hkm hA HR (c1 := c1) (cb := cb)
  rw [if_pos hw]
  unfold Oper.wp execOp
  simp only [ho, resolve, invoke, builtin, Sem.run_bind, Sem.run_pure, Result.andThen_ok, List.map_toArray, List.map_cons, List.map_nil, hs, hx, hr]
  exact h w1 h2 (HB.grown h3 hbase (R_base HO)) h3
end
end Kd
end Go.Proofs.YtacdchogjpeffaaDoorW.PrintWords
