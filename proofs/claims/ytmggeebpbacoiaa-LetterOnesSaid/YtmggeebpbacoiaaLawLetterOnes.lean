-- Written by a program of this session (wip/tools/myprint.py) over the kit's print. Not trusted: Lean checks it.
import Derived.Test.YtmggeebpbacoiaaRows
import Derived.Test.YtmggeebpbacoiaaPLetterOnesx9
import Derived.Test.YtmggeebpbacoiaaPureLetterOnes
import Derived.Test.YtmggeebpbacoiaaYOpens
import Derived.WalkKit
import Derived.ProofKit
import Derived.OpenShut
import Derived.ShutString
import Derived.ChangeOld
import Derived.Below
import Derived.SizedLaws
import Derived.Carry
namespace Go.Proofs.Ytmggeebpbacoiaa.letterOnes
open Go.ChangeShapes Go.WideShapes Go.ChangeAt Go.RowKit Go.Proofs.YtmggeebpbacoiaaW.PrintWords Go.Proofs.YtmggeebpbacoiaaW.Opens Go.Proofs.Ytmggeebpbacoiaa.PLetterOnes
open Go.ChangeMaps (open_string shut_string)
set_option linter.unusedVariables false
theorem own : ownKnob Try.prog.godebug = none := by kernel_rfl
theorem laidOut : laidOutB Try.prog = true := by kernel_rfl
set_option maxRecDepth 100000 in
theorem lifted (os : Os) (started : os.Started) (H : Type) (enc : TypeId × Value → H) :
    ReturnsInHanded {} Try.checked os 5 .any (Rows.letterOnesSpec.pre6 enc Try.prog Try.f5 Rows.letterOnesRow.domain false) (Rows.letterOnesSpec.post enc Try.prog Try.f5 false true false false) := by
  refine returnsInHanded_of_change_sized (C := Try.checked) own started (by kernel_rfl) Try.func5
    (ChangeSpec.witness6 (enc := enc) (C := Try.checked) false ⟨#[], #[.slice none 0 0, .agg #[.int .i64 0, .int .i64 0, .slice none 0 0], .agg #[.int .i64 0, .int .i64 0, .slice none 0 0], .int .i64 0], []⟩ 8 (by kernel_rfl) (by kernel_rfl) (by kernel_rfl) (by kernel_rfl)) ?_
  intro W base args ds gs before hval0 hW hcnd hsz0 _
  have hsz : (DataW.weightsEach Try.prog (Try.f5.params.toList ++ Rows.letterOnesSpec.plain.varTypes Try.prog) (ds ++ gs)).all (· ≤ reachBytes) = true := hsz0
  have hval : ∀ (j : Nat) t v, Try.f5.params[j]? = some t → args[j]? = some v → Value.okWide Try.prog W .any base t v := hval0
  have hW' := hW
  obtain ⟨p, q, hA0, hV, rfl, hfz, hnd⟩ := hW
  have hA : DataW.TrodAll enc Try.prog W 0 (fun _ => true) true Try.f5.params.toList args.toList ds p := hA0
  rw [Try.params5] at hA hval hsz
  obtain ⟨v0, vs0, d0, ds0, p0, q0, hargs, rfl, rfl, h0, r0⟩ := trodAll_cons hA
  obtain ⟨v1, vs1, d1, ds1, p1, q1, rfl, rfl, rfl, h1, r1⟩ := trodAll_cons r0
  obtain ⟨v2, vs2, d2, ds2, p2, q2, rfl, rfl, rfl, h2, r2⟩ := trodAll_cons r1
  obtain ⟨v3, vs3, d3, ds3, p3, q3, rfl, rfl, rfl, h3, r3⟩ := trodAll_cons r2
  obtain ⟨rfl, rfl, rfl⟩ := trodAll_nil r3
  obtain rfl : args = #[v0, v1, v2, v3] := by cases args; simp_all
  obtain ⟨rfl, rfl⟩ := trodVars_none hV
  have k0 := h0
  have lt0 : ∀ x ∈ p0, x.block < W.heap.size := by obtain ⟨m, hm⟩ := k0; exact DataW.trod_lt m _ _ _ hm
  obtain ⟨b0, K0, G0⟩ := opens_top ((opens_slice (B := 48) Try.underlying31 (by kernel_rfl) (by kernel_rfl) (opens_iso (opens_struct Try.underlying45 (by kernel_rfl) (opensF_cons rfl (by kernel_rfl) (opens_iso (opens_struct Try.underlying34 (by kernel_rfl) (opensF_cons rfl (by kernel_rfl) (opens_int Try.underlying3) (opensF_cons rfl (by kernel_rfl) (opens_int Try.underlying3) (opensF_one rfl (by kernel_rfl) (opens_slice (B := 1) Try.underlying32 (by kernel_rfl) (by kernel_rfl) (opens_int Try.underlying5)))))) _ (fun x => (⟨x.1, x.2.1, x.2.2⟩ : S34)) (fun _ => rfl)) (opensF_one rfl (by kernel_rfl) (opens_int Try.underlying5)))) _ (fun x => (⟨x.1, x.2⟩ : S45)) (fun _ => rfl))) : Opens Try.prog 31 (Kd.slice 45 k45) _) hsz (j := 0) (t := 31) rfl rfl h0
  obtain ⟨a0, len0, cap0, rfl⟩ := okWide_slice Try.underlying31 (hval 0 31 v0 rfl rfl)
  obtain ⟨A0, c0, e0, hc0, hr0⟩ := K0
  obtain ⟨rfl, rfl, rfl⟩ : a0 = A0 ∧ len0 = b0.length ∧ cap0 = c0 := by simpa [Value.cells] using e0
  have k1 := h1
  have lt1 : ∀ x ∈ p1, x.block < W.heap.size := by obtain ⟨m, hm⟩ := k1; exact DataW.trod_lt m _ _ _ hm
  obtain ⟨b1, K1, G1⟩ := opens_top ((opens_struct Try.underlying34 (by kernel_rfl) (opensF_cons rfl (by kernel_rfl) (opens_int Try.underlying3) (opensF_cons rfl (by kernel_rfl) (opens_int Try.underlying3) (opensF_one rfl (by kernel_rfl) (opens_slice (B := 1) Try.underlying32 (by kernel_rfl) (by kernel_rfl) (opens_int Try.underlying5)))))) : Opens Try.prog 34 (Kd.pair (Kd.int .i64) (Kd.pair (Kd.int .i64) (Kd.slice 5 (Kd.int .u8)))) _) hsz (j := 1) (t := 34) rfl rfl h1
  obtain ⟨cs1, rfl, sz1⟩ := okWide_struct Try.underlying34 (hval 1 34 v1 rfl rfl)
  obtain ⟨cl1, ecl1, K1⟩ : ∃ cl, cs1 = cl ∧ ((Kd.pair (Kd.int .i64) (Kd.pair (Kd.int .i64) (Kd.slice 5 (Kd.int .u8))))).K W b1 cl.toList := ⟨_, rfl, K1⟩
  subst ecl1
  obtain ⟨cx1, ex1⟩ : ∃ cx, cs1.toList = cx := ⟨_, rfl⟩
  rw [ex1] at K1
  obtain ⟨_, _, rfl, rfl, ⟨_, _, rfl, rfl, ⟨A1_2, c1_2, rfl, hc1_2, hr1_2⟩⟩⟩ := K1
  obtain rfl : cs1 = #[.int .i64 b1.1, .int .i64 b1.2.1, .slice A1_2 b1.2.2.length c1_2] := by rw [← Array.toArray_toList (xs := cs1), ex1]; rfl
  have k2 := h2
  have lt2 : ∀ x ∈ p2, x.block < W.heap.size := by obtain ⟨m, hm⟩ := k2; exact DataW.trod_lt m _ _ _ hm
  obtain ⟨b2, K2, G2⟩ := opens_top ((opens_struct Try.underlying34 (by kernel_rfl) (opensF_cons rfl (by kernel_rfl) (opens_int Try.underlying3) (opensF_cons rfl (by kernel_rfl) (opens_int Try.underlying3) (opensF_one rfl (by kernel_rfl) (opens_slice (B := 1) Try.underlying32 (by kernel_rfl) (by kernel_rfl) (opens_int Try.underlying5)))))) : Opens Try.prog 34 (Kd.pair (Kd.int .i64) (Kd.pair (Kd.int .i64) (Kd.slice 5 (Kd.int .u8)))) _) hsz (j := 2) (t := 34) rfl rfl h2
  obtain ⟨cs2, rfl, sz2⟩ := okWide_struct Try.underlying34 (hval 2 34 v2 rfl rfl)
  obtain ⟨cl2, ecl2, K2⟩ : ∃ cl, cs2 = cl ∧ ((Kd.pair (Kd.int .i64) (Kd.pair (Kd.int .i64) (Kd.slice 5 (Kd.int .u8))))).K W b2 cl.toList := ⟨_, rfl, K2⟩
  subst ecl2
  obtain ⟨cx2, ex2⟩ : ∃ cx, cs2.toList = cx := ⟨_, rfl⟩
  rw [ex2] at K2
  obtain ⟨_, _, rfl, rfl, ⟨_, _, rfl, rfl, ⟨A2_2, c2_2, rfl, hc2_2, hr2_2⟩⟩⟩ := K2
  obtain rfl : cs2 = #[.int .i64 b2.1, .int .i64 b2.2.1, .slice A2_2 b2.2.2.length c2_2] := by rw [← Array.toArray_toList (xs := cs2), ex2]; rfl
  obtain ⟨a3, rfl, rfl, rfl, w3⟩ := open_int Try.underlying3 (hval 3 3 v3 rfl rfl) h3
  clear hA0 hval0 hsz0 hsz
  refine (PLetterOnes.incunablelaw30_LetterOnes.walk Pure.LetterOnes _ _ b0 b1.1 b1.2.1 _ _ b1.2.2 b2.1 b2.2.1 _ _ b2.2.2 a3 W hr0 hc0 hr1_2 hc1_2 hr2_2 hc2_2 G0 G1.1 G1.2.1 G1.2.2 G2.1 G2.2.1 G2.2.2 w3).mono fun e W' ⟨he, bel⟩ => ?_
  subst he
  exact ⟨_, rfl, _, _, _, [], _, [], hW', trodAll_mk1 (shut_bool Try.underlying4 _), (trodAll_cons_mk (Below.trod laidOut (by kernel_rfl) (of_decide_eq_true (by kernel_rfl)) k0 bel lt0) (trodAll_cons_mk (Below.trod laidOut (by kernel_rfl) (of_decide_eq_true (by kernel_rfl)) k1 bel lt1) (trodAll_cons_mk (Below.trod laidOut (by kernel_rfl) (of_decide_eq_true (by kernel_rfl)) k2 bel lt2) (trodAll_cons_mk (shut_int Try.underlying3 w3) trodAll_mk0)))), rfl, bel.frame _, fun h => by cases h⟩
theorem over : Rows.letterOnesRow.holds Try.pinned (OpenSpec.ofChange Rows.letterOnesSpec) :=
  OpenClaim.holds_of_wide 5 Try.f5 rfl rfl rfl rfl rfl rfl rfl ⟨rfl, rfl, rfl, rfl, rfl⟩ rfl rfl rfl rfl rfl (by kernel_rfl) Try.func5 (by kernel_rfl)
    (of_decide_eq_true (by kernel_rfl)) (by unfold Func.isWrapper; first | (rw [if_pos (by decide +kernel)]; kernel_rfl) | (rw [if_neg (by decide +kernel)]; exact ⟨rfl, rfl⟩))
    (fun os started H enc _ => lifted os started H enc)
theorem proved : Rows.LetterOnesSaid := over
#print axioms proved
end Go.Proofs.Ytmggeebpbacoiaa.letterOnes
namespace Go.Proofs.Ytmggeebpbacoiaa
/-- The row, under a short name, for the claim. -/
theorem letterOnes_holds : Rows.LetterOnesSaid := letterOnes.proved
end Go.Proofs.Ytmggeebpbacoiaa
