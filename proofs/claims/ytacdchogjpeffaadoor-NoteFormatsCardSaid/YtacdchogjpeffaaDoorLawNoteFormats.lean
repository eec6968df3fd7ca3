-- Written by a program of this session (wip/tools/myprint.py) over the kit's print. Not trusted: Lean checks it.
import Derived.Test.YtacdchogjpeffaaDoorRows
import Derived.Test.YtacdchogjpeffaaDoorCards
import Derived.Test.YtacdchogjpeffaaDoorTie
import Derived.Test.YtacdchogjpeffaaDoorPNoteFormatsx11
import Derived.Test.YtacdchogjpeffaaDoorPureNoteFormats
import Derived.Test.YtacdchogjpeffaaDoorYOpens
import Derived.WalkKit
import Derived.LaidSub
import Derived.Stop.LaidErr
import Derived.Lib.LaidTab
import Derived.LaidMore
import Derived.Lay
import Derived.Stop.Joined
import Derived.SevenTiedAt
import Derived.ProofKit
import Derived.OpenShut
import Derived.ShutString
import Derived.ChangeOld
import Derived.Below
import Derived.SizedLaws
import Derived.Carry
namespace Go.Proofs.YtacdchogjpeffaaDoor.noteFormats
open Go.ChangeShapes Go.WideShapes Go.ChangeAt Go.RowKit Go.Proofs.YtacdchogjpeffaaDoorW.PrintWords Go.Proofs.YtacdchogjpeffaaDoorW.Opens Go.Proofs.YtacdchogjpeffaaDoor.PNoteFormats
open Go.ChangeMaps (open_string shut_string)
set_option linter.unusedVariables false
theorem own : ownKnob Tryd.prog.godebug = none := by kernel_rfl
theorem laidOut : laidOutB Tryd.prog = true := by kernel_rfl
def laidL : List (String × DataW Unit) := [("math/bits.deBruijn32tab", Rows.laid_math_bits_deBruijn32tab), ("math/bits.deBruijn64tab", Rows.laid_math_bits_deBruijn64tab), ("internal/strconv.uint64pow10", Rows.laid_internal_strconv_uint64pow10), ("unicode/utf8.acceptRanges", Rows.laid_unicode_utf8_acceptRanges), ("strconv.ErrRange", Rows.laid_strconv_ErrRange), ("strconv.ErrSyntax", Rows.laid_strconv_ErrSyntax), ("unicode/utf8.first", Rows.laid_unicode_utf8_first)]
theorem errs_star : "*" ++ "errors.errorString" = "*errors.errorString" := by decide
theorem errs_row (u : TypeId) (h : Tryd.prog.typeName? 3 u = some "*errors.errorString") : u = 171 :=
  typeName_ptr_named (nm := "errors.errorString") (by rw [errs_star]; kernel_rfl) (by kernel_rfl) (by decide) u (by rw [errs_star]; exact h)
theorem errs_of (n : String) (text : List UInt8) {W : World} {g : Nat} (h : laidMet Tryd.prog [(n, .iface "*errors.errorString" (.ptr (.agg [.lit (.string text)])))] W) (hg : Tryd.prog.globalNamed n = some g) (ht : (Tryd.prog.globals[g]?).map (·.type) = some 107) : ErrIs g W := by
  obtain ⟨a, s, hv, _⟩ := laid_sentinel (ti := 107) (tp := 171) (te := 173) (ts := 9) h hg ht Tryd.underlying107 errs_row Tryd.underlying171 Tryd.underlying173 rfl rfl Tryd.underlying9 (by kernel_rfl) (by kernel_rfl)
  exact ⟨_, _, by have h0 := World.var?_cell hg hv 0; simpa using h0⟩
theorem tis_of {W : World} (h : laidMetH Tryd.prog laidL W) : TIs W := ⟨Go.Lib.tabIs_of_head (g := 1) (t := 153) (e := 134) (n := 20) (by kernel_rfl) (by kernel_rfl) Tryd.underlying153 Tryd.underlying134 (by kernel_rfl) (by kernel_rfl)
    (show laidMet Tryd.prog [("internal/strconv.uint64pow10", Go.Lib.tabData .u64 Go.Lib.pow10Tab)] W from laidMet.filter (fun x => x.1 == "internal/strconv.uint64pow10") (show laidMet Tryd.prog laidL W from h)), errs_of "strconv.ErrSyntax" _ (show laidMet Tryd.prog [("strconv.ErrSyntax", Rows.laid_strconv_ErrSyntax)] W from laidMet.filter (fun x => x.1 == "strconv.ErrSyntax") (show laidMet Tryd.prog laidL W from h)) (by kernel_rfl) (by kernel_rfl), errs_of "strconv.ErrRange" _ (show laidMet Tryd.prog [("strconv.ErrRange", Rows.laid_strconv_ErrRange)] W from laidMet.filter (fun x => x.1 == "strconv.ErrRange") (show laidMet Tryd.prog laidL W from h)) (by kernel_rfl) (by kernel_rfl)⟩
set_option maxRecDepth 100000 in
theorem lifted (os : Os) (started : os.Started) (H : Type) (enc : TypeId × Value → H) :
    ReturnsInHanded {} Tryd.checked os 8 .any (fun w args => (Rows.noteFormatsSpec.pre enc Tryd.prog Tryd.f8 [] false w args ∧ laidMetH Tryd.prog laidL w) ∧ sizedMet enc Tryd.prog Tryd.f8 (OpenSpec.ofChange Rows.noteFormatsSpec) false w args) (Rows.noteFormatsSpec.post enc Tryd.prog Tryd.f8 false true false false) := by
  refine returnsInHanded_of_change_and (C := Tryd.checked) (X := fun w _ => laidMetH Tryd.prog laidL w) (fun _ _ _ hh h => h.of_heap hh) own started (by kernel_rfl) Tryd.func8
    (ChangeSpec.witness_shaped (enc := enc) (C := Tryd.checked) (os := os) (X := fun w _ => laidMetH Tryd.prog laidL w) false (World.laidAll Tryd.prog os laidL) #[.agg #[.int .i64 0, .string ByteArray.empty, .int .i64 0, .slice none 0 0]] 8 (World.laidAll_os _ _ _) (World.shaped_of_ZipB (by kernel_rfl) (by kernel_rfl)) (by kernel_rfl) (by kernel_rfl) (by kernel_rfl) (by rw [MakeChecks.laidMetH_plain _ _ _ (by kernel_rfl)]; exact laidMet_laidAll _ (by kernel_rfl) (by kernel_rfl))) ?_
  intro W base args ds gs before hval0 hW hcnd hsz0 hL _
  have hsz : (DataW.weightsEach Tryd.prog (Tryd.f8.params.toList ++ Rows.noteFormatsSpec.plain.varTypes Tryd.prog) (ds ++ gs)).all (· ≤ reachBytes) = true := hsz0
  have hval : ∀ (j : Nat) t v, Tryd.f8.params[j]? = some t → args[j]? = some v → Value.okWide Tryd.prog W .any base t v := hval0
  have hW' := hW
  obtain ⟨p, q, hA0, hV, rfl, hfz, hnd⟩ := hW
  have hA : DataW.TrodAll enc Tryd.prog W 0 (fun _ => true) true Tryd.f8.params.toList args.toList ds p := hA0
  rw [Tryd.params8] at hA hval hsz
  obtain ⟨v0, vs0, d0, ds0, p0, q0, hargs, rfl, rfl, h0, r0⟩ := trodAll_cons hA
  obtain ⟨rfl, rfl, rfl⟩ := trodAll_nil r0
  obtain rfl : args = #[v0] := by cases args; simp_all
  obtain ⟨rfl, rfl⟩ := trodVars_none hV
  have k0 := h0
  have lt0 : ∀ x ∈ p0, x.block < W.heap.size := by obtain ⟨m, hm⟩ := k0; exact DataW.trod_lt m _ _ _ hm
  obtain ⟨b0, K0, G0⟩ := opens_top ((opens_struct Tryd.underlying33 (by kernel_rfl) (opensF_cons rfl (by kernel_rfl) (opens_int Tryd.underlying3) (opensF_cons rfl (by kernel_rfl) (opens_string Tryd.underlying9) (opensF_cons rfl (by kernel_rfl) (opens_int Tryd.underlying3) (opensF_one rfl (by kernel_rfl) (opens_slice (B := 56) Tryd.underlying31 (by kernel_rfl) (by kernel_rfl) (opens_fix (Gn := Good33) (fun n_ d_ hd_ g_ ih_ => opensU_iso (opensU_struct Tryd.underlying33 (show Tryd.prog.cellsOf 33 = 4 by kernel_rfl) (opensFU_cons rfl (show Tryd.prog.cellsOf 3 = 1 by kernel_rfl) (opensU_of _ (opens_int Tryd.underlying3)) (opensFU_cons rfl (show Tryd.prog.cellsOf 9 = 1 by kernel_rfl) (opensU_of _ (opens_string Tryd.underlying9)) (opensFU_cons rfl (show Tryd.prog.cellsOf 3 = 1 by kernel_rfl) (opensU_of _ (opens_int Tryd.underlying3)) (opensFU_one rfl (show Tryd.prog.cellsOf 31 = 1 by kernel_rfl) (opensU_slice (B := 56) Tryd.underlying31 ((show Tryd.prog.cellsOf 33 = 4 by kernel_rfl).trans hd_.symm) (by kernel_rfl) ih_)))))) _ (fun x => (⟨x.1, x.2.1, x.2.2.1, x.2.2.2⟩ : S33)) (fun _ => rfl)) (fun _ _ h_ => h_)))))))) : Opens Tryd.prog 33 (Kd.pair (Kd.int .i64) (Kd.pair Kd.string (Kd.pair (Kd.int .i64) (Kd.slice 33 k33)))) _) hsz (j := 0) (t := 33) rfl rfl h0
  obtain ⟨cs0, rfl, sz0⟩ := okWide_struct Tryd.underlying33 (hval 0 33 v0 rfl rfl)
  obtain ⟨cl0, ecl0, K0⟩ : ∃ cl, cs0 = cl ∧ ((Kd.pair (Kd.int .i64) (Kd.pair Kd.string (Kd.pair (Kd.int .i64) (Kd.slice 33 k33))))).K W b0 cl.toList := ⟨_, rfl, K0⟩
  subst ecl0
  obtain ⟨cx0, ex0⟩ : ∃ cx, cs0.toList = cx := ⟨_, rfl⟩
  rw [ex0] at K0
  obtain ⟨_, _, rfl, rfl, ⟨_, _, rfl, rfl, ⟨_, _, rfl, rfl, ⟨A0_3, c0_3, rfl, hc0_3, hr0_3⟩⟩⟩⟩ := K0
  obtain rfl : cs0 = #[.int .i64 b0.1, .string b0.2.1, .int .i64 b0.2.2.1, .slice A0_3 b0.2.2.2.length c0_3] := by rw [← Array.toArray_toList (xs := cs0), ex0]; rfl
  clear hA0 hval0 hsz0 hsz
  refine (PNoteFormats.incunablelaw25_NoteFormats.walk Pure.NoteFormats b0.1 b0.2.1 b0.2.2.1 _ _ b0.2.2.2 W (tis_of hL) hr0_3 hc0_3 G0.1 G0.2.1 G0.2.2.1 G0.2.2.2).mono fun e W' ⟨he, bel⟩ => ?_
  subst he
  exact ⟨_, rfl, _, _, _, [], _, [], hW', trodAll_mk1 (shut_bool Tryd.underlying4 _), (trodAll_cons_mk (Below.trod laidOut (by kernel_rfl) (of_decide_eq_true (by kernel_rfl)) k0 bel lt0) trodAll_mk0), rfl, bel.frame _, fun h => by cases h⟩
theorem over : Rows.noteFormatsRow.holds Tryd.pinned (OpenSpec.ofChange Rows.noteFormatsSpec) :=
  OpenClaim.holds_of_wide 8 Tryd.f8 rfl rfl rfl rfl rfl rfl rfl ⟨rfl, rfl, rfl, rfl, rfl⟩ rfl rfl rfl rfl rfl (by kernel_rfl) Tryd.func8 (by kernel_rfl)
    (of_decide_eq_true (by kernel_rfl)) (by unfold Func.isWrapper; first | (rw [if_pos (by decide +kernel)]; kernel_rfl) | (rw [if_neg (by decide +kernel)]; exact ⟨rfl, rfl⟩))
    (fun os started H enc _ => lifted os started H enc)
theorem proved : Rows.NoteFormatsCardSaid :=
  Claim7.holds_tied_plain_at .later [] [.data, .data, .data, .data, .sentinel, .sentinel, .pinned] true (true, "2ba8ec605a5aea040fc9f751c8278fc8f0d9194eb8854a3b7ac96ef639568788") true over (fun _ h => by cases h) (by kernel_rfl) (fun _ h => by cases h) noteFormats_row_tie rfl ⟨rfl, rfl⟩ (by kernel_rfl) rfl
    (fun f fn hf hfn => by
      obtain rfl : f = 8 := Option.some.inj ((show Tryd.prog.funcNamed "incunable/incunablelaw25.NoteFormats" = some 8 by kernel_rfl).symm.trans hf) |>.symm
      obtain rfl : fn = Tryd.f8 := (Option.some.inj (Tryd.func8.symm.trans hfn)).symm
      exact ⟨by kernel_rfl, fun j t ht => by
        rw [Tryd.params8] at ht
        have hm : t ∈ [33] := by simpa using Array.mem_of_getElem? ht
        have hall : ([33].all fun u => !Tryd.prog.wantsStandIn u) = true := by kernel_rfl
        exact (show Tryd.prog.wantsStandIn t = false by simpa using List.all_eq_true.1 hall t hm)⟩)
    (by kernel_rfl)
#print axioms proved
end Go.Proofs.YtacdchogjpeffaaDoor.noteFormats
namespace Go.Proofs.YtacdchogjpeffaaDoor
/-- The row, under a short name, for the claim. -/
theorem noteFormats_holds : Rows.NoteFormatsCardSaid := noteFormats.proved
end Go.Proofs.YtacdchogjpeffaaDoor
