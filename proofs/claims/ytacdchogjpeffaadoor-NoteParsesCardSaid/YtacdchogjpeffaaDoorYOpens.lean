/- What a row's argument tells when it is read as data: a value of the argument's kind (words for the rows of laws over structs and slices of any kind). No conditions. -/
import Derived.Test.YtacdchogjpeffaaDoorWWords
import Derived.Deep.Slices
import Derived.SizedLaws
import Derived.WideShapes
namespace Go.Proofs.YtacdchogjpeffaaDoorW.Opens
open Go.ChangeShapes Go.WideShapes Go.Proofs.YtacdchogjpeffaaDoorW.PrintWords Go.Deep Go.RowKit

def Opens {α : Type} (P : Program) (t : TypeId) (d : Kd α) (g : α → Prop) : Prop :=
  ∀ (H : Type) (enc : TypeId × Value → H) (w : World) (base : Nat) (spare : Nat → Bool) (held : Bool) (fuel : Nat) (cs : List Value) (x : DataW H × List MemPlace),
    DataW.trod enc P w base spare held fuel t cs = some x → (∀ n ∈ x.1.weights P t, n ≤ 140737488351232) → ∃ a, d.K w a cs ∧ g a

theorem opens_int {P : Program} {t : TypeId} {k : IntKind} (hu : P.underlying t = some (.int k)) : Opens P t (Kd.int k) (fun n => (Lit.int k n).wf = true) := by
  intro H enc w base spare held fuel cs x h _
  obtain ⟨m, rfl, rfl, hw⟩ := DataW.trod_int hu h
  exact ⟨m, rfl, hw⟩
theorem opens_bool {P : Program} {t : TypeId} (hu : P.underlying t = some .bool) : Opens P t Kd.bool (fun _ => True) := by
  intro H enc w base spare held fuel cs x h _
  obtain ⟨m, rfl, rfl⟩ := DataW.trod_bool hu h
  exact ⟨m, rfl, trivial⟩
theorem opens_string {P : Program} {t : TypeId} (hu : P.underlying t = some .string) : Opens P t Kd.string (fun s => s.size ≤ 140737488351232) := by
  intro H enc w base spare held fuel cs x h hw
  obtain ⟨s, rfl, rfl, _⟩ := DataW.trod_string hu h
  refine ⟨s, rfl, ?_⟩
  have := hw s.data.toList.length (by simp [DataW.weights])
  rwa [Array.length_toList] at this

theorem weights_all {H : Type} {P : Program} {e : TypeId} : ∀ {l : List (DataW H)} {d : DataW H}, d ∈ l → ∀ n ∈ d.weights P e, n ∈ DataW.weightsAll P e l
  | d0 :: l, d, hd, n, hn => by
    simp only [DataW.weightsAll, List.mem_append]
    rcases List.mem_cons.1 hd with rfl | hd
    · exact .inl hn
    · exact .inr (weights_all hd n hn)

theorem choose_list {α : Type} {p : Nat → α → Prop} : ∀ (n : Nat), (∀ i, i < n → ∃ a, p i a) → ∃ l : List α, l.length = n ∧ ∀ i a, l[i]? = some a → p i a
  | 0, _ => ⟨[], rfl, fun i a h => by simp at h⟩
  | n + 1, h => by
    obtain ⟨l, hl, hp⟩ := choose_list n (fun i hi => h i (by omega))
    obtain ⟨a, ha⟩ := h n (by omega)
    refine ⟨l ++ [a], by simp [hl], fun i b hb => ?_⟩
    rcases Nat.lt_or_ge i n with hi | hi
    · rw [List.getElem?_append_left (by omega)] at hb
      exact hp i b hb
    · rw [List.getElem?_append_right (by omega)] at hb
      have : i - l.length = 0 := by
        have := (List.getElem?_eq_some_iff.1 hb).1
        simp at this
        omega
      rw [this] at hb
      have e : i = n := by omega
      subst e
      simp at hb
      subst hb
      exact ha

theorem opens_slice {α : Type} {P : Program} {t e : TypeId} {d : Kd α} {g : α → Prop} {B : Nat} (hu : P.underlying t = some (.slice e)) (hsz : P.cellsOf e = d.sz) (hB : P.bytesOf e = B) (he : Opens P e d g) :
    Opens P t (Kd.slice e d) (fun l => l.length ≤ 9223372036854775807 ∧ l.length * B ≤ 140737488351232 ∧ ∀ x ∈ l, g x) := by
  intro H enc w base spare held fuel cs x h hw
  rcases open_slice hu h with ⟨rfl, rfl⟩ | ⟨a, len, cap, m, n, D, Pl, rfl, hb, hl, hm, hmm, rfl, hx⟩
  · exact ⟨[], ⟨none, 0, rfl, Nat.le_refl _, Kd.C_nil d w⟩, by simp, by simp, by simp⟩
  · have hlm : len ≤ m := by
      rw [hmm]
      split <;> omega
    have hmax : cap ≤ 9223372036854775807 := hm
    have each : ∀ i, i < len → ∃ a', (∃ cs', w.cells? base (a.add (i * P.cellsOf e)) (P.cellsOf e) = some cs' ∧ d.K w a' cs') ∧ g a' := by
      intro i hi
      obtain ⟨cs', h1, h2⟩ := hx i (by omega)
      obtain ⟨a', h3, h4⟩ := he H enc w base spare held n cs' _ h2 (fun q hq => hw q (by
        simp only [DataW.weights, hu, List.mem_cons, List.mem_append]
        exact .inr (.inl (weights_all (List.mem_map.2 ⟨i, List.mem_range.2 hi, rfl⟩) q hq))))
      exact ⟨a', ⟨cs', h1, h3⟩, h4⟩
    obtain ⟨l, hll, hp⟩ := choose_list len each
    refine ⟨l, ⟨some a, cap, by rw [hll], by omega, ⟨rfl, by omega, fun _ => ⟨a, rfl, fun j p hj => ?_⟩⟩⟩, by omega, ?_, ?_⟩
    · obtain ⟨⟨cs', h1, h2⟩, _⟩ := hp j p hj
      obtain ⟨_, h3, h4⟩ := World.cells?_some h1
      refine ⟨cs', d.K_len h2, h2, fun i u hi => ?_⟩
      have hlt := (List.getElem?_eq_some_iff.1 hi).1
      have := h4 i (by omega)
      rw [hi, hsz] at this
      rw [← this]
      congr 1
      exact (Go.Deep.add_add a (j * d.sz) i).symm
    · have := hw ((len + (m - len)) * B) (by simp [DataW.weights, hu, hB])
      rw [hll]
      exact Nat.le_trans (Nat.mul_le_mul_right B (by omega)) this
    · intro q hq
      obtain ⟨i, hi⟩ := List.getElem?_of_mem hq
      exact (hp i q hi).2

def OpensF {α : Type} (P : Program) (fs : List Field) (off : Nat) (d : Kd α) (g : α → Prop) : Prop :=
  ∀ (H : Type) (enc : TypeId × Value → H) (w : World) (base : Nat) (spare : Nat → Bool) (held : Bool) (n : Nat) (cs : List Value) (xs : List (DataW H × List MemPlace)),
    (∀ (i : Nat) (f : Field), fs[i]? = some f → DataW.trod enc P w base spare held n f.type ((cs.drop f.offset).take (P.cellsOf f.type)) = xs[i]?) → xs.length = fs.length → cs.length = off + d.sz →
    (∀ n ∈ DataW.weightsEach P (fs.map (·.type)) (xs.map (·.1)), n ≤ 140737488351232) → ∃ a, d.K w a (cs.drop off) ∧ g a
theorem opensF_one {α : Type} {P : Program} {f : Field} {off : Nat} {d : Kd α} {g : α → Prop} (ho : f.offset = off) (hc : P.cellsOf f.type = d.sz) (h : Opens P f.type d g) : OpensF P [f] off d g := by
  intro H enc w base spare held n cs xs hx hl hcs hw
  match xs, hl with
  | [x], _ =>
    have h1 := hx 0 f rfl
    rw [ho, List.take_of_length_le (by rw [List.length_drop]; omega)] at h1
    exact h H enc w base spare held n _ x h1 (fun q hq => hw q (by simpa [DataW.weightsEach] using hq))
theorem opensF_cons {α β : Type} {P : Program} {f : Field} {fs : List Field} {off : Nat} {d : Kd α} {d1 : Kd β} {g : α → Prop} {g1 : β → Prop} (ho : f.offset = off) (hc : P.cellsOf f.type = d.sz) (h : Opens P f.type d g) (h1 : OpensF P fs (off + d.sz) d1 g1) :
    OpensF P (f :: fs) off (Kd.pair d d1) (fun x => g x.1 ∧ g1 x.2) := by
  intro H enc w base spare held n cs xs hx hl hcs hw
  match xs, hl with
  | x :: xs, hl =>
    have hsz : (Kd.pair d d1).sz = d.sz + d1.sz := rfl
    have e := hx 0 f rfl
    rw [ho, hc] at e
    obtain ⟨a, ha, ga⟩ := h H enc w base spare held n _ x e (fun q hq => hw q (by simp [DataW.weightsEach, hq]))
    obtain ⟨b, hb, gb⟩ := h1 H enc w base spare held n cs xs (fun i f' hf => hx (i + 1) f' hf) (by simpa using hl) (by omega) (fun q hq => hw q (by simp [DataW.weightsEach, hq]))
    refine ⟨(a, b), ⟨_, _, ?_, ha, hb⟩, ga, gb⟩
    rw [← List.drop_drop, List.take_append_drop]
theorem opens_struct {α : Type} {P : Program} {t : TypeId} {fs : Array Field} {d : Kd α} {g : α → Prop} (hu : P.underlying t = some (.struct fs)) (hc : P.cellsOf t = d.sz) (h : OpensF P fs.toList 0 d g) : Opens P t d g := by
  intro H enc w base spare held fuel cs x hx hw
  obtain ⟨xs, n, _, rfl, hl, hlen, hf⟩ := DataW.trod_struct hu hx
  refine h H enc w base spare held n cs xs (fun i f hi => hf i f (by simpa using hi)) (by simpa using hlen) (by omega) (fun q hq => hw q ?_)
  simpa [DataW.weights, hu] using hq
theorem opens_iso {α β : Type} {P : Program} {t : TypeId} {d : Kd α} {g : α → Prop} (h : Opens P t d g) (f : β → α) (f' : α → β) (hf : ∀ x, f (f' x) = x) : Opens P t (Kd.iso d f) (fun b => g (f b)) := by
  intro H enc w base spare held fuel cs x hx hw
  obtain ⟨a, ha, ga⟩ := h H enc w base spare held fuel cs x hx hw
  refine ⟨f' a, ?_, ?_⟩
  · show d.K w (f (f' a)) cs
    rw [hf]
    exact ha
  · show g (f (f' a))
    rw [hf]
    exact ga
/-! ### A type nested in itself: the reading's depth is bounded -/
def OpensU {α : Type} (F : Nat) (P : Program) (t : TypeId) (d : Kd α) (g : α → Prop) : Prop :=
  ∀ (H : Type) (enc : TypeId × Value → H) (w : World) (base : Nat) (spare : Nat → Bool) (held : Bool) (fuel : Nat) (cs : List Value) (x : DataW H × List MemPlace), fuel ≤ F →
    DataW.trod enc P w base spare held fuel t cs = some x → (∀ n ∈ x.1.weights P t, n ≤ 140737488351232) → ∃ a, d.K w a cs ∧ g a
theorem opensU_of {α : Type} {P : Program} {t : TypeId} {d : Kd α} {g : α → Prop} (F : Nat) (h : Opens P t d g) : OpensU F P t d g :=
  fun H enc w base spare held fuel cs x _ hx hw => h H enc w base spare held fuel cs x hx hw
theorem opensU_slice {α : Type} {P : Program} {t e : TypeId} {d : Kd α} {g : α → Prop} {B F : Nat} (hu : P.underlying t = some (.slice e)) (hsz : P.cellsOf e = d.sz) (hB : P.bytesOf e = B) (he : OpensU F P e d g) :
    OpensU F P t (Kd.slice e d) (fun l => l.length ≤ 9223372036854775807 ∧ l.length * B ≤ 140737488351232 ∧ ∀ x ∈ l, g x) := by
  intro H enc w base spare held fuel cs x hF h hw
  rcases DataW.trod_slice hu h with ⟨rfl, rfl⟩ | ⟨a, len, cap, elems, rest, n, hn, rfl, rfl, hb, hl, hm, hlen, hel, hsp, hns⟩
  · exact ⟨[], ⟨none, 0, rfl, Nat.le_refl _, Kd.C_nil d w⟩, by simp, by simp, by simp⟩
  · have hmax : cap ≤ 9223372036854775807 := hm
    have each : ∀ i, i < len → ∃ a', (∃ cs', w.cells? base (a.add (i * P.cellsOf e)) (P.cellsOf e) = some cs' ∧ d.K w a' cs') ∧ g a' := by
      intro i hi
      have h1 := hel i hi
      obtain ⟨y, hy⟩ : ∃ y, elems[i]? = some y := ⟨_, List.getElem?_eq_getElem (by omega)⟩
      rw [hy, Option.bind_eq_some_iff] at h1
      obtain ⟨cs', h2, h3⟩ := h1
      obtain ⟨a', h4, h5⟩ := he H enc w base spare held n cs' _ (by omega) h3 (fun q hq => hw q (by
        simp only [DataW.weights, hu, List.mem_cons, List.mem_append]
        exact .inr (.inl (weights_all (List.mem_map.2 ⟨y, List.mem_of_getElem? hy, rfl⟩) q hq))))
      exact ⟨a', ⟨cs', h2, h4⟩, h5⟩
    obtain ⟨l, hll, hp⟩ := choose_list len each
    refine ⟨l, ⟨some a, cap, by rw [hll], by omega, ⟨rfl, by omega, fun _ => ⟨a, rfl, fun j p hj => ?_⟩⟩⟩, by omega, ?_, ?_⟩
    · obtain ⟨⟨cs', h1, h2⟩, _⟩ := hp j p hj
      obtain ⟨_, h3, h4⟩ := World.cells?_some h1
      refine ⟨cs', d.K_len h2, h2, fun i u hi => ?_⟩
      have hlt := (List.getElem?_eq_some_iff.1 hi).1
      have := h4 i (by omega)
      rw [hi, hsz] at this
      rw [← this]
      congr 1
      exact (Go.Deep.add_add a (j * d.sz) i).symm
    · have := hw ((elems.length + rest.length) * B) (by simp [DataW.weights, hu, hB])
      rw [hll]
      exact Nat.le_trans (Nat.mul_le_mul_right B (by omega)) this
    · intro q hq
      obtain ⟨i, hi⟩ := List.getElem?_of_mem hq
      exact (hp i q hi).2
def OpensFU {α : Type} (F : Nat) (P : Program) (fs : List Field) (off : Nat) (d : Kd α) (g : α → Prop) : Prop :=
  ∀ (H : Type) (enc : TypeId × Value → H) (w : World) (base : Nat) (spare : Nat → Bool) (held : Bool) (n : Nat) (cs : List Value) (xs : List (DataW H × List MemPlace)), n ≤ F →
    (∀ (i : Nat) (f : Field), fs[i]? = some f → DataW.trod enc P w base spare held n f.type ((cs.drop f.offset).take (P.cellsOf f.type)) = xs[i]?) → xs.length = fs.length → cs.length = off + d.sz →
    (∀ n ∈ DataW.weightsEach P (fs.map (·.type)) (xs.map (·.1)), n ≤ 140737488351232) → ∃ a, d.K w a (cs.drop off) ∧ g a
theorem opensFU_one {α : Type} {P : Program} {f : Field} {off F : Nat} {d : Kd α} {g : α → Prop} (ho : f.offset = off) (hc : P.cellsOf f.type = d.sz) (h : OpensU F P f.type d g) : OpensFU F P [f] off d g := by
  intro H enc w base spare held n cs xs hF hx hl hcs hw
  match xs, hl with
  | [x], _ =>
    have h1 := hx 0 f rfl
    rw [ho, List.take_of_length_le (by rw [List.length_drop]; omega)] at h1
    exact h H enc w base spare held n _ x hF h1 (fun q hq => hw q (by simpa [DataW.weightsEach] using hq))
theorem opensFU_cons {α β : Type} {P : Program} {f : Field} {fs : List Field} {off F : Nat} {d : Kd α} {d1 : Kd β} {g : α → Prop} {g1 : β → Prop} (ho : f.offset = off) (hc : P.cellsOf f.type = d.sz) (h : OpensU F P f.type d g) (h1 : OpensFU F P fs (off + d.sz) d1 g1) :
    OpensFU F P (f :: fs) off (Kd.pair d d1) (fun x => g x.1 ∧ g1 x.2) := by
  intro H enc w base spare held n cs xs hF hx hl hcs hw
  match xs, hl with
  | x :: xs, hl =>
    have hsz : (Kd.pair d d1).sz = d.sz + d1.sz := rfl
    have e := hx 0 f rfl
    rw [ho, hc] at e
    obtain ⟨a, ha, ga⟩ := h H enc w base spare held n _ x hF e (fun q hq => hw q (by simp [DataW.weightsEach, hq]))
    obtain ⟨b, hb, gb⟩ := h1 H enc w base spare held n cs xs hF (fun i f' hf => hx (i + 1) f' hf) (by simpa using hl) (by omega) (fun q hq => hw q (by simp [DataW.weightsEach, hq]))
    refine ⟨(a, b), ⟨_, _, ?_, ha, hb⟩, ga, gb⟩
    rw [← List.drop_drop, List.take_append_drop]
theorem opensU_struct {α : Type} {P : Program} {t : TypeId} {fs : Array Field} {F : Nat} {d : Kd α} {g : α → Prop} (hu : P.underlying t = some (.struct fs)) (hc : P.cellsOf t = d.sz) (h : OpensFU F P fs.toList 0 d g) : OpensU (F + 1) P t d g := by
  intro H enc w base spare held fuel cs x hF hx hw
  obtain ⟨xs, n, hn, rfl, hl, hlen, hf⟩ := DataW.trod_struct hu hx
  refine h H enc w base spare held n cs xs (by omega) (fun i f hi => hf i f (by simpa using hi)) (by simpa using hlen) (by omega) (fun q hq => hw q ?_)
  simpa [DataW.weights, hu] using hq
theorem opensU_iso {α β : Type} {P : Program} {t : TypeId} {F : Nat} {d : Kd α} {g : α → Prop} (h : OpensU F P t d g) (f : β → α) (f' : α → β) (hf : ∀ x, f (f' x) = x) : OpensU F P t (Kd.iso d f) (fun b => g (f b)) := by
  intro H enc w base spare held fuel cs x hF hx hw
  obtain ⟨a, ha, ga⟩ := h H enc w base spare held fuel cs x hF hx hw
  refine ⟨f' a, ?_, ?_⟩
  · show d.K w (f (f' a)) cs
    rw [hf]
    exact ha
  · show g (f (f' a))
    rw [hf]
    exact ga
theorem opens_fix {α : Type} {P : Program} {t : TypeId} {F : Kd α → Kd α} {sz : Nat} {E : List Nat} {hs : ∀ n, (Kd.upto F sz E n).sz = sz} {hE : ∀ n q, q ∈ (Kd.upto F sz E n).E → q ∈ E} {G : (α → Prop) → α → Prop} {Gn : Nat → α → Prop}
    (step : ∀ (n : Nat) (d : Kd α) (_ : d.sz = sz) (g : α → Prop), OpensU n P t d g → OpensU (n + 1) P t (F d) (G g)) (hG : ∀ n x, G (Gn n) x → Gn (n + 1) x) : Opens P t (Kd.fix F sz E hs hE) (fun x => ∃ n, Gn n x) := by
  have key : ∀ n, OpensU n P t (Kd.upto F sz E n) (Gn n) := by
    intro n
    induction n with
    | zero =>
      intro H enc w base spare held fuel cs x hF h
      obtain rfl : fuel = 0 := by omega
      simp [DataW.trod] at h
    | succ n ih =>
      intro H enc w base spare held fuel cs x hF h hw
      obtain ⟨a, ha, ga⟩ := step n _ (hs n) _ ih H enc w base spare held fuel cs x hF h hw
      exact ⟨a, ha, hG n a ga⟩
  intro H enc w base spare held fuel cs x h hw
  obtain ⟨a, ha, ga⟩ := key fuel H enc w base spare held fuel cs x (Nat.le_refl _) h hw
  exact ⟨a, ⟨fuel, ha⟩, ⟨fuel, ga⟩⟩
theorem opens_top {α : Type} {P : Program} {t : TypeId} {d : Kd α} {g : α → Prop} (ho : Opens P t d g) {H : Type} {enc : TypeId × Value → H} {W : World} {base : Nat} {spare : Nat → Bool} {held : Bool} {ts : List TypeId} {ds : List (DataW H)} {dd : DataW H} {v : Value} {ps : List MemPlace} {j : Nat}
    (hsz : (DataW.weightsEach P ts ds).all (· ≤ reachBytes) = true) (ht : ts[j]? = some t) (hd : ds[j]? = some dd) (h : DataW.Trod enc P W base spare held t v dd ps) : ∃ a, d.K W a v.cells.toList ∧ g a := by
  obtain ⟨fuel, hf⟩ := h
  refine ho H enc W base spare held fuel _ _ hf (fun n hn => ?_)
  have := List.all_eq_true.1 hsz n (DataW.weights_mem_each ht hd n hn)
  have e : reachBytes = 140737488351232 := by decide
  simpa [e] using this
end Go.Proofs.YtacdchogjpeffaaDoorW.Opens
