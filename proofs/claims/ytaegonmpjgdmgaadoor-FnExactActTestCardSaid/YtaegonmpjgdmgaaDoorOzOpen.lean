/- An argument that reads as data is told by the kinds of the printed contracts: by its type's shape, one lemma a shape. No program in sight. -/
import Derived.Test.YtaegonmpjgdmgaaDoorOzWWords
import Derived.Deep.Slices
import Derived.ChangeArms
import Derived.WideShapes
import Derived.DataReads
namespace Go.Proofs.YtaegonmpjgdmgaaDoor.Opening
open Go Go.RowKit Go.Deep Go.ChangeShapes Go.WideShapes Go.Proofs.YtaegonmpjgdmgaaDoorW.PrintWords
section
variable {H : Type} (enc : TypeId × Value → H) (P : Program) (w : World)

/-- Cells that read at type t within m steps are told by kind d, of a datum of which ok holds. -/
def At (m : Nat) {α : Type} (t : TypeId) (d : Kd α) (ok : α → Prop) : Prop :=
  ∀ fuel, fuel ≤ m → ∀ (cs : List Value) (x : DataW H × List MemPlace), DataW.trod enc P w 0 (fun _ => true) true fuel t cs = some x → ∃ a : α, d.K w a cs ∧ ok a
variable {enc : TypeId × Value → H} {P : Program} {w : World} {m : Nat} {α β : Type} {t e : TypeId} {d : Kd α} {d1 : Kd β} {ok : α → Prop} {ok1 : β → Prop}
theorem At.mono {ok' : α → Prop} (h : At enc P w m t d ok) (k : ∀ a, ok a → ok' a) : At enc P w m t d ok' := fun f hf cs x hx => by
  obtain ⟨a, h1, h2⟩ := h f hf cs x hx
  exact ⟨a, h1, k a h2⟩
theorem At.int (m : Nat) {k : IntKind} (ht : P.underlying t = some (.int k)) : At enc P w m t (Kd.int k) (fun n => (Lit.int k n).wf = true) := fun f _ cs x hx => by
  obtain ⟨n, rfl, _, hw⟩ := DataW.trod_int ht hx
  exact ⟨n, rfl, hw⟩
theorem At.bool (m : Nat) (ht : P.underlying t = some .bool) : At enc P w m t Kd.bool (fun _ => True) := fun f _ cs x hx => by
  obtain ⟨n, rfl, _⟩ := DataW.trod_bool ht hx
  exact ⟨n, rfl, trivial⟩
theorem At.string (m : Nat) (ht : P.underlying t = some .string) : At enc P w m t Kd.string (fun s => s.size ≤ maxLen) := fun f _ cs x hx => by
  obtain ⟨s, rfl, _, hs⟩ := DataW.trod_string ht hx
  exact ⟨s, rfl, hs⟩

/-- A list of what is there at each index. -/
theorem list_of_lt {n : Nat} {p : Nat → α → Prop} (h : ∀ i, i < n → ∃ x, p i x) : ∃ l : List α, l.length = n ∧ ∀ i x, l[i]? = some x → p i x := by
  induction n with
  | zero => exact ⟨[], rfl, fun i x hx => by simp at hx⟩
  | succ n ih =>
    obtain ⟨l, hl, hp⟩ := ih (fun i hi => h i (by omega))
    obtain ⟨x, hx⟩ := h n (by omega)
    refine ⟨l ++ [x], by simp [hl], fun i y hy => ?_⟩
    rcases Nat.lt_trichotomy i n with hi | hi | hi
    · rw [List.getElem?_append_left (by omega)] at hy
      exact hp i y hy
    · subst hi
      rw [← hl, List.getElem?_concat_length] at hy
      obtain rfl := Option.some.inj hy
      rw [hl] at *
      exact hx
    · rw [List.getElem?_eq_none (by simp; omega)] at hy
      cases hy
/-- A slice: of elements of whatever kind. -/
theorem At.slice (q : Nat) (ht : P.underlying t = some (.slice e)) (hc : P.cellsOf e = d.sz) (he : At enc P w m e d ok) :
    At enc P w (m + 1) t (Kd.slice q d) (fun l => l.length ≤ maxLen ∧ ∀ x ∈ l, ok x) := fun f hf cs x hx => by
  rcases DataW.trod_slice ht hx with ⟨rfl, _⟩ | ⟨a, len, cap, elems, rest, n, hfn, rfl, _, hb, hl, hm, hlen, hel, _⟩
  · exact ⟨[], ⟨none, 0, rfl, Nat.le_refl _, rfl, by simp, fun h => by simp at h⟩, by simp, fun x hx => by cases hx⟩
  · have key : ∀ i, i < len → ∃ y : α, ok y ∧ ∃ cs', w.cells? 0 (a.add (i * P.cellsOf e)) (P.cellsOf e) = some cs' ∧ d.K w y cs' := by
      intro i hi
      have h1 := hel i hi
      rw [List.getElem?_eq_getElem (by omega)] at h1
      obtain ⟨cs', h2, h3⟩ := Option.bind_eq_some_iff.1 h1
      obtain ⟨y, h4, h5⟩ := he n (by omega) cs' _ h3
      exact ⟨y, h5, cs', h2, h4⟩
    obtain ⟨l, hll, hp⟩ := list_of_lt key
    refine ⟨l, ⟨some a, cap, by rw [hll], by omega, rfl, ?_, fun _ => ⟨a, rfl, fun j p hj => ?_⟩⟩, ?_, fun y hy => ?_⟩
    · unfold maxLen at hm; omega
    · obtain ⟨_, cs', h2, h3⟩ := hp j p hj
      obtain ⟨_, h4, h5⟩ := World.cells?_some h2
      refine ⟨cs', by rw [h4, hc], h3, fun i u hu => ?_⟩
      have hi : i < P.cellsOf e := by
        have := (List.getElem?_eq_some_iff.1 hu).1
        omega
      have h6 := h5 i hi
      rw [Go.Deep.add_add, hc] at h6
      rw [h6, hu]
    · omega
    · obtain ⟨i, hi⟩ := List.mem_iff_getElem?.1 hy
      exact (hp i y hi).1

/-- The fields from cell 'off' on. -/
def FieldsAt (enc : TypeId × Value → H) (P : Program) (w : World) (m : Nat) (fs : List Field) (off : Nat) (d : Kd α) (ok : α → Prop) : Prop :=
  ∀ n, n ≤ m → ∀ (cs : List Value) (xs : List (DataW H × List MemPlace)), cs.length = off + d.sz → xs.length = fs.length →
    (∀ (i : Nat) (f : Field), fs[i]? = some f → DataW.trod enc P w 0 (fun _ => true) true n f.type ((cs.drop f.offset).take (P.cellsOf f.type)) = xs[i]?) → ∃ a : α, d.K w a (cs.drop off) ∧ ok a
theorem FieldsAt.one {f : Field} {off : Nat} (ho : f.offset = off) (hc : P.cellsOf f.type = d.sz) (h : At enc P w m f.type d ok) : FieldsAt enc P w m [f] off d ok := fun n hn cs xs hl hx hf => by
  have h1 := hf 0 f rfl
  rw [List.getElem?_eq_getElem (by rw [hx]; exact Nat.zero_lt_one), ho, hc, List.take_of_length_le (by rw [List.length_drop]; omega)] at h1
  exact h n hn _ _ h1
theorem FieldsAt.cons {f : Field} {fs : List Field} {off : Nat} (ho : f.offset = off) (hc : P.cellsOf f.type = d.sz) (h : At enc P w m f.type d ok) (hs : FieldsAt enc P w m fs (off + d.sz) d1 ok1) :
    FieldsAt enc P w m (f :: fs) off (Kd.pair d d1) (fun a => ok a.1 ∧ ok1 a.2) := fun n hn cs xs hl hx hf => by
  have hsz : (Kd.pair d d1).sz = d.sz + d1.sz := rfl
  match xs, hx with
  | y :: xs, hx =>
    have h1 := hf 0 f rfl
    rw [ho, hc] at h1
    obtain ⟨a, ha, ho1⟩ := h n hn _ _ h1
    obtain ⟨b, hb, ho2⟩ := hs n hn cs xs (by omega) (by simpa using hx) (fun i g hg => by
      have := hf (i + 1) g (by simpa using hg)
      simpa using this)
    refine ⟨(a, b), ⟨_, _, ?_, ha, hb⟩, ho1, ho2⟩
    rw [← List.drop_drop, List.take_append_drop]
theorem At.struct {fs : Array Field} (ht : P.underlying t = some (.struct fs)) (hc : P.cellsOf t = d.sz) (h : FieldsAt enc P w m fs.toList 0 d ok) : At enc P w (m + 1) t d ok := fun f hf cs x hx => by
  obtain ⟨xs, n, hfn, _, hl, hxs, hg⟩ := DataW.trod_struct ht hx
  obtain ⟨a, ha, ho⟩ := h n (by omega) cs xs (by omega) (by simpa using hxs) (fun i g hi => hg i g (by simpa using hi))
  exact ⟨a, by simpa using ha, ho⟩
theorem At.iso {f : β → α} (g : α → β) (hg : ∀ a, f (g a) = a) (h : At enc P w m t d ok) : At enc P w m t (Kd.iso d f) (fun s => ok (f s)) := fun n hn cs x hx => by
  obtain ⟨a, ha, ho⟩ := h n hn cs x hx
  refine ⟨g a, ?_, by show ok (f (g a)); rw [hg]; exact ho⟩
  show d.K w (f (g a)) cs
  rw [hg]
  exact ha

/-- At any number of steps: the two that count steps. -/
theorem At_slice (m q : Nat) (ht : P.underlying t = some (.slice e)) (hc : P.cellsOf e = d.sz) (he : At enc P w m e d ok) : At enc P w m t (Kd.slice q d) (fun l => l.length ≤ maxLen ∧ ∀ x ∈ l, ok x) :=
  fun f hf => At.slice q ht hc he f (Nat.le_succ_of_le hf)
theorem At_struct (m : Nat) {fs : Array Field} (ht : P.underlying t = some (.struct fs)) (hc : P.cellsOf t = d.sz) (h : FieldsAt enc P w m fs.toList 0 d ok) : At enc P w m t d ok :=
  fun f hf => At.struct ht hc h f (Nat.le_succ_of_le hf)

/-- A struct that comes in by value. -/
theorem open_agg {r : Reach} {b0 : Nat} {fs : Array Field} {v : Value} {D : DataW H} {p : List MemPlace} (hs : P.underlying t = some (.struct fs)) (hv : Value.okWide P w r b0 t v)
    (h : DataW.Trod enc P w 0 (fun _ => true) true t v D p) (hA : ∀ m, At enc P w m t d ok) : ∃ a cs, v = .agg cs ∧ d.K w a cs.toList ∧ ok a := by
  obtain ⟨cs, rfl, _⟩ := okWide_struct hs hv
  obtain ⟨fuel, hf⟩ := h
  obtain ⟨a, ha, ho⟩ := hA fuel fuel (Nat.le_refl _) _ _ hf
  exact ⟨a, cs, rfl, ha, ho⟩
end
end Go.Proofs.YtaegonmpjgdmgaaDoor.Opening
