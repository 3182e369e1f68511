/- Rows of bytes beside the call's own blocks: append, rooms, calls that hand back a row. No program in sight. -/
import Derived.Test.YtaegonmpjgdmgaaDoorRW
import Derived.Test.YtaegonmpjgdmgaaDoorOzWWords
import Derived.Laws.Tables
namespace Go.Proofs.YtaegonmpjgdmgaaDoor.MW
open Go Go.RowKit Go.Proofs.YtaegonmpjgdmgaaDoorW Go.Proofs.YtaegonmpjgdmgaaDoorW.PrintWords
set_option linter.unusedVariables false
def Bytes (W : World) (v : Value) (l : List Int) : Prop := ∃ A c, v = .slice A l.length c ∧ (Kd.int .u8).C W A l.length l ∧ l.length ≤ c
section
variable {w w0 W W' : World} {L L' : List (Nat × Array Value)} {v u : Value} {l ys : List Int} {ok : Nat → Prop}
theorem Bytes.below (h : Bytes W v l) (hb : Below W.heap.size W W') : Bytes W' v l := by
  obtain ⟨A, c, rfl, hC, hc⟩ := h
  exact ⟨A, c, rfl, Kd.C_below hC hb, hc⟩
theorem Bytes.more (h : Bytes W v l) : ∃ A c, v = .slice A l.length c ∧ (Kd.int .u8).C W A l.length l ∧ l.length ≤ c := h
theorem Priv.sub (H : Priv w W L) (hs : ∀ x ∈ L', x ∈ L) (hn : (L'.map (·.1)).Nodup) : Priv w W L' :=
  ⟨H.below, fun x hx => H.ge x (hs x hx), fun x hx => H.blk x (hs x hx), hn⟩
theorem Priv.one {i g : Nat} {cs : Array Value} (H : Priv w W L) (hi : L[i]? = some (g, cs)) : Priv w W [(g, cs)] :=
  H.sub (fun x hx => by rw [List.mem_singleton] at hx; subst hx; exact List.mem_of_getElem? hi) (by simp)
theorem Priv.two {i j g g' : Nat} {cs cs' : Array Value} (H : Priv w W L) (hi : L[i]? = some (g, cs)) (hj : L[j]? = some (g', cs')) (hne : g ≠ g') : Priv w W [(g, cs), (g', cs')] :=
  H.sub (fun x hx => by
    simp only [List.mem_cons, List.not_mem_nil, or_false] at hx
    rcases hx with rfl | rfl
    · exact List.mem_of_getElem? hi
    · exact List.mem_of_getElem? hj) (by simp [hne])
theorem Priv.grown (HS : Priv w W L) (HO : Row w W L v l) (hg : W.grownBy W' v.ownBlock) (hb : Below w.heap.size w W') : Priv w W' L :=
  Priv.kept HS hb (Kept.of_grown (S := Away L) hg (Kept.refl W _) (fun k e => .inl (HO.1 k e)))
end
section
variable {P : Program} {ops : Array Oper} {rest : List Oper} {o : Oper} {a : Act} {Q : Exit → Act → World → Prop} {K : Act → World → Prop} {w W : World} {L : List (Nat × Array Value)} {v u : Value} {l ys : List Int} {s x : Operand} {t : TypeId}
theorem wanted_of (hgd : o.guard = none) : Region.wanted o (yielded ops a.tmps) = true := by simp [Region.wanted, hgd]
end
/-! ### New blocks and stores beside a row -/
section
variable {P : Program} {ops : Array Oper} {rest : List Oper} {o : Oper} {a : Act} {Q : Exit → Act → World → Prop} {w W : World} {L : List (Nat × Array Value)} {v : Value} {l : List Int} {g off n : Nat} {cs cs' seg : Array Value} {ty : TypeId} {p x : Operand}
theorem Row.alloc (HO : Row w W L v l) (cs : Array Value) (t : TypeId) : Row w (W.alloc (.cells cs t)) ((W.heap.size, cs) :: L) v l :=
  Kd.R_mono (Kd.R_alloc (Kd.R_bound HO) _) (fun k hk y hy => by
    rcases List.mem_cons.1 hy with rfl | hy
    · have := hk.2.2.1
      show W.heap.size ≠ k
      omega
    · exact hk.1 y hy)
theorem Row.set {i : Nat} (HO : Row w W L v l) (hi : L[i]? = some (g, cs)) (cs' : Array Value) : Row w (W.setRow g cs') (L.set i (g, cs')) v l :=
  Kd.R_mono (Kd.R_kept HO (S := fun k => k = g) ⟨by simp, fun k _ hn => setRow_other W g k cs' hn⟩ (fun k ho hk => ho (g, cs) (List.mem_of_getElem? hi) hk.symm)) (fun k hk y hy => by
    rcases List.mem_or_eq_of_mem_set hy with hy | rfl
    · exact hk y hy
    · exact hk (g, cs) (List.mem_of_getElem? hi))
end
/-! ### An element of an array that is a value -/
def arrEl (P : Program) (t : TypeId) : Option (Nat × Nat) :=
  match P.underlying t with
  | some (.array n e) => (aggSize P e).map fun s => (n, s)
  | _ => none
section
variable {P : Program} {ops : Array Oper} {rest : List Oper} {o : Oper} {a : Act} {Q : Exit → Act → World → Prop} {W : World} {cs seg : Array Value} {ty : TypeId} {x y : Operand}
end
section
variable {P : Program} {ops : Array Oper} {Q : Exit → Act → World → Prop} {a : Act} {w W : World} {L LS : List (Nat × Array Value)} {v : Value} {l : List Int}
end
end Go.Proofs.YtaegonmpjgdmgaaDoor.MW
