/- A row of bytes that the call made itself, beside the call's own blocks. No program in sight. -/
import Derived.Test.YtaegonmpjgdmgaaDoorMW
namespace Go.Proofs.YtaegonmpjgdmgaaDoor.MW
open Go Go.RowKit Go.Proofs.YtaegonmpjgdmgaaDoorW Go.Proofs.YtaegonmpjgdmgaaDoorW.PrintWords
set_option linter.unusedVariables false
def Away (L : List (Nat × Array Value)) (k : Nat) : Prop := ∀ x ∈ L, x.1 ≠ k
def Row (w W : World) (L : List (Nat × Array Value)) (v : Value) (l : List Int) : Prop := (Kd.int .u8).R 5 W w.heap.size (Away L) v l
section
variable {w W W' : World} {L : List (Nat × Array Value)} {v : Value} {l : List Int}
theorem Row.nil (w W : World) (L : List (Nat × Array Value)) : Row w W L (.slice none 0 0) [] := Kd.R_nil _ _ _ _ _
theorem Row.below (h : Row w W L v l) (hb : Below W.heap.size W W') : Row w W' L v l := Kd.R_below h hb
theorem Row.drew (h : Row w W L v l) : Row w W.drew L v l := Kd.R_drew h
/-- A call that was given the row to append to. -/
theorem Priv.kept (H : Priv w W L) (hb : Below w.heap.size w W') (hk : Kept W W' (Away L)) : Priv w W' L :=
  ⟨hb, H.ge, fun x hx => by
    obtain ⟨t, h⟩ := H.blk x hx
    exact ⟨t, (hk.2 _ (H.lt hx) (fun ha => ha x hx rfl)).trans h⟩, H.nd⟩
end
end Go.Proofs.YtaegonmpjgdmgaaDoor.MW
