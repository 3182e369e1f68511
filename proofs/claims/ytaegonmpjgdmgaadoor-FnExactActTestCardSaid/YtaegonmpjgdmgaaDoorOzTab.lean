/- The tables of sizes and of words of operands, as they lie in memory. -/
import Derived.Test.YtaegonmpjgdmgaaDoorProg
import Derived.WalkKit
import Derived.Below
namespace Go.Proofs.YtaegonmpjgdmgaaDoor.TB
open Go Go.RowKit
def devSizes : List Int := [0, 32, 32, 64, 16, 32, 5, 16, 16, 32, 16]
def devSize (k : Int) : Int := if 1 ≤ k ∧ k ≤ 10 then devSizes.getD k.toNat 0 else 0
/-- The table of sizes; the table of words has four. -/
def Tab (w : World) : Prop := (∃ b off cap, w.cell? ⟨0, 0, none⟩ = some (.slice (some ⟨b, off, none⟩) 11 cap) ∧ (∀ i, i < 11 → w.cell? ⟨b, off + i, none⟩ = some (.int .i64 (devSizes.getD i 0))) ∧ b < w.heap.size ∧ 0 < w.heap.size) ∧ (∃ A c, w.cell? ⟨2, 0, none⟩ = some (.slice A 4 c)) ∧ 2 < w.heap.size
theorem Tab.below {w w' : World} (h : Tab w) (hb : Below w.heap.size w w') : Tab w' := by
  obtain ⟨⟨b, off, cap, h1, h2, h3, h4⟩, ⟨B, c, h5⟩, h6⟩ := h
  exact ⟨⟨b, off, cap, (hb.cell (p := ⟨0, 0, none⟩) h4).trans h1, fun i hi => (hb.cell (p := ⟨b, off + i, none⟩) h3).trans (h2 i hi), Nat.lt_of_lt_of_le h3 hb.size, Nat.lt_of_lt_of_le h4 hb.size⟩, ⟨B, c, (hb.cell (p := ⟨2, 0, none⟩) h6).trans h5⟩, Nat.lt_of_lt_of_le h6 hb.size⟩
end Go.Proofs.YtaegonmpjgdmgaaDoor.TB
