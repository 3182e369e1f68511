/-
  DERIVED. GIVEN WITH THE SEED: THE CARDS: each row of YtkmfdlcmdgdepaaDoorRows.lean that lists a variable, with what it lists TIED to the program's text (the seventh form; the later family's looks); each row that meets fmt, with fmt's text TOLD by the authors' own Lean function (tested against real Go, not proved from fmt's source: count such statements apart). THE CARD IS WHAT COUNTS. Prove the row's statement (the work); the ties are given (YtkmfdlcmdgdepaaDoorTie.lean); close each card by the builder's one call (the guide's Derived/Test/ToyasCard.lean, 'card_holds'). Laid BY PROGRAM, IN A SANDBOX (cutbox-door.mjs). By AI agents, Wed Nov 11 2026. No macro, syntax, notation, axiom, sorry.
-/
import Derived.Test.YtkmfdlcmdgdepaaDoorRows
import GoSem.ClaimSeven
namespace Go.Proofs.YtkmfdlcmdgdepaaDoor
namespace Rows

/-- THE TIED CARD OF 'laws.FnExactPeepSure'. -/
def fnExactPeepSureCard : Claim7 := { stood := { row := fnExactPeepSureRow, standIns := [], harness := (true, "7bd01bb6dff7c23bc4cfd1e287d7b362efabc4c0b0ebd9087e7eee9131b60fba"), looks := false }, kinds := [], alts := [], laidByText := true, laidKinds := [.data, .widerDeep], laidTests := true, laidLooks := .later }
def FnExactPeepSureCardSaid : Prop := Claim7.holds Tryd.pinned (.plain (OpenSpec.ofChange fnExactPeepSureSpec)) fnExactPeepSureCard

/-- THE TIED CARD OF 'laws.FnExactListOk'. -/
def fnExactListOkCard : Claim7 := { stood := { row := fnExactListOkRow, standIns := [], harness := (true, "7bd01bb6dff7c23bc4cfd1e287d7b362efabc4c0b0ebd9087e7eee9131b60fba"), looks := false }, kinds := [], alts := [], laidByText := true, laidKinds := [.data, .widerDeep], laidTests := true, laidLooks := .later }
def FnExactListOkCardSaid : Prop := Claim7.holds Tryd.pinned (.plain (OpenSpec.ofChange fnExactListOkSpec)) fnExactListOkCard

/-- THE TIED CARD OF 'laws.FnExactSureCheck'. -/
def fnExactSureCheckCard : Claim7 := { stood := { row := fnExactSureCheckRow, standIns := [], harness := (true, "7bd01bb6dff7c23bc4cfd1e287d7b362efabc4c0b0ebd9087e7eee9131b60fba"), looks := false }, kinds := [], alts := [], laidByText := true, laidKinds := [.data, .widerDeep], laidTests := true, laidLooks := .later }
def FnExactSureCheckCardSaid : Prop := Claim7.holds Tryd.pinned (.plain (OpenSpec.ofChange fnExactSureCheckSpec)) fnExactSureCheckCard

/-- THE SECOND FORM's CARD OF 'laws.FnExactPeepSure'. -/
def fnExactPeepSureUptoCard : Claim7 := { stood := { row := fnExactPeepSureUptoRow, standIns := [], harness := (true, "7bd01bb6dff7c23bc4cfd1e287d7b362efabc4c0b0ebd9087e7eee9131b60fba"), looks := false }, kinds := [], alts := [], laidByText := true, laidKinds := [.data, .widerDeep], laidTests := true, laidLooks := .later }
def FnExactPeepSureUptoCardSaid : Prop := Claim7.holds Tryd.pinned (.plain (OpenSpec.upto fnExactPeepSureSpec)) fnExactPeepSureUptoCard

/-- THE SECOND FORM's CARD OF 'laws.FnExactListOk'. -/
def fnExactListOkUptoCard : Claim7 := { stood := { row := fnExactListOkUptoRow, standIns := [], harness := (true, "7bd01bb6dff7c23bc4cfd1e287d7b362efabc4c0b0ebd9087e7eee9131b60fba"), looks := false }, kinds := [], alts := [], laidByText := true, laidKinds := [.data, .widerDeep], laidTests := true, laidLooks := .later }
def FnExactListOkUptoCardSaid : Prop := Claim7.holds Tryd.pinned (.plain (OpenSpec.upto fnExactListOkSpec)) fnExactListOkUptoCard

/-- THE SECOND FORM's CARD OF 'laws.FnExactSureCheck'. -/
def fnExactSureCheckUptoCard : Claim7 := { stood := { row := fnExactSureCheckUptoRow, standIns := [], harness := (true, "7bd01bb6dff7c23bc4cfd1e287d7b362efabc4c0b0ebd9087e7eee9131b60fba"), looks := false }, kinds := [], alts := [], laidByText := true, laidKinds := [.data, .widerDeep], laidTests := true, laidLooks := .later }
def FnExactSureCheckUptoCardSaid : Prop := Claim7.holds Tryd.pinned (.plain (OpenSpec.upto fnExactSureCheckSpec)) fnExactSureCheckUptoCard
end Rows
end Go.Proofs.YtkmfdlcmdgdepaaDoor
