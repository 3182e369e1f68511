/-
  DERIVED. GIVEN WITH THE SEED: THE CARDS: each row of YtaegonmpjgdmgaaDoorRows.lean that lists a variable, with what it lists TIED to the program's text (the seventh form; the later family's looks); each row that meets fmt, with fmt's text TOLD by the authors' own Lean function (tested against real Go, not proved from fmt's source: count such statements apart). THE CARD IS WHAT COUNTS. Prove the row's statement (the work); the ties are given (YtaegonmpjgdmgaaDoorTie.lean); close each card by the builder's one call (the guide's Derived/Test/ToyasCard.lean, 'card_holds'). Laid BY PROGRAM, IN A SANDBOX (cutbox-door.mjs). By AI agents, Wed Nov 11 2026. No macro, syntax, notation, axiom, sorry.
-/
import Derived.Test.YtaegonmpjgdmgaaDoorRows
import GoSem.ClaimSeven
namespace Go.Proofs.YtaegonmpjgdmgaaDoor
namespace Rows

/-- THE TIED CARD OF 'laws.FnExactActTest'. -/
def fnExactActTestCard : Claim7 := { stood := { row := fnExactActTestRow, standIns := [], harness := (true, "8c247e62aeff27cda096c0749cda341d1a6a55d65785c2fb18579466739949eb"), looks := false }, kinds := [], alts := [], laidByText := true, laidKinds := [.data, .widerDeep], laidTests := true, laidLooks := .later }
def FnExactActTestCardSaid : Prop := Claim7.holds Tryd.pinned (.plain (OpenSpec.ofChange fnExactActTestSpec)) fnExactActTestCard

/-- THE TIED CARD OF 'laws.FnExactActDo'. -/
def fnExactActDoCard : Claim7 := { stood := { row := fnExactActDoRow, standIns := [], harness := (true, "8c247e62aeff27cda096c0749cda341d1a6a55d65785c2fb18579466739949eb"), looks := false }, kinds := [], alts := [], laidByText := true, laidKinds := [.data, .widerDeep], laidTests := true, laidLooks := .later }
def FnExactActDoCardSaid : Prop := Claim7.holds Tryd.pinned (.plain (OpenSpec.ofChange fnExactActDoSpec)) fnExactActDoCard

/-- THE SECOND FORM's CARD OF 'laws.FnExactActTest'. -/
def fnExactActTestUptoCard : Claim7 := { stood := { row := fnExactActTestUptoRow, standIns := [], harness := (true, "8c247e62aeff27cda096c0749cda341d1a6a55d65785c2fb18579466739949eb"), looks := false }, kinds := [], alts := [], laidByText := true, laidKinds := [.data, .widerDeep], laidTests := true, laidLooks := .later }
def FnExactActTestUptoCardSaid : Prop := Claim7.holds Tryd.pinned (.plain (OpenSpec.upto fnExactActTestSpec)) fnExactActTestUptoCard

/-- THE SECOND FORM's CARD OF 'laws.FnExactActDo'. -/
def fnExactActDoUptoCard : Claim7 := { stood := { row := fnExactActDoUptoRow, standIns := [], harness := (true, "8c247e62aeff27cda096c0749cda341d1a6a55d65785c2fb18579466739949eb"), looks := false }, kinds := [], alts := [], laidByText := true, laidKinds := [.data, .widerDeep], laidTests := true, laidLooks := .later }
def FnExactActDoUptoCardSaid : Prop := Claim7.holds Tryd.pinned (.plain (OpenSpec.upto fnExactActDoSpec)) fnExactActDoUptoCard
end Rows
end Go.Proofs.YtaegonmpjgdmgaaDoor
