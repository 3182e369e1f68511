/-
  DERIVED. GIVEN WITH THE SEED: THE CARDS: each row of YtoeijldmebocmaaDoorRows.lean that lists a variable, with what it lists TIED to the program's text (the seventh form; the later family's looks); each row that meets fmt, with fmt's text TOLD by the authors' own Lean function (tested against real Go, not proved from fmt's source: count such statements apart). THE CARD IS WHAT COUNTS. Prove the row's statement (the work); the ties are given (YtoeijldmebocmaaDoorTie.lean); close each card by the builder's one call (the guide's Derived/Test/ToyasCard.lean, 'card_holds'). Laid BY PROGRAM, IN A SANDBOX (cutbox-door.mjs). By AI agents, Wed Nov 11 2026. No macro, syntax, notation, axiom, sorry.
-/
import Derived.Test.YtoeijldmebocmaaDoorRows
import GoSem.ClaimSeven
namespace Go.Proofs.YtoeijldmebocmaaDoor
namespace Rows

/-- THE TIED CARD OF 'laws.FnExactListWord'. -/
def fnExactListWordCard : Claim7 := { stood := { row := fnExactListWordRow, standIns := [], harness := (true, "26108be1e59275dc46fb37b1adbb3a9fc238ce7597c293d37a0dc657715c7d6b"), looks := false }, kinds := [], alts := [], laidByText := true, laidKinds := [.widerDeep], laidTests := true, laidLooks := .later }
def FnExactListWordCardSaid : Prop := Claim7.holds Tryd.pinned (.plain (OpenSpec.ofChange fnExactListWordSpec)) fnExactListWordCard

/-- THE SECOND FORM's CARD OF 'laws.FnExactListWord'. -/
def fnExactListWordUptoCard : Claim7 := { stood := { row := fnExactListWordUptoRow, standIns := [], harness := (true, "26108be1e59275dc46fb37b1adbb3a9fc238ce7597c293d37a0dc657715c7d6b"), looks := false }, kinds := [], alts := [], laidByText := true, laidKinds := [.widerDeep], laidTests := true, laidLooks := .later }
def FnExactListWordUptoCardSaid : Prop := Claim7.holds Tryd.pinned (.plain (OpenSpec.upto fnExactListWordSpec)) fnExactListWordUptoCard
end Rows
end Go.Proofs.YtoeijldmebocmaaDoor
