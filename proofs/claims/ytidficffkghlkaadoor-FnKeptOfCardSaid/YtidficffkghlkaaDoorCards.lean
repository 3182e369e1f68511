/-
  DERIVED. GIVEN WITH THE SEED: THE CARDS: each row of YtidficffkghlkaaDoorRows.lean that lists a variable, with what it lists TIED to the program's text (the seventh form; the later family's looks); each row that meets fmt, with fmt's text TOLD by the authors' own Lean function (tested against real Go, not proved from fmt's source: count such statements apart). THE CARD IS WHAT COUNTS. Prove the row's statement (the work); the ties are given (YtidficffkghlkaaDoorTie.lean); close each card by the builder's one call (the guide's Derived/Test/ToyasCard.lean, 'card_holds'). Laid BY PROGRAM, IN A SANDBOX (cutbox-door.mjs). By AI agents, Wed Nov 11 2026. No macro, syntax, notation, axiom, sorry.
-/
import Derived.Test.YtidficffkghlkaaDoorRows
import GoSem.ClaimSeven
namespace Go.Proofs.YtidficffkghlkaaDoor
namespace Rows

/-- THE TIED CARD OF 'laws.FnKeptOf'. -/
def fnKeptOfCard : Claim7 := { stood := { row := fnKeptOfRow, standIns := [], harness := (true, "59b944e77481ec9df12cc9a2770a1fd9871d93cc5eaa644d88d3efe6851a90d6"), looks := false }, kinds := [], alts := [], laidByText := true, laidKinds := [.data], laidTests := true, laidLooks := .later }
def FnKeptOfCardSaid : Prop := Claim7.holds Tryd.pinned (.plain (OpenSpec.ofChange fnKeptOfSpec)) fnKeptOfCard

/-- THE TIED CARD OF 'laws.FnActStep'. -/
def fnActStepCard : Claim7 := { stood := { row := fnActStepRow, standIns := [], harness := (true, "59b944e77481ec9df12cc9a2770a1fd9871d93cc5eaa644d88d3efe6851a90d6"), looks := false }, kinds := [], alts := [], laidByText := true, laidKinds := [.data, .widerDeep], laidTests := true, laidLooks := .later }
def FnActStepCardSaid : Prop := Claim7.holds Tryd.pinned (.plain (OpenSpec.ofChange fnActStepSpec)) fnActStepCard

/-- THE TIED CARD OF 'laws.FnExactActTest'. -/
def fnExactActTestCard : Claim7 := { stood := { row := fnExactActTestRow, standIns := [], harness := (true, "59b944e77481ec9df12cc9a2770a1fd9871d93cc5eaa644d88d3efe6851a90d6"), looks := false }, kinds := [], alts := [], laidByText := true, laidKinds := [.data, .widerDeep], laidTests := true, laidLooks := .later }
def FnExactActTestCardSaid : Prop := Claim7.holds Tryd.pinned (.plain (OpenSpec.ofChange fnExactActTestSpec)) fnExactActTestCard

/-- THE TIED CARD OF 'laws.FnActShut'. -/
def fnActShutCard : Claim7 := { stood := { row := fnActShutRow, standIns := [], harness := (true, "59b944e77481ec9df12cc9a2770a1fd9871d93cc5eaa644d88d3efe6851a90d6"), looks := false }, kinds := [], alts := [], laidByText := true, laidKinds := [.data, .widerDeep], laidTests := true, laidLooks := .later }
def FnActShutCardSaid : Prop := Claim7.holds Tryd.pinned (.plain (OpenSpec.ofChange fnActShutSpec)) fnActShutCard

/-- THE TIED CARD OF 'laws.FnExactEvalNet'. -/
def fnExactEvalNetCard : Claim7 := { stood := { row := fnExactEvalNetRow, standIns := [], harness := (true, "59b944e77481ec9df12cc9a2770a1fd9871d93cc5eaa644d88d3efe6851a90d6"), looks := false }, kinds := [], alts := [], laidByText := true, laidKinds := [.data, .widerDeep], laidTests := true, laidLooks := .later }
def FnExactEvalNetCardSaid : Prop := Claim7.holds Tryd.pinned (.plain (OpenSpec.ofChange fnExactEvalNetSpec)) fnExactEvalNetCard

/-- THE TIED CARD OF 'laws.FnEvalAsked'. -/
def fnEvalAskedCard : Claim7 := { stood := { row := fnEvalAskedRow, standIns := [], harness := (true, "59b944e77481ec9df12cc9a2770a1fd9871d93cc5eaa644d88d3efe6851a90d6"), looks := false }, kinds := [], alts := [], laidByText := true, laidKinds := [.data, .widerDeep], laidTests := true, laidLooks := .later }
def FnEvalAskedCardSaid : Prop := Claim7.holds Tryd.pinned (.plain (OpenSpec.ofChange fnEvalAskedSpec)) fnEvalAskedCard

/-- THE TIED CARD OF 'laws.FnExactActDo'. -/
def fnExactActDoCard : Claim7 := { stood := { row := fnExactActDoRow, standIns := [], harness := (true, "59b944e77481ec9df12cc9a2770a1fd9871d93cc5eaa644d88d3efe6851a90d6"), looks := false }, kinds := [], alts := [], laidByText := true, laidKinds := [.data, .widerDeep], laidTests := true, laidLooks := .later }
def FnExactActDoCardSaid : Prop := Claim7.holds Tryd.pinned (.plain (OpenSpec.ofChange fnExactActDoSpec)) fnExactActDoCard

/-- THE SECOND FORM's CARD OF 'laws.FnKeptOf'. -/
def fnKeptOfUptoCard : Claim7 := { stood := { row := fnKeptOfUptoRow, standIns := [], harness := (true, "59b944e77481ec9df12cc9a2770a1fd9871d93cc5eaa644d88d3efe6851a90d6"), looks := false }, kinds := [], alts := [], laidByText := true, laidKinds := [.data], laidTests := true, laidLooks := .later }
def FnKeptOfUptoCardSaid : Prop := Claim7.holds Tryd.pinned (.plain (OpenSpec.upto fnKeptOfSpec)) fnKeptOfUptoCard

/-- THE SECOND FORM's CARD OF 'laws.FnActStep'. -/
def fnActStepUptoCard : Claim7 := { stood := { row := fnActStepUptoRow, standIns := [], harness := (true, "59b944e77481ec9df12cc9a2770a1fd9871d93cc5eaa644d88d3efe6851a90d6"), looks := false }, kinds := [], alts := [], laidByText := true, laidKinds := [.data, .widerDeep], laidTests := true, laidLooks := .later }
def FnActStepUptoCardSaid : Prop := Claim7.holds Tryd.pinned (.plain (OpenSpec.upto fnActStepSpec)) fnActStepUptoCard

/-- THE SECOND FORM's CARD OF 'laws.FnExactActTest'. -/
def fnExactActTestUptoCard : Claim7 := { stood := { row := fnExactActTestUptoRow, standIns := [], harness := (true, "59b944e77481ec9df12cc9a2770a1fd9871d93cc5eaa644d88d3efe6851a90d6"), looks := false }, kinds := [], alts := [], laidByText := true, laidKinds := [.data, .widerDeep], laidTests := true, laidLooks := .later }
def FnExactActTestUptoCardSaid : Prop := Claim7.holds Tryd.pinned (.plain (OpenSpec.upto fnExactActTestSpec)) fnExactActTestUptoCard

/-- THE SECOND FORM's CARD OF 'laws.FnActShut'. -/
def fnActShutUptoCard : Claim7 := { stood := { row := fnActShutUptoRow, standIns := [], harness := (true, "59b944e77481ec9df12cc9a2770a1fd9871d93cc5eaa644d88d3efe6851a90d6"), looks := false }, kinds := [], alts := [], laidByText := true, laidKinds := [.data, .widerDeep], laidTests := true, laidLooks := .later }
def FnActShutUptoCardSaid : Prop := Claim7.holds Tryd.pinned (.plain (OpenSpec.upto fnActShutSpec)) fnActShutUptoCard

/-- THE SECOND FORM's CARD OF 'laws.FnExactEvalNet'. -/
def fnExactEvalNetUptoCard : Claim7 := { stood := { row := fnExactEvalNetUptoRow, standIns := [], harness := (true, "59b944e77481ec9df12cc9a2770a1fd9871d93cc5eaa644d88d3efe6851a90d6"), looks := false }, kinds := [], alts := [], laidByText := true, laidKinds := [.data, .widerDeep], laidTests := true, laidLooks := .later }
def FnExactEvalNetUptoCardSaid : Prop := Claim7.holds Tryd.pinned (.plain (OpenSpec.upto fnExactEvalNetSpec)) fnExactEvalNetUptoCard

/-- THE SECOND FORM's CARD OF 'laws.FnEvalAsked'. -/
def fnEvalAskedUptoCard : Claim7 := { stood := { row := fnEvalAskedUptoRow, standIns := [], harness := (true, "59b944e77481ec9df12cc9a2770a1fd9871d93cc5eaa644d88d3efe6851a90d6"), looks := false }, kinds := [], alts := [], laidByText := true, laidKinds := [.data, .widerDeep], laidTests := true, laidLooks := .later }
def FnEvalAskedUptoCardSaid : Prop := Claim7.holds Tryd.pinned (.plain (OpenSpec.upto fnEvalAskedSpec)) fnEvalAskedUptoCard

/-- THE SECOND FORM's CARD OF 'laws.FnExactActDo'. -/
def fnExactActDoUptoCard : Claim7 := { stood := { row := fnExactActDoUptoRow, standIns := [], harness := (true, "59b944e77481ec9df12cc9a2770a1fd9871d93cc5eaa644d88d3efe6851a90d6"), looks := false }, kinds := [], alts := [], laidByText := true, laidKinds := [.data, .widerDeep], laidTests := true, laidLooks := .later }
def FnExactActDoUptoCardSaid : Prop := Claim7.holds Tryd.pinned (.plain (OpenSpec.upto fnExactActDoSpec)) fnExactActDoUptoCard
end Rows
end Go.Proofs.YtidficffkghlkaaDoor
