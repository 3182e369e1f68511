/-
  DERIVED. GIVEN WITH THE SEED: THE CARDS: each row of YtbceekfgopaokaaDoorRows.lean that lists a variable, with what it lists TIED to the program's text (the seventh form; the later family's looks); each row that meets fmt, with fmt's text TOLD by the authors' own Lean function (tested against real Go, not proved from fmt's source: count such statements apart). THE CARD IS WHAT COUNTS. Prove the row's statement (the work); the ties are given (YtbceekfgopaokaaDoorTie.lean); close each card by the builder's one call (the guide's Derived/Test/ToyasCard.lean, 'card_holds'). Laid BY PROGRAM, IN A SANDBOX (cutbox-door.mjs). By AI agents, Wed Nov 11 2026. No macro, syntax, notation, axiom, sorry.
-/
import Derived.Test.YtbceekfgopaokaaDoorRows
import GoSem.ClaimSeven
namespace Go.Proofs.YtbceekfgopaokaaDoor
namespace Rows

/-- THE TIED CARD OF 'laws.FnActEdge'. -/
def fnActEdgeCard : Claim7 := { stood := { row := fnActEdgeRow, standIns := [], harness := (true, "bddd9a93c73c30e26c2423e0bd24ab9a13e5d0d0f3d7092fddf98c470e9aea37"), looks := false }, kinds := [], alts := [], laidByText := true, laidKinds := [.data, .widerDeep], laidTests := true, laidLooks := .later }
def FnActEdgeCardSaid : Prop := Claim7.holds Tryd.pinned (.plain (OpenSpec.ofChange fnActEdgeSpec)) fnActEdgeCard

/-- THE TIED CARD OF 'laws.FnActCount'. -/
def fnActCountCard : Claim7 := { stood := { row := fnActCountRow, standIns := [], harness := (true, "bddd9a93c73c30e26c2423e0bd24ab9a13e5d0d0f3d7092fddf98c470e9aea37"), looks := false }, kinds := [], alts := [], laidByText := true, laidKinds := [.data, .widerDeep], laidTests := true, laidLooks := .later }
def FnActCountCardSaid : Prop := Claim7.holds Tryd.pinned (.plain (OpenSpec.ofChange fnActCountSpec)) fnActCountCard

/-- THE TIED CARD OF 'laws.FnActTimer'. -/
def fnActTimerCard : Claim7 := { stood := { row := fnActTimerRow, standIns := [], harness := (true, "bddd9a93c73c30e26c2423e0bd24ab9a13e5d0d0f3d7092fddf98c470e9aea37"), looks := false }, kinds := [], alts := [], laidByText := true, laidKinds := [.data, .widerDeep], laidTests := true, laidLooks := .later }
def FnActTimerCardSaid : Prop := Claim7.holds Tryd.pinned (.plain (OpenSpec.ofChange fnActTimerSpec)) fnActTimerCard

/-- THE TIED CARD OF 'laws.FnActStep'. -/
def fnActStepCard : Claim7 := { stood := { row := fnActStepRow, standIns := [], harness := (true, "bddd9a93c73c30e26c2423e0bd24ab9a13e5d0d0f3d7092fddf98c470e9aea37"), looks := false }, kinds := [], alts := [], laidByText := true, laidKinds := [.data, .widerDeep], laidTests := true, laidLooks := .later }
def FnActStepCardSaid : Prop := Claim7.holds Tryd.pinned (.plain (OpenSpec.ofChange fnActStepSpec)) fnActStepCard

/-- THE TIED CARD OF 'laws.FnExactActTest'. -/
def fnExactActTestCard : Claim7 := { stood := { row := fnExactActTestRow, standIns := [], harness := (true, "bddd9a93c73c30e26c2423e0bd24ab9a13e5d0d0f3d7092fddf98c470e9aea37"), looks := false }, kinds := [], alts := [], laidByText := true, laidKinds := [.data, .widerDeep], laidTests := true, laidLooks := .later }
def FnExactActTestCardSaid : Prop := Claim7.holds Tryd.pinned (.plain (OpenSpec.ofChange fnExactActTestSpec)) fnExactActTestCard

/-- THE TIED CARD OF 'laws.FnActShut'. -/
def fnActShutCard : Claim7 := { stood := { row := fnActShutRow, standIns := [], harness := (true, "bddd9a93c73c30e26c2423e0bd24ab9a13e5d0d0f3d7092fddf98c470e9aea37"), looks := false }, kinds := [], alts := [], laidByText := true, laidKinds := [.data, .widerDeep], laidTests := true, laidLooks := .later }
def FnActShutCardSaid : Prop := Claim7.holds Tryd.pinned (.plain (OpenSpec.ofChange fnActShutSpec)) fnActShutCard

/-- THE TIED CARD OF 'laws.FnExactEvalNet'. -/
def fnExactEvalNetCard : Claim7 := { stood := { row := fnExactEvalNetRow, standIns := [], harness := (true, "bddd9a93c73c30e26c2423e0bd24ab9a13e5d0d0f3d7092fddf98c470e9aea37"), looks := false }, kinds := [], alts := [], laidByText := true, laidKinds := [.data, .widerDeep], laidTests := true, laidLooks := .later }
def FnExactEvalNetCardSaid : Prop := Claim7.holds Tryd.pinned (.plain (OpenSpec.ofChange fnExactEvalNetSpec)) fnExactEvalNetCard

/-- THE TIED CARD OF 'laws.FnEvalAsked'. -/
def fnEvalAskedCard : Claim7 := { stood := { row := fnEvalAskedRow, standIns := [], harness := (true, "bddd9a93c73c30e26c2423e0bd24ab9a13e5d0d0f3d7092fddf98c470e9aea37"), looks := false }, kinds := [], alts := [], laidByText := true, laidKinds := [.data, .widerDeep], laidTests := true, laidLooks := .later }
def FnEvalAskedCardSaid : Prop := Claim7.holds Tryd.pinned (.plain (OpenSpec.ofChange fnEvalAskedSpec)) fnEvalAskedCard

/-- THE TIED CARD OF 'laws.FnExactActDo'. -/
def fnExactActDoCard : Claim7 := { stood := { row := fnExactActDoRow, standIns := [], harness := (true, "bddd9a93c73c30e26c2423e0bd24ab9a13e5d0d0f3d7092fddf98c470e9aea37"), looks := false }, kinds := [], alts := [], laidByText := true, laidKinds := [.data, .widerDeep], laidTests := true, laidLooks := .later }
def FnExactActDoCardSaid : Prop := Claim7.holds Tryd.pinned (.plain (OpenSpec.ofChange fnExactActDoSpec)) fnExactActDoCard

/-- THE SECOND FORM's CARD OF 'laws.FnActEdge'. -/
def fnActEdgeUptoCard : Claim7 := { stood := { row := fnActEdgeUptoRow, standIns := [], harness := (true, "bddd9a93c73c30e26c2423e0bd24ab9a13e5d0d0f3d7092fddf98c470e9aea37"), looks := false }, kinds := [], alts := [], laidByText := true, laidKinds := [.data, .widerDeep], laidTests := true, laidLooks := .later }
def FnActEdgeUptoCardSaid : Prop := Claim7.holds Tryd.pinned (.plain (OpenSpec.upto fnActEdgeSpec)) fnActEdgeUptoCard

/-- THE SECOND FORM's CARD OF 'laws.FnActCount'. -/
def fnActCountUptoCard : Claim7 := { stood := { row := fnActCountUptoRow, standIns := [], harness := (true, "bddd9a93c73c30e26c2423e0bd24ab9a13e5d0d0f3d7092fddf98c470e9aea37"), looks := false }, kinds := [], alts := [], laidByText := true, laidKinds := [.data, .widerDeep], laidTests := true, laidLooks := .later }
def FnActCountUptoCardSaid : Prop := Claim7.holds Tryd.pinned (.plain (OpenSpec.upto fnActCountSpec)) fnActCountUptoCard

/-- THE SECOND FORM's CARD OF 'laws.FnActTimer'. -/
def fnActTimerUptoCard : Claim7 := { stood := { row := fnActTimerUptoRow, standIns := [], harness := (true, "bddd9a93c73c30e26c2423e0bd24ab9a13e5d0d0f3d7092fddf98c470e9aea37"), looks := false }, kinds := [], alts := [], laidByText := true, laidKinds := [.data, .widerDeep], laidTests := true, laidLooks := .later }
def FnActTimerUptoCardSaid : Prop := Claim7.holds Tryd.pinned (.plain (OpenSpec.upto fnActTimerSpec)) fnActTimerUptoCard

/-- THE SECOND FORM's CARD OF 'laws.FnActStep'. -/
def fnActStepUptoCard : Claim7 := { stood := { row := fnActStepUptoRow, standIns := [], harness := (true, "bddd9a93c73c30e26c2423e0bd24ab9a13e5d0d0f3d7092fddf98c470e9aea37"), looks := false }, kinds := [], alts := [], laidByText := true, laidKinds := [.data, .widerDeep], laidTests := true, laidLooks := .later }
def FnActStepUptoCardSaid : Prop := Claim7.holds Tryd.pinned (.plain (OpenSpec.upto fnActStepSpec)) fnActStepUptoCard

/-- THE SECOND FORM's CARD OF 'laws.FnExactActTest'. -/
def fnExactActTestUptoCard : Claim7 := { stood := { row := fnExactActTestUptoRow, standIns := [], harness := (true, "bddd9a93c73c30e26c2423e0bd24ab9a13e5d0d0f3d7092fddf98c470e9aea37"), looks := false }, kinds := [], alts := [], laidByText := true, laidKinds := [.data, .widerDeep], laidTests := true, laidLooks := .later }
def FnExactActTestUptoCardSaid : Prop := Claim7.holds Tryd.pinned (.plain (OpenSpec.upto fnExactActTestSpec)) fnExactActTestUptoCard

/-- THE SECOND FORM's CARD OF 'laws.FnActShut'. -/
def fnActShutUptoCard : Claim7 := { stood := { row := fnActShutUptoRow, standIns := [], harness := (true, "bddd9a93c73c30e26c2423e0bd24ab9a13e5d0d0f3d7092fddf98c470e9aea37"), looks := false }, kinds := [], alts := [], laidByText := true, laidKinds := [.data, .widerDeep], laidTests := true, laidLooks := .later }
def FnActShutUptoCardSaid : Prop := Claim7.holds Tryd.pinned (.plain (OpenSpec.upto fnActShutSpec)) fnActShutUptoCard

/-- THE SECOND FORM's CARD OF 'laws.FnExactEvalNet'. -/
def fnExactEvalNetUptoCard : Claim7 := { stood := { row := fnExactEvalNetUptoRow, standIns := [], harness := (true, "bddd9a93c73c30e26c2423e0bd24ab9a13e5d0d0f3d7092fddf98c470e9aea37"), looks := false }, kinds := [], alts := [], laidByText := true, laidKinds := [.data, .widerDeep], laidTests := true, laidLooks := .later }
def FnExactEvalNetUptoCardSaid : Prop := Claim7.holds Tryd.pinned (.plain (OpenSpec.upto fnExactEvalNetSpec)) fnExactEvalNetUptoCard

/-- THE SECOND FORM's CARD OF 'laws.FnEvalAsked'. -/
def fnEvalAskedUptoCard : Claim7 := { stood := { row := fnEvalAskedUptoRow, standIns := [], harness := (true, "bddd9a93c73c30e26c2423e0bd24ab9a13e5d0d0f3d7092fddf98c470e9aea37"), looks := false }, kinds := [], alts := [], laidByText := true, laidKinds := [.data, .widerDeep], laidTests := true, laidLooks := .later }
def FnEvalAskedUptoCardSaid : Prop := Claim7.holds Tryd.pinned (.plain (OpenSpec.upto fnEvalAskedSpec)) fnEvalAskedUptoCard

/-- THE SECOND FORM's CARD OF 'laws.FnExactActDo'. -/
def fnExactActDoUptoCard : Claim7 := { stood := { row := fnExactActDoUptoRow, standIns := [], harness := (true, "bddd9a93c73c30e26c2423e0bd24ab9a13e5d0d0f3d7092fddf98c470e9aea37"), looks := false }, kinds := [], alts := [], laidByText := true, laidKinds := [.data, .widerDeep], laidTests := true, laidLooks := .later }
def FnExactActDoUptoCardSaid : Prop := Claim7.holds Tryd.pinned (.plain (OpenSpec.upto fnExactActDoSpec)) fnExactActDoUptoCard
end Rows
end Go.Proofs.YtbceekfgopaokaaDoor
