/-
  No cell of these rows narrows 'for every input' (looked for: loops, veiled, ifaces, maps, wideKeys, modest, calm, conditions, laid).
  DERIVED. THE GIVEN ROWS OF THIS SEAT. 14 by the template 'for every input the law returns true; each argument reads behind the call as it read before'; 0 by the template 'total and deterministic' (their statements: YtoeijldmebocmaaTotals.lean).
  GIVEN WITH THE SEED: the statements are not yours to turn. If you find one false, say at which input.
  Laid BY PROGRAM, IN A SANDBOX (cutbox-rows.mjs): the forced cells as the released guide's own fill.sh prints them over the translation 0d6821222ae632a0… (all of the seat's roots in one cut). By AI agents, Wed Nov 11 2026. No macro, syntax, notation, axiom, sorry.
-/
import Derived.Test.YtoeijldmebocmaaChecked
import GoSem.Claim
import GoSem.ClaimJoined
import GoSem.ClaimMapViews
import Derived.JoinedTies
import Derived.KernelRfl
namespace Go.Proofs.Ytoeijldmebocmaa
/- THE CELL 'sum', in the pinned program and in every row, IS THE sha256 OF THE DUMP (.gsa) THAT YtoeijldmebocmaaProg.lean LOADS. Nothing in Lean hashes anything: it is a label: what it is worth is what the hold of that sum in a sandbox is worth. -/
noncomputable def Try.pinned : Pinned := { name := "ytoeijldmebocmaa", sum := "0d6821222ae632a0ae7e2aed9c84c3564c1fa1c8595c7e93cc66928df88ff7da", checked := Try.checked }
namespace Rows
def none {H : Type} : Left H := { results := [], args := [] }

/-- 'laws.FnExactWireOf': WHATEVER THE INPUT: true; the input reads as it did. -/
def fnExactWireOfSpec : ChangeSpec := { name := "fnExactWireOf", fn := fun _ => fun
  | [d] => { results := [.lit (.bool true)], args := [d] }
  | _ => none }
def fnExactWireOfRow : OpenClaim := { program := "ytoeijldmebocmaa", sum := "0d6821222ae632a0ae7e2aed9c84c3564c1fa1c8595c7e93cc66928df88ff7da", func := "loop.example/stile/laws.FnExactWireOf", spec := "fnExactWireOf", apart := false }
def FnExactWireOfSaid : Prop := fnExactWireOfRow.holds Try.pinned (OpenSpec.ofChange fnExactWireOfSpec)

/-- ITS FALSE NEIGHBOUR: 'it returns false'. Refute it at one input. -/
def fnExactWireOfWrong : ChangeSpec := { name := "fnExactWireOf", fn := fun _ => fun
  | [d] => { results := [.lit (.bool false)], args := [d] }
  | _ => none }
def FnExactWireOfWrongFalsely : Prop := fnExactWireOfRow.holds Try.pinned (OpenSpec.ofChange fnExactWireOfWrong)

/-- 'laws.FnExactPicHex': WHATEVER THE INPUT: true; the input reads as it did. -/
def fnExactPicHexSpec : ChangeSpec := { name := "fnExactPicHex", fn := fun _ => fun
  | [d] => { results := [.lit (.bool true)], args := [d] }
  | _ => none }
def fnExactPicHexRow : OpenClaim := { program := "ytoeijldmebocmaa", sum := "0d6821222ae632a0ae7e2aed9c84c3564c1fa1c8595c7e93cc66928df88ff7da", func := "loop.example/stile/laws.FnExactPicHex", spec := "fnExactPicHex", apart := false }
def FnExactPicHexSaid : Prop := fnExactPicHexRow.holds Try.pinned (OpenSpec.ofChange fnExactPicHexSpec)

/-- ITS FALSE NEIGHBOUR: 'it returns false'. Refute it at one input. -/
def fnExactPicHexWrong : ChangeSpec := { name := "fnExactPicHex", fn := fun _ => fun
  | [d] => { results := [.lit (.bool false)], args := [d] }
  | _ => none }
def FnExactPicHexWrongFalsely : Prop := fnExactPicHexRow.holds Try.pinned (OpenSpec.ofChange fnExactPicHexWrong)

/-- 'laws.FnExactPicSum': WHATEVER THE INPUT: true; the input reads as it did. -/
def fnExactPicSumSpec : ChangeSpec := { name := "fnExactPicSum", fn := fun _ => fun
  | [d] => { results := [.lit (.bool true)], args := [d] }
  | _ => none }
def fnExactPicSumRow : OpenClaim := { program := "ytoeijldmebocmaa", sum := "0d6821222ae632a0ae7e2aed9c84c3564c1fa1c8595c7e93cc66928df88ff7da", func := "loop.example/stile/laws.FnExactPicSum", spec := "fnExactPicSum", apart := false }
def FnExactPicSumSaid : Prop := fnExactPicSumRow.holds Try.pinned (OpenSpec.ofChange fnExactPicSumSpec)

/-- ITS FALSE NEIGHBOUR: 'it returns false'. Refute it at one input. -/
def fnExactPicSumWrong : ChangeSpec := { name := "fnExactPicSum", fn := fun _ => fun
  | [d] => { results := [.lit (.bool false)], args := [d] }
  | _ => none }
def FnExactPicSumWrongFalsely : Prop := fnExactPicSumRow.holds Try.pinned (OpenSpec.ofChange fnExactPicSumWrong)

/-- 'laws.FnExactBoxPack': WHATEVER THE INPUT: true; the input reads as it did. -/
def fnExactBoxPackSpec : ChangeSpec := { name := "fnExactBoxPack", fn := fun _ => fun
  | [d1, d2] => { results := [.lit (.bool true)], args := [d1, d2] }
  | _ => none }
def fnExactBoxPackRow : OpenClaim := { program := "ytoeijldmebocmaa", sum := "0d6821222ae632a0ae7e2aed9c84c3564c1fa1c8595c7e93cc66928df88ff7da", func := "loop.example/stile/laws.FnExactBoxPack", spec := "fnExactBoxPack", apart := false }
def FnExactBoxPackSaid : Prop := fnExactBoxPackRow.holds Try.pinned (OpenSpec.ofChange fnExactBoxPackSpec)

/-- ITS FALSE NEIGHBOUR: 'it returns false'. Refute it at one input. -/
def fnExactBoxPackWrong : ChangeSpec := { name := "fnExactBoxPack", fn := fun _ => fun
  | [d1, d2] => { results := [.lit (.bool false)], args := [d1, d2] }
  | _ => none }
def FnExactBoxPackWrongFalsely : Prop := fnExactBoxPackRow.holds Try.pinned (OpenSpec.ofChange fnExactBoxPackWrong)

/-- 'laws.FnExactPicBytes': WHATEVER THE INPUT: true; the input reads as it did. -/
def fnExactPicBytesSpec : ChangeSpec := { name := "fnExactPicBytes", fn := fun _ => fun
  | [d] => { results := [.lit (.bool true)], args := [d] }
  | _ => none }
def fnExactPicBytesRow : OpenClaim := { program := "ytoeijldmebocmaa", sum := "0d6821222ae632a0ae7e2aed9c84c3564c1fa1c8595c7e93cc66928df88ff7da", func := "loop.example/stile/laws.FnExactPicBytes", spec := "fnExactPicBytes", inPlace := ["internal/bytealg.IndexByteString"], apart := false }
def FnExactPicBytesSaid : Prop := fnExactPicBytesRow.holds Try.pinned (OpenSpec.ofChange fnExactPicBytesSpec)

/-- ITS FALSE NEIGHBOUR: 'it returns false'. Refute it at one input. -/
def fnExactPicBytesWrong : ChangeSpec := { name := "fnExactPicBytes", fn := fun _ => fun
  | [d] => { results := [.lit (.bool false)], args := [d] }
  | _ => none }
def FnExactPicBytesWrongFalsely : Prop := fnExactPicBytesRow.holds Try.pinned (OpenSpec.ofChange fnExactPicBytesWrong)

/-- 'laws.FnExactWireOk': WHATEVER THE INPUT: true; the input reads as it did. -/
def fnExactWireOkSpec : ChangeSpec := { name := "fnExactWireOk", fn := fun _ => fun
  | [d] => { results := [.lit (.bool true)], args := [d] }
  | _ => none }
def fnExactWireOkRow : OpenClaim := { program := "ytoeijldmebocmaa", sum := "0d6821222ae632a0ae7e2aed9c84c3564c1fa1c8595c7e93cc66928df88ff7da", func := "loop.example/stile/laws.FnExactWireOk", spec := "fnExactWireOk", apart := false }
def FnExactWireOkSaid : Prop := fnExactWireOkRow.holds Try.pinned (OpenSpec.ofChange fnExactWireOkSpec)

/-- ITS FALSE NEIGHBOUR: 'it returns false'. Refute it at one input. -/
def fnExactWireOkWrong : ChangeSpec := { name := "fnExactWireOk", fn := fun _ => fun
  | [d] => { results := [.lit (.bool false)], args := [d] }
  | _ => none }
def FnExactWireOkWrongFalsely : Prop := fnExactWireOkRow.holds Try.pinned (OpenSpec.ofChange fnExactWireOkWrong)

/-- 'laws.FnExactWireToBox': WHATEVER THE INPUT: true; the input reads as it did. -/
def fnExactWireToBoxSpec : ChangeSpec := { name := "fnExactWireToBox", fn := fun _ => fun
  | [d] => { results := [.lit (.bool true)], args := [d] }
  | _ => none }
def fnExactWireToBoxRow : OpenClaim := { program := "ytoeijldmebocmaa", sum := "0d6821222ae632a0ae7e2aed9c84c3564c1fa1c8595c7e93cc66928df88ff7da", func := "loop.example/stile/laws.FnExactWireToBox", spec := "fnExactWireToBox", apart := false }
def FnExactWireToBoxSaid : Prop := fnExactWireToBoxRow.holds Try.pinned (OpenSpec.ofChange fnExactWireToBoxSpec)

/-- ITS FALSE NEIGHBOUR: 'it returns false'. Refute it at one input. -/
def fnExactWireToBoxWrong : ChangeSpec := { name := "fnExactWireToBox", fn := fun _ => fun
  | [d] => { results := [.lit (.bool false)], args := [d] }
  | _ => none }
def FnExactWireToBoxWrongFalsely : Prop := fnExactWireToBoxRow.holds Try.pinned (OpenSpec.ofChange fnExactWireToBoxWrong)

/-- 'laws.FnExactHoldSlotNow': WHATEVER THE INPUT: true; the input reads as it did. -/
def fnExactHoldSlotNowSpec : ChangeSpec := { name := "fnExactHoldSlotNow", fn := fun _ => fun
  | [d] => { results := [.lit (.bool true)], args := [d] }
  | _ => none }
def fnExactHoldSlotNowRow : OpenClaim := { program := "ytoeijldmebocmaa", sum := "0d6821222ae632a0ae7e2aed9c84c3564c1fa1c8595c7e93cc66928df88ff7da", func := "loop.example/stile/laws.FnExactHoldSlotNow", spec := "fnExactHoldSlotNow", apart := false }
def FnExactHoldSlotNowSaid : Prop := fnExactHoldSlotNowRow.holds Try.pinned (OpenSpec.ofChange fnExactHoldSlotNowSpec)

/-- ITS FALSE NEIGHBOUR: 'it returns false'. Refute it at one input. -/
def fnExactHoldSlotNowWrong : ChangeSpec := { name := "fnExactHoldSlotNow", fn := fun _ => fun
  | [d] => { results := [.lit (.bool false)], args := [d] }
  | _ => none }
def FnExactHoldSlotNowWrongFalsely : Prop := fnExactHoldSlotNowRow.holds Try.pinned (OpenSpec.ofChange fnExactHoldSlotNowWrong)

/-- 'laws.FnWireBack': WHATEVER THE INPUT: true; the input reads as it did. -/
def fnWireBackSpec : ChangeSpec := { name := "fnWireBack", fn := fun _ => fun
  | [d] => { results := [.lit (.bool true)], args := [d] }
  | _ => none }
def fnWireBackRow : OpenClaim := { program := "ytoeijldmebocmaa", sum := "0d6821222ae632a0ae7e2aed9c84c3564c1fa1c8595c7e93cc66928df88ff7da", func := "loop.example/stile/laws.FnWireBack", spec := "fnWireBack", unfollowed := true, recurses := true, apart := false }
def FnWireBackSaid : Prop := fnWireBackRow.holds Try.pinned (OpenSpec.ofChange fnWireBackSpec)

/-- ITS FALSE NEIGHBOUR: 'it returns false'. Refute it at one input. -/
def fnWireBackWrong : ChangeSpec := { name := "fnWireBack", fn := fun _ => fun
  | [d] => { results := [.lit (.bool false)], args := [d] }
  | _ => none }
def FnWireBackWrongFalsely : Prop := fnWireBackRow.holds Try.pinned (OpenSpec.ofChange fnWireBackWrong)

/-- 'laws.FnExactHoldNow': WHATEVER THE INPUT: true; the input reads as it did. -/
def fnExactHoldNowSpec : ChangeSpec := { name := "fnExactHoldNow", fn := fun _ => fun
  | [d] => { results := [.lit (.bool true)], args := [d] }
  | _ => none }
def fnExactHoldNowRow : OpenClaim := { program := "ytoeijldmebocmaa", sum := "0d6821222ae632a0ae7e2aed9c84c3564c1fa1c8595c7e93cc66928df88ff7da", func := "loop.example/stile/laws.FnExactHoldNow", spec := "fnExactHoldNow", apart := false }
def FnExactHoldNowSaid : Prop := fnExactHoldNowRow.holds Try.pinned (OpenSpec.ofChange fnExactHoldNowSpec)

/-- ITS FALSE NEIGHBOUR: 'it returns false'. Refute it at one input. -/
def fnExactHoldNowWrong : ChangeSpec := { name := "fnExactHoldNow", fn := fun _ => fun
  | [d] => { results := [.lit (.bool false)], args := [d] }
  | _ => none }
def FnExactHoldNowWrongFalsely : Prop := fnExactHoldNowRow.holds Try.pinned (OpenSpec.ofChange fnExactHoldNowWrong)

/-- 'laws.FnExactWireCut': WHATEVER THE INPUT: true; the input reads as it did. -/
def fnExactWireCutSpec : ChangeSpec := { name := "fnExactWireCut", fn := fun _ => fun
  | [d1, d2] => { results := [.lit (.bool true)], args := [d1, d2] }
  | _ => none }
def fnExactWireCutRow : OpenClaim := { program := "ytoeijldmebocmaa", sum := "0d6821222ae632a0ae7e2aed9c84c3564c1fa1c8595c7e93cc66928df88ff7da", func := "loop.example/stile/laws.FnExactWireCut", spec := "fnExactWireCut", unfollowed := true, recurses := true, apart := false }
def FnExactWireCutSaid : Prop := fnExactWireCutRow.holds Try.pinned (OpenSpec.ofChange fnExactWireCutSpec)

/-- ITS FALSE NEIGHBOUR: 'it returns false'. Refute it at one input. -/
def fnExactWireCutWrong : ChangeSpec := { name := "fnExactWireCut", fn := fun _ => fun
  | [d1, d2] => { results := [.lit (.bool false)], args := [d1, d2] }
  | _ => none }
def FnExactWireCutWrongFalsely : Prop := fnExactWireCutRow.holds Try.pinned (OpenSpec.ofChange fnExactWireCutWrong)

/-- 'laws.FnExactWireJoin': WHATEVER THE INPUT: true; the input reads as it did. -/
def fnExactWireJoinSpec : ChangeSpec := { name := "fnExactWireJoin", fn := fun _ => fun
  | [d] => { results := [.lit (.bool true)], args := [d] }
  | _ => none }
def fnExactWireJoinRow : OpenClaim := { program := "ytoeijldmebocmaa", sum := "0d6821222ae632a0ae7e2aed9c84c3564c1fa1c8595c7e93cc66928df88ff7da", func := "loop.example/stile/laws.FnExactWireJoin", spec := "fnExactWireJoin", apart := false }
def FnExactWireJoinSaid : Prop := fnExactWireJoinRow.holds Try.pinned (OpenSpec.ofChange fnExactWireJoinSpec)

/-- ITS FALSE NEIGHBOUR: 'it returns false'. Refute it at one input. -/
def fnExactWireJoinWrong : ChangeSpec := { name := "fnExactWireJoin", fn := fun _ => fun
  | [d] => { results := [.lit (.bool false)], args := [d] }
  | _ => none }
def FnExactWireJoinWrongFalsely : Prop := fnExactWireJoinRow.holds Try.pinned (OpenSpec.ofChange fnExactWireJoinWrong)

/-- 'laws.FnWireJoin': WHATEVER THE INPUT: true; the input reads as it did. -/
def fnWireJoinSpec : ChangeSpec := { name := "fnWireJoin", fn := fun _ => fun
  | [d] => { results := [.lit (.bool true)], args := [d] }
  | _ => none }
def fnWireJoinRow : OpenClaim := { program := "ytoeijldmebocmaa", sum := "0d6821222ae632a0ae7e2aed9c84c3564c1fa1c8595c7e93cc66928df88ff7da", func := "loop.example/stile/laws.FnWireJoin", spec := "fnWireJoin", unfollowed := true, recurses := true, apart := false }
def FnWireJoinSaid : Prop := fnWireJoinRow.holds Try.pinned (OpenSpec.ofChange fnWireJoinSpec)

/-- ITS FALSE NEIGHBOUR: 'it returns false'. Refute it at one input. -/
def fnWireJoinWrong : ChangeSpec := { name := "fnWireJoin", fn := fun _ => fun
  | [d] => { results := [.lit (.bool false)], args := [d] }
  | _ => none }
def FnWireJoinWrongFalsely : Prop := fnWireJoinRow.holds Try.pinned (OpenSpec.ofChange fnWireJoinWrong)

/-- 'laws.FnExactHoldPlan': WHATEVER THE INPUT: true; the input reads as it did. -/
def fnExactHoldPlanSpec : ChangeSpec := { name := "fnExactHoldPlan", fn := fun _ => fun
  | [d1, d2] => { results := [.lit (.bool true)], args := [d1, d2] }
  | _ => none }
def fnExactHoldPlanRow : OpenClaim := { program := "ytoeijldmebocmaa", sum := "0d6821222ae632a0ae7e2aed9c84c3564c1fa1c8595c7e93cc66928df88ff7da", func := "loop.example/stile/laws.FnExactHoldPlan", spec := "fnExactHoldPlan", apart := false }
def FnExactHoldPlanSaid : Prop := fnExactHoldPlanRow.holds Try.pinned (OpenSpec.ofChange fnExactHoldPlanSpec)

/-- ITS FALSE NEIGHBOUR: 'it returns false'. Refute it at one input. -/
def fnExactHoldPlanWrong : ChangeSpec := { name := "fnExactHoldPlan", fn := fun _ => fun
  | [d1, d2] => { results := [.lit (.bool false)], args := [d1, d2] }
  | _ => none }
def FnExactHoldPlanWrongFalsely : Prop := fnExactHoldPlanRow.holds Try.pinned (OpenSpec.ofChange fnExactHoldPlanWrong)

/- THE SECOND FORM. 'bulk': how many values and letters a reading holds, each counted each time it is reached (what is shared counts as often as it is met; a slice's spare places count too). A statement '..UptoSaid' is the law's where the arguments, and the package variables that the reading takes, are together of bulk at most 1048576: NARROWER than '..Said'. Prove '..Said' where nothing that the law and all that it calls make is longer than what came in: it says more and counts as full. Else prove '..UptoSaid'. A law counts once. -/
mutual
def uptoBulk {H : Type} : DataW H → Nat
  | .lit (.string bytes) => bytes.length + 1
  | .lit _ => 1
  | .nil => 1
  | .ptr d => uptoBulk d + 1
  | .slice elems spare => uptoBulkAll elems + uptoBulkAll spare + 1
  | .agg parts => uptoBulkAll parts + 1
  | .iface _ d => uptoBulk d + 1
  | .map entries => uptoBulkEntries entries + 1
  | .held _ => 1
def uptoBulkAll {H : Type} : List (DataW H) → Nat
  | [] => 0
  | d :: r => uptoBulk d + uptoBulkAll r
def uptoBulkEntries {H : Type} : List (Lit × DataW H) → Nat
  | [] => 0
  | x :: r => uptoBulkEntry x + uptoBulkEntries r
def uptoBulkEntry {H : Type} : Lit × DataW H → Nat
  | (.string bytes, d) => bytes.length + uptoBulk d + 1
  | (_, d) => uptoBulk d + 1
 end
def uptoSmall : (H : Type) → List (DataW H) → Bool := fun _ ds => decide (uptoBulkAll ds ≤ 1048576)
def OpenSpec.upto (s : _root_.Go.ChangeSpec) : _root_.Go.OpenSpec := { _root_.Go.OpenSpec.ofChange s with cond := some uptoSmall }

/-- 'laws.FnExactWireOf', WHERE WHAT IT READS IS OF BULK AT MOST 1048576: true; the input reads as it did. -/
def fnExactWireOfUptoRow : OpenClaim := { program := "ytoeijldmebocmaa", sum := "0d6821222ae632a0ae7e2aed9c84c3564c1fa1c8595c7e93cc66928df88ff7da", func := "loop.example/stile/laws.FnExactWireOf", spec := "fnExactWireOf", apart := false, narrowed := true }
def FnExactWireOfUptoSaid : Prop := fnExactWireOfUptoRow.holds Try.pinned (OpenSpec.upto fnExactWireOfSpec)

/-- 'laws.FnExactPicHex', WHERE WHAT IT READS IS OF BULK AT MOST 1048576: true; the input reads as it did. -/
def fnExactPicHexUptoRow : OpenClaim := { program := "ytoeijldmebocmaa", sum := "0d6821222ae632a0ae7e2aed9c84c3564c1fa1c8595c7e93cc66928df88ff7da", func := "loop.example/stile/laws.FnExactPicHex", spec := "fnExactPicHex", apart := false, narrowed := true }
def FnExactPicHexUptoSaid : Prop := fnExactPicHexUptoRow.holds Try.pinned (OpenSpec.upto fnExactPicHexSpec)

/-- 'laws.FnExactPicSum', WHERE WHAT IT READS IS OF BULK AT MOST 1048576: true; the input reads as it did. -/
def fnExactPicSumUptoRow : OpenClaim := { program := "ytoeijldmebocmaa", sum := "0d6821222ae632a0ae7e2aed9c84c3564c1fa1c8595c7e93cc66928df88ff7da", func := "loop.example/stile/laws.FnExactPicSum", spec := "fnExactPicSum", apart := false, narrowed := true }
def FnExactPicSumUptoSaid : Prop := fnExactPicSumUptoRow.holds Try.pinned (OpenSpec.upto fnExactPicSumSpec)

/-- 'laws.FnExactBoxPack', WHERE WHAT IT READS IS OF BULK AT MOST 1048576: true; the input reads as it did. -/
def fnExactBoxPackUptoRow : OpenClaim := { program := "ytoeijldmebocmaa", sum := "0d6821222ae632a0ae7e2aed9c84c3564c1fa1c8595c7e93cc66928df88ff7da", func := "loop.example/stile/laws.FnExactBoxPack", spec := "fnExactBoxPack", apart := false, narrowed := true }
def FnExactBoxPackUptoSaid : Prop := fnExactBoxPackUptoRow.holds Try.pinned (OpenSpec.upto fnExactBoxPackSpec)

/-- 'laws.FnExactPicBytes', WHERE WHAT IT READS IS OF BULK AT MOST 1048576: true; the input reads as it did. -/
def fnExactPicBytesUptoRow : OpenClaim := { program := "ytoeijldmebocmaa", sum := "0d6821222ae632a0ae7e2aed9c84c3564c1fa1c8595c7e93cc66928df88ff7da", func := "loop.example/stile/laws.FnExactPicBytes", spec := "fnExactPicBytes", inPlace := ["internal/bytealg.IndexByteString"], apart := false, narrowed := true }
def FnExactPicBytesUptoSaid : Prop := fnExactPicBytesUptoRow.holds Try.pinned (OpenSpec.upto fnExactPicBytesSpec)

/-- 'laws.FnExactWireOk', WHERE WHAT IT READS IS OF BULK AT MOST 1048576: true; the input reads as it did. -/
def fnExactWireOkUptoRow : OpenClaim := { program := "ytoeijldmebocmaa", sum := "0d6821222ae632a0ae7e2aed9c84c3564c1fa1c8595c7e93cc66928df88ff7da", func := "loop.example/stile/laws.FnExactWireOk", spec := "fnExactWireOk", apart := false, narrowed := true }
def FnExactWireOkUptoSaid : Prop := fnExactWireOkUptoRow.holds Try.pinned (OpenSpec.upto fnExactWireOkSpec)

/-- 'laws.FnExactWireToBox', WHERE WHAT IT READS IS OF BULK AT MOST 1048576: true; the input reads as it did. -/
def fnExactWireToBoxUptoRow : OpenClaim := { program := "ytoeijldmebocmaa", sum := "0d6821222ae632a0ae7e2aed9c84c3564c1fa1c8595c7e93cc66928df88ff7da", func := "loop.example/stile/laws.FnExactWireToBox", spec := "fnExactWireToBox", apart := false, narrowed := true }
def FnExactWireToBoxUptoSaid : Prop := fnExactWireToBoxUptoRow.holds Try.pinned (OpenSpec.upto fnExactWireToBoxSpec)

/-- 'laws.FnExactHoldSlotNow', WHERE WHAT IT READS IS OF BULK AT MOST 1048576: true; the input reads as it did. -/
def fnExactHoldSlotNowUptoRow : OpenClaim := { program := "ytoeijldmebocmaa", sum := "0d6821222ae632a0ae7e2aed9c84c3564c1fa1c8595c7e93cc66928df88ff7da", func := "loop.example/stile/laws.FnExactHoldSlotNow", spec := "fnExactHoldSlotNow", apart := false, narrowed := true }
def FnExactHoldSlotNowUptoSaid : Prop := fnExactHoldSlotNowUptoRow.holds Try.pinned (OpenSpec.upto fnExactHoldSlotNowSpec)

/-- 'laws.FnWireBack', WHERE WHAT IT READS IS OF BULK AT MOST 1048576: true; the input reads as it did. -/
def fnWireBackUptoRow : OpenClaim := { program := "ytoeijldmebocmaa", sum := "0d6821222ae632a0ae7e2aed9c84c3564c1fa1c8595c7e93cc66928df88ff7da", func := "loop.example/stile/laws.FnWireBack", spec := "fnWireBack", unfollowed := true, recurses := true, apart := false, narrowed := true }
def FnWireBackUptoSaid : Prop := fnWireBackUptoRow.holds Try.pinned (OpenSpec.upto fnWireBackSpec)

/-- 'laws.FnExactHoldNow', WHERE WHAT IT READS IS OF BULK AT MOST 1048576: true; the input reads as it did. -/
def fnExactHoldNowUptoRow : OpenClaim := { program := "ytoeijldmebocmaa", sum := "0d6821222ae632a0ae7e2aed9c84c3564c1fa1c8595c7e93cc66928df88ff7da", func := "loop.example/stile/laws.FnExactHoldNow", spec := "fnExactHoldNow", apart := false, narrowed := true }
def FnExactHoldNowUptoSaid : Prop := fnExactHoldNowUptoRow.holds Try.pinned (OpenSpec.upto fnExactHoldNowSpec)

/-- 'laws.FnExactWireCut', WHERE WHAT IT READS IS OF BULK AT MOST 1048576: true; the input reads as it did. -/
def fnExactWireCutUptoRow : OpenClaim := { program := "ytoeijldmebocmaa", sum := "0d6821222ae632a0ae7e2aed9c84c3564c1fa1c8595c7e93cc66928df88ff7da", func := "loop.example/stile/laws.FnExactWireCut", spec := "fnExactWireCut", unfollowed := true, recurses := true, apart := false, narrowed := true }
def FnExactWireCutUptoSaid : Prop := fnExactWireCutUptoRow.holds Try.pinned (OpenSpec.upto fnExactWireCutSpec)

/-- 'laws.FnExactWireJoin', WHERE WHAT IT READS IS OF BULK AT MOST 1048576: true; the input reads as it did. -/
def fnExactWireJoinUptoRow : OpenClaim := { program := "ytoeijldmebocmaa", sum := "0d6821222ae632a0ae7e2aed9c84c3564c1fa1c8595c7e93cc66928df88ff7da", func := "loop.example/stile/laws.FnExactWireJoin", spec := "fnExactWireJoin", apart := false, narrowed := true }
def FnExactWireJoinUptoSaid : Prop := fnExactWireJoinUptoRow.holds Try.pinned (OpenSpec.upto fnExactWireJoinSpec)

/-- 'laws.FnWireJoin', WHERE WHAT IT READS IS OF BULK AT MOST 1048576: true; the input reads as it did. -/
def fnWireJoinUptoRow : OpenClaim := { program := "ytoeijldmebocmaa", sum := "0d6821222ae632a0ae7e2aed9c84c3564c1fa1c8595c7e93cc66928df88ff7da", func := "loop.example/stile/laws.FnWireJoin", spec := "fnWireJoin", unfollowed := true, recurses := true, apart := false, narrowed := true }
def FnWireJoinUptoSaid : Prop := fnWireJoinUptoRow.holds Try.pinned (OpenSpec.upto fnWireJoinSpec)

/-- 'laws.FnExactHoldPlan', WHERE WHAT IT READS IS OF BULK AT MOST 1048576: true; the input reads as it did. -/
def fnExactHoldPlanUptoRow : OpenClaim := { program := "ytoeijldmebocmaa", sum := "0d6821222ae632a0ae7e2aed9c84c3564c1fa1c8595c7e93cc66928df88ff7da", func := "loop.example/stile/laws.FnExactHoldPlan", spec := "fnExactHoldPlan", apart := false, narrowed := true }
def FnExactHoldPlanUptoSaid : Prop := fnExactHoldPlanUptoRow.holds Try.pinned (OpenSpec.upto fnExactHoldPlanSpec)

end Rows
end Go.Proofs.Ytoeijldmebocmaa
