/-
  No cell of these rows narrows 'for every input' (looked for: loops, veiled, ifaces, maps, wideKeys, modest, calm, conditions, laid).
  DERIVED. THE GIVEN ROWS OF THIS SEAT. 3 by the template 'for every input the law returns true; each argument reads behind the call as it read before'; 0 by the template 'total and deterministic' (their statements: YtongoeifppllnaaTotals.lean).
  GIVEN WITH THE SEED: the statements are not yours to turn. If you find one false, say at which input.
  Laid BY PROGRAM, IN A SANDBOX (cutbox-rows.mjs): the forced cells as the released guide's own fill.sh prints them over the translation 2caa3edcfc31d6a1… (all of the seat's roots in one cut). By AI agents, Wed Nov 11 2026. No macro, syntax, notation, axiom, sorry.
-/
import Derived.Test.YtongoeifppllnaaChecked
import GoSem.Claim
import GoSem.ClaimJoined
import GoSem.ClaimMapViews
import Derived.JoinedTies
import Derived.KernelRfl
namespace Go.Proofs.Ytongoeifppllnaa
/- THE CELL 'sum', in the pinned program and in every row, IS THE sha256 OF THE DUMP (.gsa) THAT YtongoeifppllnaaProg.lean LOADS. Nothing in Lean hashes anything: it is a label: what it is worth is what the hold of that sum in a sandbox is worth. -/
noncomputable def Try.pinned : Pinned := { name := "ytongoeifppllnaa", sum := "2caa3edcfc31d6a1ee6c5b4bf3539cd908867d0ba792306eef0d9b2910bf64ab", checked := Try.checked }
namespace Rows
def none {H : Type} : Left H := { results := [], args := [] }

/-- 'laws.FnExactWireCut': WHATEVER THE INPUT: true; the input reads as it did. -/
def fnExactWireCutSpec : ChangeSpec := { name := "fnExactWireCut", fn := fun _ => fun
  | [d1, d2] => { results := [.lit (.bool true)], args := [d1, d2] }
  | _ => none }
def fnExactWireCutRow : OpenClaim := { program := "ytongoeifppllnaa", sum := "2caa3edcfc31d6a1ee6c5b4bf3539cd908867d0ba792306eef0d9b2910bf64ab", func := "loop.example/stile/laws.FnExactWireCut", spec := "fnExactWireCut", unfollowed := true, recurses := true, apart := false }
def FnExactWireCutSaid : Prop := fnExactWireCutRow.holds Try.pinned (OpenSpec.ofChange fnExactWireCutSpec)

/-- ITS FALSE NEIGHBOUR: 'it returns false'. Refute it at one input. -/
def fnExactWireCutWrong : ChangeSpec := { name := "fnExactWireCut", fn := fun _ => fun
  | [d1, d2] => { results := [.lit (.bool false)], args := [d1, d2] }
  | _ => none }
def FnExactWireCutWrongFalsely : Prop := fnExactWireCutRow.holds Try.pinned (OpenSpec.ofChange fnExactWireCutWrong)

/-- 'laws.FnWireBack': WHATEVER THE INPUT: true; the input reads as it did. -/
def fnWireBackSpec : ChangeSpec := { name := "fnWireBack", fn := fun _ => fun
  | [d] => { results := [.lit (.bool true)], args := [d] }
  | _ => none }
def fnWireBackRow : OpenClaim := { program := "ytongoeifppllnaa", sum := "2caa3edcfc31d6a1ee6c5b4bf3539cd908867d0ba792306eef0d9b2910bf64ab", func := "loop.example/stile/laws.FnWireBack", spec := "fnWireBack", unfollowed := true, recurses := true, apart := false }
def FnWireBackSaid : Prop := fnWireBackRow.holds Try.pinned (OpenSpec.ofChange fnWireBackSpec)

/-- ITS FALSE NEIGHBOUR: 'it returns false'. Refute it at one input. -/
def fnWireBackWrong : ChangeSpec := { name := "fnWireBack", fn := fun _ => fun
  | [d] => { results := [.lit (.bool false)], args := [d] }
  | _ => none }
def FnWireBackWrongFalsely : Prop := fnWireBackRow.holds Try.pinned (OpenSpec.ofChange fnWireBackWrong)

/-- 'laws.FnWireJoin': WHATEVER THE INPUT: true; the input reads as it did. -/
def fnWireJoinSpec : ChangeSpec := { name := "fnWireJoin", fn := fun _ => fun
  | [d] => { results := [.lit (.bool true)], args := [d] }
  | _ => none }
def fnWireJoinRow : OpenClaim := { program := "ytongoeifppllnaa", sum := "2caa3edcfc31d6a1ee6c5b4bf3539cd908867d0ba792306eef0d9b2910bf64ab", func := "loop.example/stile/laws.FnWireJoin", spec := "fnWireJoin", unfollowed := true, recurses := true, apart := false }
def FnWireJoinSaid : Prop := fnWireJoinRow.holds Try.pinned (OpenSpec.ofChange fnWireJoinSpec)

/-- ITS FALSE NEIGHBOUR: 'it returns false'. Refute it at one input. -/
def fnWireJoinWrong : ChangeSpec := { name := "fnWireJoin", fn := fun _ => fun
  | [d] => { results := [.lit (.bool false)], args := [d] }
  | _ => none }
def FnWireJoinWrongFalsely : Prop := fnWireJoinRow.holds Try.pinned (OpenSpec.ofChange fnWireJoinWrong)

/- THE SECOND FORM. 'bulk': how many values and letters a reading holds, each counted each time it is reached (what is shared counts as often as it is met; a slice's spare places count too). A statement '..UptoSaid' is the law's where the arguments, and the package variables that the reading takes, are together of bulk at most 1048576: NARROWER than '..Said'. Prove '..Said' where nothing that the law and all that it calls make is longer than what came in: it says more and counts as full. Else prove '..UptoSaid'. A law counts once. -/
mutual
def uptoBulk {H : Type} : DataW H → Nat
  | .lit (.string bytes) => bytes.length + 1
  | .lit _ => 1
  | .nil => 1
  | .ptr d => uptoBulk d + 1
  | .slice elems spare => uptoBulkAll elems + uptoBulkAll spare + 1
  | .agg parts => uptoBulkAll parts + 1
  | .iface _ d => uptoBulk d + 1
  | .map entries => uptoBulkEntries entries + 1
  | .held _ => 1
def uptoBulkAll {H : Type} : List (DataW H) → Nat
  | [] => 0
  | d :: r => uptoBulk d + uptoBulkAll r
def uptoBulkEntries {H : Type} : List (Lit × DataW H) → Nat
  | [] => 0
  | x :: r => uptoBulkEntry x + uptoBulkEntries r
def uptoBulkEntry {H : Type} : Lit × DataW H → Nat
  | (.string bytes, d) => bytes.length + uptoBulk d + 1
  | (_, d) => uptoBulk d + 1
 end
def uptoSmall : (H : Type) → List (DataW H) → Bool := fun _ ds => decide (uptoBulkAll ds ≤ 1048576)
def OpenSpec.upto (s : _root_.Go.ChangeSpec) : _root_.Go.OpenSpec := { _root_.Go.OpenSpec.ofChange s with cond := some uptoSmall }

/-- 'laws.FnExactWireCut', WHERE WHAT IT READS IS OF BULK AT MOST 1048576: true; the input reads as it did. -/
def fnExactWireCutUptoRow : OpenClaim := { program := "ytongoeifppllnaa", sum := "2caa3edcfc31d6a1ee6c5b4bf3539cd908867d0ba792306eef0d9b2910bf64ab", func := "loop.example/stile/laws.FnExactWireCut", spec := "fnExactWireCut", unfollowed := true, recurses := true, apart := false, narrowed := true }
def FnExactWireCutUptoSaid : Prop := fnExactWireCutUptoRow.holds Try.pinned (OpenSpec.upto fnExactWireCutSpec)

/-- 'laws.FnWireBack', WHERE WHAT IT READS IS OF BULK AT MOST 1048576: true; the input reads as it did. -/
def fnWireBackUptoRow : OpenClaim := { program := "ytongoeifppllnaa", sum := "2caa3edcfc31d6a1ee6c5b4bf3539cd908867d0ba792306eef0d9b2910bf64ab", func := "loop.example/stile/laws.FnWireBack", spec := "fnWireBack", unfollowed := true, recurses := true, apart := false, narrowed := true }
def FnWireBackUptoSaid : Prop := fnWireBackUptoRow.holds Try.pinned (OpenSpec.upto fnWireBackSpec)

/-- 'laws.FnWireJoin', WHERE WHAT IT READS IS OF BULK AT MOST 1048576: true; the input reads as it did. -/
def fnWireJoinUptoRow : OpenClaim := { program := "ytongoeifppllnaa", sum := "2caa3edcfc31d6a1ee6c5b4bf3539cd908867d0ba792306eef0d9b2910bf64ab", func := "loop.example/stile/laws.FnWireJoin", spec := "fnWireJoin", unfollowed := true, recurses := true, apart := false, narrowed := true }
def FnWireJoinUptoSaid : Prop := fnWireJoinUptoRow.holds Try.pinned (OpenSpec.upto fnWireJoinSpec)

end Rows
end Go.Proofs.Ytongoeifppllnaa
