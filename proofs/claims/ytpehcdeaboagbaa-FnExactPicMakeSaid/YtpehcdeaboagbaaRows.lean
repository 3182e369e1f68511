/-
  No cell of these rows narrows 'for every input' (looked for: loops, veiled, ifaces, maps, wideKeys, modest, calm, conditions, laid).
  DERIVED. THE GIVEN ROWS OF THIS SEAT. 3 by the template 'for every input the law returns true; each argument reads behind the call as it read before'; 0 by the template 'total and deterministic' (their statements: YtpehcdeaboagbaaTotals.lean).
  GIVEN WITH THE SEED: the statements are not yours to turn. If you find one false, say at which input.
  Laid BY PROGRAM, IN A SANDBOX (cutbox-rows.mjs): the forced cells as the released guide's own fill.sh prints them over the translation ee07bd42ba6a516b… (all of the seat's roots in one cut). By AI agents, Wed Nov 11 2026. No macro, syntax, notation, axiom, sorry.
-/
import Derived.Test.YtpehcdeaboagbaaChecked
import GoSem.Claim
import GoSem.ClaimJoined
import GoSem.ClaimMapViews
import Derived.JoinedTies
import Derived.KernelRfl
namespace Go.Proofs.Ytpehcdeaboagbaa
/- THE CELL 'sum', in the pinned program and in every row, IS THE sha256 OF THE DUMP (.gsa) THAT YtpehcdeaboagbaaProg.lean LOADS. Nothing in Lean hashes anything: it is a label: what it is worth is what the hold of that sum in a sandbox is worth. -/
noncomputable def Try.pinned : Pinned := { name := "ytpehcdeaboagbaa", sum := "ee07bd42ba6a516b166564dfe4f5d7400a34fe6349d67d138eb8b7b2db1eea38", checked := Try.checked }
namespace Rows
def none {H : Type} : Left H := { results := [], args := [] }

/-- 'laws.FnExactListSame': WHATEVER THE INPUT: true; the input reads as it did. -/
def fnExactListSameSpec : ChangeSpec := { name := "fnExactListSame", fn := fun _ => fun
  | [d1, d2] => { results := [.lit (.bool true)], args := [d1, d2] }
  | _ => none }
def fnExactListSameRow : OpenClaim := { program := "ytpehcdeaboagbaa", sum := "ee07bd42ba6a516b166564dfe4f5d7400a34fe6349d67d138eb8b7b2db1eea38", func := "loop.example/stile/laws.FnExactListSame", spec := "fnExactListSame", unfollowed := true, recurses := true, apart := false }
def FnExactListSameSaid : Prop := fnExactListSameRow.holds Try.pinned (OpenSpec.ofChange fnExactListSameSpec)

/-- ITS FALSE NEIGHBOUR: 'it returns false'. Refute it at one input. -/
def fnExactListSameWrong : ChangeSpec := { name := "fnExactListSame", fn := fun _ => fun
  | [d1, d2] => { results := [.lit (.bool false)], args := [d1, d2] }
  | _ => none }
def FnExactListSameWrongFalsely : Prop := fnExactListSameRow.holds Try.pinned (OpenSpec.ofChange fnExactListSameWrong)

/-- 'laws.FnExactSureTrace': WHATEVER THE INPUT: true; the input reads as it did. -/
def fnExactSureTraceSpec : ChangeSpec := { name := "fnExactSureTrace", fn := fun _ => fun
  | [d] => { results := [.lit (.bool true)], args := [d] }
  | _ => none }
def fnExactSureTraceRow : OpenClaim := { program := "ytpehcdeaboagbaa", sum := "ee07bd42ba6a516b166564dfe4f5d7400a34fe6349d67d138eb8b7b2db1eea38", func := "loop.example/stile/laws.FnExactSureTrace", spec := "fnExactSureTrace", apart := false }
def FnExactSureTraceSaid : Prop := fnExactSureTraceRow.holds Try.pinned (OpenSpec.ofChange fnExactSureTraceSpec)

/-- ITS FALSE NEIGHBOUR: 'it returns false'. Refute it at one input. -/
def fnExactSureTraceWrong : ChangeSpec := { name := "fnExactSureTrace", fn := fun _ => fun
  | [d] => { results := [.lit (.bool false)], args := [d] }
  | _ => none }
def FnExactSureTraceWrongFalsely : Prop := fnExactSureTraceRow.holds Try.pinned (OpenSpec.ofChange fnExactSureTraceWrong)

/-- 'laws.FnExactPicMake': WHATEVER THE INPUT: true; the input reads as it did. -/
def fnExactPicMakeSpec : ChangeSpec := { name := "fnExactPicMake", fn := fun _ => fun
  | [d] => { results := [.lit (.bool true)], args := [d] }
  | _ => none }
def fnExactPicMakeRow : OpenClaim := { program := "ytpehcdeaboagbaa", sum := "ee07bd42ba6a516b166564dfe4f5d7400a34fe6349d67d138eb8b7b2db1eea38", func := "loop.example/stile/laws.FnExactPicMake", spec := "fnExactPicMake", apart := false }
def FnExactPicMakeSaid : Prop := fnExactPicMakeRow.holds Try.pinned (OpenSpec.ofChange fnExactPicMakeSpec)

/-- ITS FALSE NEIGHBOUR: 'it returns false'. Refute it at one input. -/
def fnExactPicMakeWrong : ChangeSpec := { name := "fnExactPicMake", fn := fun _ => fun
  | [d] => { results := [.lit (.bool false)], args := [d] }
  | _ => none }
def FnExactPicMakeWrongFalsely : Prop := fnExactPicMakeRow.holds Try.pinned (OpenSpec.ofChange fnExactPicMakeWrong)

/- THE SECOND FORM. 'bulk': how many values and letters a reading holds, each counted each time it is reached (what is shared counts as often as it is met; a slice's spare places count too). A statement '..UptoSaid' is the law's where the arguments, and the package variables that the reading takes, are together of bulk at most 1048576: NARROWER than '..Said'. Prove '..Said' where nothing that the law and all that it calls make is longer than what came in: it says more and counts as full. Else prove '..UptoSaid'. A law counts once. -/
mutual
def uptoBulk {H : Type} : DataW H → Nat
  | .lit (.string bytes) => bytes.length + 1
  | .lit _ => 1
  | .nil => 1
  | .ptr d => uptoBulk d + 1
  | .slice elems spare => uptoBulkAll elems + uptoBulkAll spare + 1
  | .agg parts => uptoBulkAll parts + 1
  | .iface _ d => uptoBulk d + 1
  | .map entries => uptoBulkEntries entries + 1
  | .held _ => 1
def uptoBulkAll {H : Type} : List (DataW H) → Nat
  | [] => 0
  | d :: r => uptoBulk d + uptoBulkAll r
def uptoBulkEntries {H : Type} : List (Lit × DataW H) → Nat
  | [] => 0
  | x :: r => uptoBulkEntry x + uptoBulkEntries r
def uptoBulkEntry {H : Type} : Lit × DataW H → Nat
  | (.string bytes, d) => bytes.length + uptoBulk d + 1
  | (_, d) => uptoBulk d + 1
 end
def uptoSmall : (H : Type) → List (DataW H) → Bool := fun _ ds => decide (uptoBulkAll ds ≤ 1048576)
def OpenSpec.upto (s : _root_.Go.ChangeSpec) : _root_.Go.OpenSpec := { _root_.Go.OpenSpec.ofChange s with cond := some uptoSmall }

/-- 'laws.FnExactListSame', WHERE WHAT IT READS IS OF BULK AT MOST 1048576: true; the input reads as it did. -/
def fnExactListSameUptoRow : OpenClaim := { program := "ytpehcdeaboagbaa", sum := "ee07bd42ba6a516b166564dfe4f5d7400a34fe6349d67d138eb8b7b2db1eea38", func := "loop.example/stile/laws.FnExactListSame", spec := "fnExactListSame", unfollowed := true, recurses := true, apart := false, narrowed := true }
def FnExactListSameUptoSaid : Prop := fnExactListSameUptoRow.holds Try.pinned (OpenSpec.upto fnExactListSameSpec)

/-- 'laws.FnExactSureTrace', WHERE WHAT IT READS IS OF BULK AT MOST 1048576: true; the input reads as it did. -/
def fnExactSureTraceUptoRow : OpenClaim := { program := "ytpehcdeaboagbaa", sum := "ee07bd42ba6a516b166564dfe4f5d7400a34fe6349d67d138eb8b7b2db1eea38", func := "loop.example/stile/laws.FnExactSureTrace", spec := "fnExactSureTrace", apart := false, narrowed := true }
def FnExactSureTraceUptoSaid : Prop := fnExactSureTraceUptoRow.holds Try.pinned (OpenSpec.upto fnExactSureTraceSpec)

/-- 'laws.FnExactPicMake', WHERE WHAT IT READS IS OF BULK AT MOST 1048576: true; the input reads as it did. -/
def fnExactPicMakeUptoRow : OpenClaim := { program := "ytpehcdeaboagbaa", sum := "ee07bd42ba6a516b166564dfe4f5d7400a34fe6349d67d138eb8b7b2db1eea38", func := "loop.example/stile/laws.FnExactPicMake", spec := "fnExactPicMake", apart := false, narrowed := true }
def FnExactPicMakeUptoSaid : Prop := fnExactPicMakeUptoRow.holds Try.pinned (OpenSpec.upto fnExactPicMakeSpec)

end Rows
end Go.Proofs.Ytpehcdeaboagbaa
