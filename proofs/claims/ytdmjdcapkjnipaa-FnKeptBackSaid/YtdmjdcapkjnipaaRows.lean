/-
  No cell of these rows narrows 'for every input' (looked for: loops, veiled, ifaces, maps, wideKeys, modest, calm, conditions, laid).
  DERIVED. THE GIVEN ROWS OF THIS SEAT. 4 by the template 'for every input the law returns true; each argument reads behind the call as it read before'; 0 by the template 'total and deterministic' (their statements: YtdmjdcapkjnipaaTotals.lean).
  GIVEN WITH THE SEED: the statements are not yours to turn. If you find one false, say at which input.
  Laid BY PROGRAM, IN A SANDBOX (cutbox-rows.mjs): the forced cells as the released guide's own fill.sh prints them over the translation 9b57c1e3f6e01a0f… (all of the seat's roots in one cut). By AI agents, Wed Nov 11 2026. No macro, syntax, notation, axiom, sorry.
-/
import Derived.Test.YtdmjdcapkjnipaaChecked
import GoSem.Claim
import GoSem.ClaimJoined
import GoSem.ClaimMapViews
import Derived.JoinedTies
import Derived.KernelRfl
namespace Go.Proofs.Ytdmjdcapkjnipaa
/- THE CELL 'sum', in the pinned program and in every row, IS THE sha256 OF THE DUMP (.gsa) THAT YtdmjdcapkjnipaaProg.lean LOADS. Nothing in Lean hashes anything: it is a label: what it is worth is what the hold of that sum in a sandbox is worth. -/
noncomputable def Try.pinned : Pinned := { name := "ytdmjdcapkjnipaa", sum := "9b57c1e3f6e01a0f0cf3759f5dba58c2ec562d4c9fefedb50d95945fcef23bf7", checked := Try.checked }
namespace Rows
def none {H : Type} : Left H := { results := [], args := [] }

/-- 'laws.FnExactKeptMake': WHATEVER THE INPUT: true; the input reads as it did. -/
def fnExactKeptMakeSpec : ChangeSpec := { name := "fnExactKeptMake", fn := fun _ => fun
  | [d] => { results := [.lit (.bool true)], args := [d] }
  | _ => none }
def fnExactKeptMakeRow : OpenClaim := { program := "ytdmjdcapkjnipaa", sum := "9b57c1e3f6e01a0f0cf3759f5dba58c2ec562d4c9fefedb50d95945fcef23bf7", func := "loop.example/stile/laws.FnExactKeptMake", spec := "fnExactKeptMake", apart := false }
def FnExactKeptMakeSaid : Prop := fnExactKeptMakeRow.holds Try.pinned (OpenSpec.ofChange fnExactKeptMakeSpec)

/-- ITS FALSE NEIGHBOUR: 'it returns false'. Refute it at one input. -/
def fnExactKeptMakeWrong : ChangeSpec := { name := "fnExactKeptMake", fn := fun _ => fun
  | [d] => { results := [.lit (.bool false)], args := [d] }
  | _ => none }
def FnExactKeptMakeWrongFalsely : Prop := fnExactKeptMakeRow.holds Try.pinned (OpenSpec.ofChange fnExactKeptMakeWrong)

/-- 'laws.FnExactKeptOf': WHATEVER THE INPUT: true; the input reads as it did. -/
def fnExactKeptOfSpec : ChangeSpec := { name := "fnExactKeptOf", fn := fun _ => fun
  | [d] => { results := [.lit (.bool true)], args := [d] }
  | _ => none }
def fnExactKeptOfRow : OpenClaim := { program := "ytdmjdcapkjnipaa", sum := "9b57c1e3f6e01a0f0cf3759f5dba58c2ec562d4c9fefedb50d95945fcef23bf7", func := "loop.example/stile/laws.FnExactKeptOf", spec := "fnExactKeptOf", apart := false }
def FnExactKeptOfSaid : Prop := fnExactKeptOfRow.holds Try.pinned (OpenSpec.ofChange fnExactKeptOfSpec)

/-- ITS FALSE NEIGHBOUR: 'it returns false'. Refute it at one input. -/
def fnExactKeptOfWrong : ChangeSpec := { name := "fnExactKeptOf", fn := fun _ => fun
  | [d] => { results := [.lit (.bool false)], args := [d] }
  | _ => none }
def FnExactKeptOfWrongFalsely : Prop := fnExactKeptOfRow.holds Try.pinned (OpenSpec.ofChange fnExactKeptOfWrong)

/-- 'laws.FnExactKeptBack': WHATEVER THE INPUT: true; the input reads as it did. -/
def fnExactKeptBackSpec : ChangeSpec := { name := "fnExactKeptBack", fn := fun _ => fun
  | [d] => { results := [.lit (.bool true)], args := [d] }
  | _ => none }
def fnExactKeptBackRow : OpenClaim := { program := "ytdmjdcapkjnipaa", sum := "9b57c1e3f6e01a0f0cf3759f5dba58c2ec562d4c9fefedb50d95945fcef23bf7", func := "loop.example/stile/laws.FnExactKeptBack", spec := "fnExactKeptBack", unfollowed := true, recurses := true, apart := false }
def FnExactKeptBackSaid : Prop := fnExactKeptBackRow.holds Try.pinned (OpenSpec.ofChange fnExactKeptBackSpec)

/-- ITS FALSE NEIGHBOUR: 'it returns false'. Refute it at one input. -/
def fnExactKeptBackWrong : ChangeSpec := { name := "fnExactKeptBack", fn := fun _ => fun
  | [d] => { results := [.lit (.bool false)], args := [d] }
  | _ => none }
def FnExactKeptBackWrongFalsely : Prop := fnExactKeptBackRow.holds Try.pinned (OpenSpec.ofChange fnExactKeptBackWrong)

/-- 'laws.FnKeptBack': WHATEVER THE INPUT: true; the input reads as it did. -/
def fnKeptBackSpec : ChangeSpec := { name := "fnKeptBack", fn := fun _ => fun
  | [d1, d2] => { results := [.lit (.bool true)], args := [d1, d2] }
  | _ => none }
def fnKeptBackRow : OpenClaim := { program := "ytdmjdcapkjnipaa", sum := "9b57c1e3f6e01a0f0cf3759f5dba58c2ec562d4c9fefedb50d95945fcef23bf7", func := "loop.example/stile/laws.FnKeptBack", spec := "fnKeptBack", inPlace := ["math.Float64bits"], unfollowed := true, recurses := true, apart := false }
def FnKeptBackSaid : Prop := fnKeptBackRow.holds Try.pinned (OpenSpec.ofChange fnKeptBackSpec)

/-- ITS FALSE NEIGHBOUR: 'it returns false'. Refute it at one input. -/
def fnKeptBackWrong : ChangeSpec := { name := "fnKeptBack", fn := fun _ => fun
  | [d1, d2] => { results := [.lit (.bool false)], args := [d1, d2] }
  | _ => none }
def FnKeptBackWrongFalsely : Prop := fnKeptBackRow.holds Try.pinned (OpenSpec.ofChange fnKeptBackWrong)

/- THE SECOND FORM. 'bulk': how many values and letters a reading holds, each counted each time it is reached (what is shared counts as often as it is met; a slice's spare places count too). A statement '..UptoSaid' is the law's where the arguments, and the package variables that the reading takes, are together of bulk at most 1048576: NARROWER than '..Said'. Prove '..Said' where nothing that the law and all that it calls make is longer than what came in: it says more and counts as full. Else prove '..UptoSaid'. A law counts once. -/
mutual
def uptoBulk {H : Type} : DataW H → Nat
  | .lit (.string bytes) => bytes.length + 1
  | .lit _ => 1
  | .nil => 1
  | .ptr d => uptoBulk d + 1
  | .slice elems spare => uptoBulkAll elems + uptoBulkAll spare + 1
  | .agg parts => uptoBulkAll parts + 1
  | .iface _ d => uptoBulk d + 1
  | .map entries => uptoBulkEntries entries + 1
  | .held _ => 1
def uptoBulkAll {H : Type} : List (DataW H) → Nat
  | [] => 0
  | d :: r => uptoBulk d + uptoBulkAll r
def uptoBulkEntries {H : Type} : List (Lit × DataW H) → Nat
  | [] => 0
  | x :: r => uptoBulkEntry x + uptoBulkEntries r
def uptoBulkEntry {H : Type} : Lit × DataW H → Nat
  | (.string bytes, d) => bytes.length + uptoBulk d + 1
  | (_, d) => uptoBulk d + 1
 end
def uptoSmall : (H : Type) → List (DataW H) → Bool := fun _ ds => decide (uptoBulkAll ds ≤ 1048576)
def OpenSpec.upto (s : _root_.Go.ChangeSpec) : _root_.Go.OpenSpec := { _root_.Go.OpenSpec.ofChange s with cond := some uptoSmall }

/-- 'laws.FnExactKeptMake', WHERE WHAT IT READS IS OF BULK AT MOST 1048576: true; the input reads as it did. -/
def fnExactKeptMakeUptoRow : OpenClaim := { program := "ytdmjdcapkjnipaa", sum := "9b57c1e3f6e01a0f0cf3759f5dba58c2ec562d4c9fefedb50d95945fcef23bf7", func := "loop.example/stile/laws.FnExactKeptMake", spec := "fnExactKeptMake", apart := false, narrowed := true }
def FnExactKeptMakeUptoSaid : Prop := fnExactKeptMakeUptoRow.holds Try.pinned (OpenSpec.upto fnExactKeptMakeSpec)

/-- 'laws.FnExactKeptOf', WHERE WHAT IT READS IS OF BULK AT MOST 1048576: true; the input reads as it did. -/
def fnExactKeptOfUptoRow : OpenClaim := { program := "ytdmjdcapkjnipaa", sum := "9b57c1e3f6e01a0f0cf3759f5dba58c2ec562d4c9fefedb50d95945fcef23bf7", func := "loop.example/stile/laws.FnExactKeptOf", spec := "fnExactKeptOf", apart := false, narrowed := true }
def FnExactKeptOfUptoSaid : Prop := fnExactKeptOfUptoRow.holds Try.pinned (OpenSpec.upto fnExactKeptOfSpec)

/-- 'laws.FnExactKeptBack', WHERE WHAT IT READS IS OF BULK AT MOST 1048576: true; the input reads as it did. -/
def fnExactKeptBackUptoRow : OpenClaim := { program := "ytdmjdcapkjnipaa", sum := "9b57c1e3f6e01a0f0cf3759f5dba58c2ec562d4c9fefedb50d95945fcef23bf7", func := "loop.example/stile/laws.FnExactKeptBack", spec := "fnExactKeptBack", unfollowed := true, recurses := true, apart := false, narrowed := true }
def FnExactKeptBackUptoSaid : Prop := fnExactKeptBackUptoRow.holds Try.pinned (OpenSpec.upto fnExactKeptBackSpec)

/-- 'laws.FnKeptBack', WHERE WHAT IT READS IS OF BULK AT MOST 1048576: true; the input reads as it did. -/
def fnKeptBackUptoRow : OpenClaim := { program := "ytdmjdcapkjnipaa", sum := "9b57c1e3f6e01a0f0cf3759f5dba58c2ec562d4c9fefedb50d95945fcef23bf7", func := "loop.example/stile/laws.FnKeptBack", spec := "fnKeptBack", inPlace := ["math.Float64bits"], unfollowed := true, recurses := true, apart := false, narrowed := true }
def FnKeptBackUptoSaid : Prop := fnKeptBackUptoRow.holds Try.pinned (OpenSpec.upto fnKeptBackSpec)

end Rows
end Go.Proofs.Ytdmjdcapkjnipaa
