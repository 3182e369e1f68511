/-
  NARROWER THAN 'FOR EVERY INPUT', by the rows' own cells (each row's printed sentence says how): FnKeptOf: laid · FnActStep: laid · FnExactActTest: laid · FnActShut: laid · FnExactEvalNet: loops, laid · FnEvalAsked: laid · FnExactActDo: laid.
  DERIVED. THE GIVEN ROWS OF THIS SEAT. 7 by the template 'for every input the law returns true; each argument reads behind the call as it read before'; 0 by the template 'total and deterministic' (their statements: YtidficffkghlkaaDoorTotals.lean).
  GIVEN WITH THE SEED: the statements are not yours to turn. If you find one false, say at which input.
  Laid BY PROGRAM, IN A SANDBOX (cutbox-rows.mjs): the forced cells as the released guide's own fill.sh prints them over the translation 1dbd6c79058239aa… (all of the seat's roots in one cut). By AI agents, Wed Nov 11 2026. No macro, syntax, notation, axiom, sorry.
-/
import Derived.Test.YtidficffkghlkaaDoorChecked
import GoSem.Claim
import GoSem.ClaimJoined
import GoSem.ClaimMapViews
import Derived.JoinedTies
import Derived.KernelRfl
namespace Go.Proofs.YtidficffkghlkaaDoor
/- THE CELL 'sum', in the pinned program and in every row, IS THE sha256 OF THE DUMP (.gsa) THAT YtidficffkghlkaaDoorProg.lean LOADS. Nothing in Lean hashes anything: it is a label: what it is worth is what the hold of that sum in a sandbox is worth. -/
noncomputable def Tryd.pinned : Pinned := { name := "ytidficffkghlkaadoor", sum := "1dbd6c79058239aa83a11a259f0bb103033331484dd669757028e2e4bef435f9", checked := Tryd.checked }
namespace Rows
def none {H : Type} : Left H := { results := [], args := [] }

/- WHAT THE LISTED PACKAGE-LEVEL VARIABLES READ AS WHEN THE CALL BEGINS. Each datum BY PROGRAM (the guide's laid-datum.mjs) off the statement by which the dump's own 'gosem.cut.vars' lays the variable. In a bare row this is a premise. The card (YtidficffkghlkaaDoorCards.lean) ties it to the program's text. -/
def laid_loop_example_stile_impl_devSizes {H : Type} : DataW H := .slice [.lit (.int .i64 0), .lit (.int .i64 32), .lit (.int .i64 32), .lit (.int .i64 64), .lit (.int .i64 16), .lit (.int .i64 32), .lit (.int .i64 5), .lit (.int .i64 16), .lit (.int .i64 16), .lit (.int .i64 32), .lit (.int .i64 16)] []
def laid_loop_example_stile_impl_devWords {H : Type} : DataW H := .slice [.lit (.string [110, 97, 110]), .lit (.string [105, 110, 102]), .lit (.string [45, 105, 110, 102]), .lit (.string [45, 48, 46, 48])] []

/-- 'laws.FnKeptOf': WHATEVER THE INPUT: true; the input reads as it did. -/
def fnKeptOfSpec : ChangeSpec := { name := "fnKeptOf", vars := ["loop.example/stile/impl.devSizes"], fn := fun _ => fun
  | [d, g1] => { results := [.lit (.bool true)], args := [d], vars := [g1] }
  | _ => none }
def fnKeptOfRow : OpenClaim := { program := "ytidficffkghlkaadoor", sum := "1dbd6c79058239aa83a11a259f0bb103033331484dd669757028e2e4bef435f9", func := "loop.example/stile/laws.FnKeptOf", spec := "fnKeptOf", inPlace := ["math.Float64bits"], named := ["loop.example/stile/impl.devSizes"], apart := false, laid := [("loop.example/stile/impl.devSizes", laid_loop_example_stile_impl_devSizes)] }
def FnKeptOfSaid : Prop := fnKeptOfRow.holds Tryd.pinned (OpenSpec.ofChange fnKeptOfSpec)

/-- ITS FALSE NEIGHBOUR: 'it returns false'. Refute it at one input. -/
def fnKeptOfWrong : ChangeSpec := { name := "fnKeptOf", vars := ["loop.example/stile/impl.devSizes"], fn := fun _ => fun
  | [d, g1] => { results := [.lit (.bool false)], args := [d], vars := [g1] }
  | _ => none }
def FnKeptOfWrongFalsely : Prop := fnKeptOfRow.holds Tryd.pinned (OpenSpec.ofChange fnKeptOfWrong)

/-- 'laws.FnActStep': WHATEVER THE INPUT: true; the input reads as it did. -/
def fnActStepSpec : ChangeSpec := { name := "fnActStep", vars := ["loop.example/stile/impl.devSizes", "loop.example/stile/impl.devWords"], fn := fun _ => fun
  | [d, g1, g2] => { results := [.lit (.bool true)], args := [d], vars := [g1, g2] }
  | _ => none }
def fnActStepRow : OpenClaim := { program := "ytidficffkghlkaadoor", sum := "1dbd6c79058239aa83a11a259f0bb103033331484dd669757028e2e4bef435f9", func := "loop.example/stile/laws.FnActStep", spec := "fnActStep", inPlace := ["math.Float64frombits", "math.Float64bits", "math.archTrunc"], named := ["loop.example/stile/impl.devSizes", "loop.example/stile/impl.devWords"], apart := false, laid := [("loop.example/stile/impl.devSizes", laid_loop_example_stile_impl_devSizes), ("loop.example/stile/impl.devWords", laid_loop_example_stile_impl_devWords)] }
def FnActStepSaid : Prop := fnActStepRow.holds Tryd.pinned (OpenSpec.ofChange fnActStepSpec)

/-- ITS FALSE NEIGHBOUR: 'it returns false'. Refute it at one input. -/
def fnActStepWrong : ChangeSpec := { name := "fnActStep", vars := ["loop.example/stile/impl.devSizes", "loop.example/stile/impl.devWords"], fn := fun _ => fun
  | [d, g1, g2] => { results := [.lit (.bool false)], args := [d], vars := [g1, g2] }
  | _ => none }
def FnActStepWrongFalsely : Prop := fnActStepRow.holds Tryd.pinned (OpenSpec.ofChange fnActStepWrong)

/-- 'laws.FnExactActTest': WHATEVER THE INPUT: true; the input reads as it did. -/
def fnExactActTestSpec : ChangeSpec := { name := "fnExactActTest", vars := ["loop.example/stile/impl.devSizes", "loop.example/stile/impl.devWords"], fn := fun _ => fun
  | [d1, d2, g1, g2] => { results := [.lit (.bool true)], args := [d1, d2], vars := [g1, g2] }
  | _ => none }
def fnExactActTestRow : OpenClaim := { program := "ytidficffkghlkaadoor", sum := "1dbd6c79058239aa83a11a259f0bb103033331484dd669757028e2e4bef435f9", func := "loop.example/stile/laws.FnExactActTest", spec := "fnExactActTest", inPlace := ["math.Float64frombits", "math.Float64bits"], named := ["loop.example/stile/impl.devSizes", "loop.example/stile/impl.devWords"], apart := false, laid := [("loop.example/stile/impl.devSizes", laid_loop_example_stile_impl_devSizes), ("loop.example/stile/impl.devWords", laid_loop_example_stile_impl_devWords)] }
def FnExactActTestSaid : Prop := fnExactActTestRow.holds Tryd.pinned (OpenSpec.ofChange fnExactActTestSpec)

/-- ITS FALSE NEIGHBOUR: 'it returns false'. Refute it at one input. -/
def fnExactActTestWrong : ChangeSpec := { name := "fnExactActTest", vars := ["loop.example/stile/impl.devSizes", "loop.example/stile/impl.devWords"], fn := fun _ => fun
  | [d1, d2, g1, g2] => { results := [.lit (.bool false)], args := [d1, d2], vars := [g1, g2] }
  | _ => none }
def FnExactActTestWrongFalsely : Prop := fnExactActTestRow.holds Tryd.pinned (OpenSpec.ofChange fnExactActTestWrong)

/-- 'laws.FnActShut': WHATEVER THE INPUT: true; the input reads as it did. -/
def fnActShutSpec : ChangeSpec := { name := "fnActShut", vars := ["loop.example/stile/impl.devSizes", "loop.example/stile/impl.devWords"], fn := fun _ => fun
  | [d, g1, g2] => { results := [.lit (.bool true)], args := [d], vars := [g1, g2] }
  | _ => none }
def fnActShutRow : OpenClaim := { program := "ytidficffkghlkaadoor", sum := "1dbd6c79058239aa83a11a259f0bb103033331484dd669757028e2e4bef435f9", func := "loop.example/stile/laws.FnActShut", spec := "fnActShut", inPlace := ["math.Float64frombits", "math.Float64bits"], named := ["loop.example/stile/impl.devSizes", "loop.example/stile/impl.devWords"], apart := false, laid := [("loop.example/stile/impl.devSizes", laid_loop_example_stile_impl_devSizes), ("loop.example/stile/impl.devWords", laid_loop_example_stile_impl_devWords)] }
def FnActShutSaid : Prop := fnActShutRow.holds Tryd.pinned (OpenSpec.ofChange fnActShutSpec)

/-- ITS FALSE NEIGHBOUR: 'it returns false'. Refute it at one input. -/
def fnActShutWrong : ChangeSpec := { name := "fnActShut", vars := ["loop.example/stile/impl.devSizes", "loop.example/stile/impl.devWords"], fn := fun _ => fun
  | [d, g1, g2] => { results := [.lit (.bool false)], args := [d], vars := [g1, g2] }
  | _ => none }
def FnActShutWrongFalsely : Prop := fnActShutRow.holds Tryd.pinned (OpenSpec.ofChange fnActShutWrong)

/-- 'laws.FnExactEvalNet': WHATEVER THE INPUT: true; the input reads as it did. -/
def fnExactEvalNetSpec : ChangeSpec := { name := "fnExactEvalNet", vars := ["loop.example/stile/impl.devSizes", "loop.example/stile/impl.devWords"], fn := fun _ => fun
  | [d1, d2, g1, g2] => { results := [.lit (.bool true)], args := [d1, d2], vars := [g1, g2] }
  | _ => none }
def fnExactEvalNetRow : OpenClaim := { program := "ytidficffkghlkaadoor", sum := "1dbd6c79058239aa83a11a259f0bb103033331484dd669757028e2e4bef435f9", func := "loop.example/stile/laws.FnExactEvalNet", spec := "fnExactEvalNet", inPlace := ["math.Float64frombits", "math.Float64bits"], recurses := true, named := ["loop.example/stile/impl.devSizes", "loop.example/stile/impl.devWords"], loops := true, apart := false, laid := [("loop.example/stile/impl.devSizes", laid_loop_example_stile_impl_devSizes), ("loop.example/stile/impl.devWords", laid_loop_example_stile_impl_devWords)] }
def FnExactEvalNetSaid : Prop := fnExactEvalNetRow.holds Tryd.pinned (OpenSpec.ofChange fnExactEvalNetSpec)

/-- ITS FALSE NEIGHBOUR: 'it returns false'. Refute it at one input. -/
def fnExactEvalNetWrong : ChangeSpec := { name := "fnExactEvalNet", vars := ["loop.example/stile/impl.devSizes", "loop.example/stile/impl.devWords"], fn := fun _ => fun
  | [d1, d2, g1, g2] => { results := [.lit (.bool false)], args := [d1, d2], vars := [g1, g2] }
  | _ => none }
def FnExactEvalNetWrongFalsely : Prop := fnExactEvalNetRow.holds Tryd.pinned (OpenSpec.ofChange fnExactEvalNetWrong)

/-- 'laws.FnEvalAsked': WHATEVER THE INPUT: true; the input reads as it did. -/
def fnEvalAskedSpec : ChangeSpec := { name := "fnEvalAsked", vars := ["loop.example/stile/impl.devSizes", "loop.example/stile/impl.devWords"], fn := fun _ => fun
  | [d, g1, g2] => { results := [.lit (.bool true)], args := [d], vars := [g1, g2] }
  | _ => none }
def fnEvalAskedRow : OpenClaim := { program := "ytidficffkghlkaadoor", sum := "1dbd6c79058239aa83a11a259f0bb103033331484dd669757028e2e4bef435f9", func := "loop.example/stile/laws.FnEvalAsked", spec := "fnEvalAsked", inPlace := ["math.Float64frombits", "math.Float64bits"], recurses := true, named := ["loop.example/stile/impl.devSizes", "loop.example/stile/impl.devWords"], apart := false, laid := [("loop.example/stile/impl.devSizes", laid_loop_example_stile_impl_devSizes), ("loop.example/stile/impl.devWords", laid_loop_example_stile_impl_devWords)] }
def FnEvalAskedSaid : Prop := fnEvalAskedRow.holds Tryd.pinned (OpenSpec.ofChange fnEvalAskedSpec)

/-- ITS FALSE NEIGHBOUR: 'it returns false'. Refute it at one input. -/
def fnEvalAskedWrong : ChangeSpec := { name := "fnEvalAsked", vars := ["loop.example/stile/impl.devSizes", "loop.example/stile/impl.devWords"], fn := fun _ => fun
  | [d, g1, g2] => { results := [.lit (.bool false)], args := [d], vars := [g1, g2] }
  | _ => none }
def FnEvalAskedWrongFalsely : Prop := fnEvalAskedRow.holds Tryd.pinned (OpenSpec.ofChange fnEvalAskedWrong)

/-- 'laws.FnExactActDo': WHATEVER THE INPUT: true; the input reads as it did. -/
def fnExactActDoSpec : ChangeSpec := { name := "fnExactActDo", vars := ["loop.example/stile/impl.devSizes", "loop.example/stile/impl.devWords"], fn := fun _ => fun
  | [d1, d2, d3, d4, g1, g2] => { results := [.lit (.bool true)], args := [d1, d2, d3, d4], vars := [g1, g2] }
  | _ => none }
def fnExactActDoRow : OpenClaim := { program := "ytidficffkghlkaadoor", sum := "1dbd6c79058239aa83a11a259f0bb103033331484dd669757028e2e4bef435f9", func := "loop.example/stile/laws.FnExactActDo", spec := "fnExactActDo", inPlace := ["math.Float64frombits", "math.Float64bits", "math.archTrunc"], named := ["loop.example/stile/impl.devSizes", "loop.example/stile/impl.devWords"], apart := false, laid := [("loop.example/stile/impl.devSizes", laid_loop_example_stile_impl_devSizes), ("loop.example/stile/impl.devWords", laid_loop_example_stile_impl_devWords)] }
def FnExactActDoSaid : Prop := fnExactActDoRow.holds Tryd.pinned (OpenSpec.ofChange fnExactActDoSpec)

/-- ITS FALSE NEIGHBOUR: 'it returns false'. Refute it at one input. -/
def fnExactActDoWrong : ChangeSpec := { name := "fnExactActDo", vars := ["loop.example/stile/impl.devSizes", "loop.example/stile/impl.devWords"], fn := fun _ => fun
  | [d1, d2, d3, d4, g1, g2] => { results := [.lit (.bool false)], args := [d1, d2, d3, d4], vars := [g1, g2] }
  | _ => none }
def FnExactActDoWrongFalsely : Prop := fnExactActDoRow.holds Tryd.pinned (OpenSpec.ofChange fnExactActDoWrong)

/- THE SECOND FORM. 'bulk': how many values and letters a reading holds, each counted each time it is reached (what is shared counts as often as it is met; a slice's spare places count too). A statement '..UptoSaid' is the law's where the arguments, and the package variables that the reading takes, are together of bulk at most 1048576: NARROWER than '..Said'. Prove '..Said' where nothing that the law and all that it calls make is longer than what came in: it says more and counts as full. Else prove '..UptoSaid'. A law counts once. -/
mutual
def uptoBulk {H : Type} : DataW H → Nat
  | .lit (.string bytes) => bytes.length + 1
  | .lit _ => 1
  | .nil => 1
  | .ptr d => uptoBulk d + 1
  | .slice elems spare => uptoBulkAll elems + uptoBulkAll spare + 1
  | .agg parts => uptoBulkAll parts + 1
  | .iface _ d => uptoBulk d + 1
  | .map entries => uptoBulkEntries entries + 1
  | .held _ => 1
def uptoBulkAll {H : Type} : List (DataW H) → Nat
  | [] => 0
  | d :: r => uptoBulk d + uptoBulkAll r
def uptoBulkEntries {H : Type} : List (Lit × DataW H) → Nat
  | [] => 0
  | x :: r => uptoBulkEntry x + uptoBulkEntries r
def uptoBulkEntry {H : Type} : Lit × DataW H → Nat
  | (.string bytes, d) => bytes.length + uptoBulk d + 1
  | (_, d) => uptoBulk d + 1
 end
def uptoSmall : (H : Type) → List (DataW H) → Bool := fun _ ds => decide (uptoBulkAll ds ≤ 1048576)
def OpenSpec.upto (s : _root_.Go.ChangeSpec) : _root_.Go.OpenSpec := { _root_.Go.OpenSpec.ofChange s with cond := some uptoSmall }

/-- 'laws.FnKeptOf', WHERE WHAT IT READS IS OF BULK AT MOST 1048576: true; the input reads as it did. -/
def fnKeptOfUptoRow : OpenClaim := { program := "ytidficffkghlkaadoor", sum := "1dbd6c79058239aa83a11a259f0bb103033331484dd669757028e2e4bef435f9", func := "loop.example/stile/laws.FnKeptOf", spec := "fnKeptOf", inPlace := ["math.Float64bits"], named := ["loop.example/stile/impl.devSizes"], apart := false, laid := [("loop.example/stile/impl.devSizes", laid_loop_example_stile_impl_devSizes)], narrowed := true }
def FnKeptOfUptoSaid : Prop := fnKeptOfUptoRow.holds Tryd.pinned (OpenSpec.upto fnKeptOfSpec)

/-- 'laws.FnActStep', WHERE WHAT IT READS IS OF BULK AT MOST 1048576: true; the input reads as it did. -/
def fnActStepUptoRow : OpenClaim := { program := "ytidficffkghlkaadoor", sum := "1dbd6c79058239aa83a11a259f0bb103033331484dd669757028e2e4bef435f9", func := "loop.example/stile/laws.FnActStep", spec := "fnActStep", inPlace := ["math.Float64frombits", "math.Float64bits", "math.archTrunc"], named := ["loop.example/stile/impl.devSizes", "loop.example/stile/impl.devWords"], apart := false, laid := [("loop.example/stile/impl.devSizes", laid_loop_example_stile_impl_devSizes), ("loop.example/stile/impl.devWords", laid_loop_example_stile_impl_devWords)], narrowed := true }
def FnActStepUptoSaid : Prop := fnActStepUptoRow.holds Tryd.pinned (OpenSpec.upto fnActStepSpec)

/-- 'laws.FnExactActTest', WHERE WHAT IT READS IS OF BULK AT MOST 1048576: true; the input reads as it did. -/
def fnExactActTestUptoRow : OpenClaim := { program := "ytidficffkghlkaadoor", sum := "1dbd6c79058239aa83a11a259f0bb103033331484dd669757028e2e4bef435f9", func := "loop.example/stile/laws.FnExactActTest", spec := "fnExactActTest", inPlace := ["math.Float64frombits", "math.Float64bits"], named := ["loop.example/stile/impl.devSizes", "loop.example/stile/impl.devWords"], apart := false, laid := [("loop.example/stile/impl.devSizes", laid_loop_example_stile_impl_devSizes), ("loop.example/stile/impl.devWords", laid_loop_example_stile_impl_devWords)], narrowed := true }
def FnExactActTestUptoSaid : Prop := fnExactActTestUptoRow.holds Tryd.pinned (OpenSpec.upto fnExactActTestSpec)

/-- 'laws.FnActShut', WHERE WHAT IT READS IS OF BULK AT MOST 1048576: true; the input reads as it did. -/
def fnActShutUptoRow : OpenClaim := { program := "ytidficffkghlkaadoor", sum := "1dbd6c79058239aa83a11a259f0bb103033331484dd669757028e2e4bef435f9", func := "loop.example/stile/laws.FnActShut", spec := "fnActShut", inPlace := ["math.Float64frombits", "math.Float64bits"], named := ["loop.example/stile/impl.devSizes", "loop.example/stile/impl.devWords"], apart := false, laid := [("loop.example/stile/impl.devSizes", laid_loop_example_stile_impl_devSizes), ("loop.example/stile/impl.devWords", laid_loop_example_stile_impl_devWords)], narrowed := true }
def FnActShutUptoSaid : Prop := fnActShutUptoRow.holds Tryd.pinned (OpenSpec.upto fnActShutSpec)

/-- 'laws.FnExactEvalNet', WHERE WHAT IT READS IS OF BULK AT MOST 1048576: true; the input reads as it did. -/
def fnExactEvalNetUptoRow : OpenClaim := { program := "ytidficffkghlkaadoor", sum := "1dbd6c79058239aa83a11a259f0bb103033331484dd669757028e2e4bef435f9", func := "loop.example/stile/laws.FnExactEvalNet", spec := "fnExactEvalNet", inPlace := ["math.Float64frombits", "math.Float64bits"], recurses := true, named := ["loop.example/stile/impl.devSizes", "loop.example/stile/impl.devWords"], loops := true, apart := false, laid := [("loop.example/stile/impl.devSizes", laid_loop_example_stile_impl_devSizes), ("loop.example/stile/impl.devWords", laid_loop_example_stile_impl_devWords)], narrowed := true }
def FnExactEvalNetUptoSaid : Prop := fnExactEvalNetUptoRow.holds Tryd.pinned (OpenSpec.upto fnExactEvalNetSpec)

/-- 'laws.FnEvalAsked', WHERE WHAT IT READS IS OF BULK AT MOST 1048576: true; the input reads as it did. -/
def fnEvalAskedUptoRow : OpenClaim := { program := "ytidficffkghlkaadoor", sum := "1dbd6c79058239aa83a11a259f0bb103033331484dd669757028e2e4bef435f9", func := "loop.example/stile/laws.FnEvalAsked", spec := "fnEvalAsked", inPlace := ["math.Float64frombits", "math.Float64bits"], recurses := true, named := ["loop.example/stile/impl.devSizes", "loop.example/stile/impl.devWords"], apart := false, laid := [("loop.example/stile/impl.devSizes", laid_loop_example_stile_impl_devSizes), ("loop.example/stile/impl.devWords", laid_loop_example_stile_impl_devWords)], narrowed := true }
def FnEvalAskedUptoSaid : Prop := fnEvalAskedUptoRow.holds Tryd.pinned (OpenSpec.upto fnEvalAskedSpec)

/-- 'laws.FnExactActDo', WHERE WHAT IT READS IS OF BULK AT MOST 1048576: true; the input reads as it did. -/
def fnExactActDoUptoRow : OpenClaim := { program := "ytidficffkghlkaadoor", sum := "1dbd6c79058239aa83a11a259f0bb103033331484dd669757028e2e4bef435f9", func := "loop.example/stile/laws.FnExactActDo", spec := "fnExactActDo", inPlace := ["math.Float64frombits", "math.Float64bits", "math.archTrunc"], named := ["loop.example/stile/impl.devSizes", "loop.example/stile/impl.devWords"], apart := false, laid := [("loop.example/stile/impl.devSizes", laid_loop_example_stile_impl_devSizes), ("loop.example/stile/impl.devWords", laid_loop_example_stile_impl_devWords)], narrowed := true }
def FnExactActDoUptoSaid : Prop := fnExactActDoUptoRow.holds Tryd.pinned (OpenSpec.upto fnExactActDoSpec)

end Rows
end Go.Proofs.YtidficffkghlkaaDoor
