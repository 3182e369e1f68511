/-
  No cell of these rows narrows 'for every input' (looked for: loops, veiled, ifaces, maps, wideKeys, modest, calm, conditions, laid).
  DERIVED. THE GIVEN ROWS OF THIS SEAT. 15 by the template 'for every input the law returns true; each argument reads behind the call as it read before'; 0 by the template 'total and deterministic' (their statements: YtpjkpmgelmjlnaaTotals.lean).
  GIVEN WITH THE SEED: the statements are not yours to turn. If you find one false, say at which input.
  Laid BY PROGRAM, IN A SANDBOX (cutbox-rows.mjs): the forced cells as the released guide's own fill.sh prints them over the translation 27543ccdd470def6… (all of the seat's roots in one cut). By AI agents, Wed Nov 11 2026. No macro, syntax, notation, axiom, sorry.
-/
import Derived.Test.YtpjkpmgelmjlnaaChecked
import GoSem.Claim
import GoSem.ClaimJoined
import GoSem.ClaimMapViews
import Derived.JoinedTies
import Derived.KernelRfl
namespace Go.Proofs.Ytpjkpmgelmjlnaa
/- THE CELL 'sum', in the pinned program and in every row, IS THE sha256 OF THE DUMP (.gsa) THAT YtpjkpmgelmjlnaaProg.lean LOADS. Nothing in Lean hashes anything: it is a label: what it is worth is what the hold of that sum in a sandbox is worth. -/
noncomputable def Try.pinned : Pinned := { name := "ytpjkpmgelmjlnaa", sum := "27543ccdd470def6c0aac7b4eaa4cdd6e764c68b491384d703c63df28a0e293c", checked := Try.checked }
namespace Rows
def none {H : Type} : Left H := { results := [], args := [] }

/-- 'laws.FnExactBitTop': WHATEVER THE INPUT: true; the input reads as it did. -/
def fnExactBitTopSpec : ChangeSpec := { name := "fnExactBitTop", fn := fun _ => fun
  | [d] => { results := [.lit (.bool true)], args := [d] }
  | _ => none }
def fnExactBitTopRow : OpenClaim := { program := "ytpjkpmgelmjlnaa", sum := "27543ccdd470def6c0aac7b4eaa4cdd6e764c68b491384d703c63df28a0e293c", func := "loop.example/stile/laws.FnExactBitTop", spec := "fnExactBitTop", apart := false }
def FnExactBitTopSaid : Prop := fnExactBitTopRow.holds Try.pinned (OpenSpec.ofChange fnExactBitTopSpec)

/-- ITS FALSE NEIGHBOUR: 'it returns false'. Refute it at one input. -/
def fnExactBitTopWrong : ChangeSpec := { name := "fnExactBitTop", fn := fun _ => fun
  | [d] => { results := [.lit (.bool false)], args := [d] }
  | _ => none }
def FnExactBitTopWrongFalsely : Prop := fnExactBitTopRow.holds Try.pinned (OpenSpec.ofChange fnExactBitTopWrong)

/-- 'laws.FnExactForkTop': WHATEVER THE INPUT: true; the input reads as it did. -/
def fnExactForkTopSpec : ChangeSpec := { name := "fnExactForkTop", fn := fun _ => fun
  | [d] => { results := [.lit (.bool true)], args := [d] }
  | _ => none }
def fnExactForkTopRow : OpenClaim := { program := "ytpjkpmgelmjlnaa", sum := "27543ccdd470def6c0aac7b4eaa4cdd6e764c68b491384d703c63df28a0e293c", func := "loop.example/stile/laws.FnExactForkTop", spec := "fnExactForkTop", apart := false }
def FnExactForkTopSaid : Prop := fnExactForkTopRow.holds Try.pinned (OpenSpec.ofChange fnExactForkTopSpec)

/-- ITS FALSE NEIGHBOUR: 'it returns false'. Refute it at one input. -/
def fnExactForkTopWrong : ChangeSpec := { name := "fnExactForkTop", fn := fun _ => fun
  | [d] => { results := [.lit (.bool false)], args := [d] }
  | _ => none }
def FnExactForkTopWrongFalsely : Prop := fnExactForkTopRow.holds Try.pinned (OpenSpec.ofChange fnExactForkTopWrong)

/-- 'laws.FnBitPlay': WHATEVER THE INPUT: true; the input reads as it did. -/
def fnBitPlaySpec : ChangeSpec := { name := "fnBitPlay", fn := fun _ => fun
  | [d] => { results := [.lit (.bool true)], args := [d] }
  | _ => none }
def fnBitPlayRow : OpenClaim := { program := "ytpjkpmgelmjlnaa", sum := "27543ccdd470def6c0aac7b4eaa4cdd6e764c68b491384d703c63df28a0e293c", func := "loop.example/stile/laws.FnBitPlay", spec := "fnBitPlay", apart := false }
def FnBitPlaySaid : Prop := fnBitPlayRow.holds Try.pinned (OpenSpec.ofChange fnBitPlaySpec)

/-- ITS FALSE NEIGHBOUR: 'it returns false'. Refute it at one input. -/
def fnBitPlayWrong : ChangeSpec := { name := "fnBitPlay", fn := fun _ => fun
  | [d] => { results := [.lit (.bool false)], args := [d] }
  | _ => none }
def FnBitPlayWrongFalsely : Prop := fnBitPlayRow.holds Try.pinned (OpenSpec.ofChange fnBitPlayWrong)

/-- 'laws.FnExactBitPush': WHATEVER THE INPUT: true; the input reads as it did. -/
def fnExactBitPushSpec : ChangeSpec := { name := "fnExactBitPush", fn := fun _ => fun
  | [d1, d2] => { results := [.lit (.bool true)], args := [d1, d2] }
  | _ => none }
def fnExactBitPushRow : OpenClaim := { program := "ytpjkpmgelmjlnaa", sum := "27543ccdd470def6c0aac7b4eaa4cdd6e764c68b491384d703c63df28a0e293c", func := "loop.example/stile/laws.FnExactBitPush", spec := "fnExactBitPush", apart := false }
def FnExactBitPushSaid : Prop := fnExactBitPushRow.holds Try.pinned (OpenSpec.ofChange fnExactBitPushSpec)

/-- ITS FALSE NEIGHBOUR: 'it returns false'. Refute it at one input. -/
def fnExactBitPushWrong : ChangeSpec := { name := "fnExactBitPush", fn := fun _ => fun
  | [d1, d2] => { results := [.lit (.bool false)], args := [d1, d2] }
  | _ => none }
def FnExactBitPushWrongFalsely : Prop := fnExactBitPushRow.holds Try.pinned (OpenSpec.ofChange fnExactBitPushWrong)

/-- 'laws.FnExactBitList': WHATEVER THE INPUT: true; the input reads as it did. -/
def fnExactBitListSpec : ChangeSpec := { name := "fnExactBitList", fn := fun _ => fun
  | [d] => { results := [.lit (.bool true)], args := [d] }
  | _ => none }
def fnExactBitListRow : OpenClaim := { program := "ytpjkpmgelmjlnaa", sum := "27543ccdd470def6c0aac7b4eaa4cdd6e764c68b491384d703c63df28a0e293c", func := "loop.example/stile/laws.FnExactBitList", spec := "fnExactBitList", apart := false }
def FnExactBitListSaid : Prop := fnExactBitListRow.holds Try.pinned (OpenSpec.ofChange fnExactBitListSpec)

/-- ITS FALSE NEIGHBOUR: 'it returns false'. Refute it at one input. -/
def fnExactBitListWrong : ChangeSpec := { name := "fnExactBitList", fn := fun _ => fun
  | [d] => { results := [.lit (.bool false)], args := [d] }
  | _ => none }
def FnExactBitListWrongFalsely : Prop := fnExactBitListRow.holds Try.pinned (OpenSpec.ofChange fnExactBitListWrong)

/-- 'laws.FnExactBitPop': WHATEVER THE INPUT: true; the input reads as it did. -/
def fnExactBitPopSpec : ChangeSpec := { name := "fnExactBitPop", fn := fun _ => fun
  | [d] => { results := [.lit (.bool true)], args := [d] }
  | _ => none }
def fnExactBitPopRow : OpenClaim := { program := "ytpjkpmgelmjlnaa", sum := "27543ccdd470def6c0aac7b4eaa4cdd6e764c68b491384d703c63df28a0e293c", func := "loop.example/stile/laws.FnExactBitPop", spec := "fnExactBitPop", apart := false }
def FnExactBitPopSaid : Prop := fnExactBitPopRow.holds Try.pinned (OpenSpec.ofChange fnExactBitPopSpec)

/-- ITS FALSE NEIGHBOUR: 'it returns false'. Refute it at one input. -/
def fnExactBitPopWrong : ChangeSpec := { name := "fnExactBitPop", fn := fun _ => fun
  | [d] => { results := [.lit (.bool false)], args := [d] }
  | _ => none }
def FnExactBitPopWrongFalsely : Prop := fnExactBitPopRow.holds Try.pinned (OpenSpec.ofChange fnExactBitPopWrong)

/-- 'laws.FnExactBitRead': WHATEVER THE INPUT: true; the input reads as it did. -/
def fnExactBitReadSpec : ChangeSpec := { name := "fnExactBitRead", fn := fun _ => fun
  | [d] => { results := [.lit (.bool true)], args := [d] }
  | _ => none }
def fnExactBitReadRow : OpenClaim := { program := "ytpjkpmgelmjlnaa", sum := "27543ccdd470def6c0aac7b4eaa4cdd6e764c68b491384d703c63df28a0e293c", func := "loop.example/stile/laws.FnExactBitRead", spec := "fnExactBitRead", apart := false }
def FnExactBitReadSaid : Prop := fnExactBitReadRow.holds Try.pinned (OpenSpec.ofChange fnExactBitReadSpec)

/-- ITS FALSE NEIGHBOUR: 'it returns false'. Refute it at one input. -/
def fnExactBitReadWrong : ChangeSpec := { name := "fnExactBitRead", fn := fun _ => fun
  | [d] => { results := [.lit (.bool false)], args := [d] }
  | _ => none }
def FnExactBitReadWrongFalsely : Prop := fnExactBitReadRow.holds Try.pinned (OpenSpec.ofChange fnExactBitReadWrong)

/-- 'laws.FnExactBitTurn': WHATEVER THE INPUT: true; the input reads as it did. -/
def fnExactBitTurnSpec : ChangeSpec := { name := "fnExactBitTurn", fn := fun _ => fun
  | [d1, d2] => { results := [.lit (.bool true)], args := [d1, d2] }
  | _ => none }
def fnExactBitTurnRow : OpenClaim := { program := "ytpjkpmgelmjlnaa", sum := "27543ccdd470def6c0aac7b4eaa4cdd6e764c68b491384d703c63df28a0e293c", func := "loop.example/stile/laws.FnExactBitTurn", spec := "fnExactBitTurn", apart := false }
def FnExactBitTurnSaid : Prop := fnExactBitTurnRow.holds Try.pinned (OpenSpec.ofChange fnExactBitTurnSpec)

/-- ITS FALSE NEIGHBOUR: 'it returns false'. Refute it at one input. -/
def fnExactBitTurnWrong : ChangeSpec := { name := "fnExactBitTurn", fn := fun _ => fun
  | [d1, d2] => { results := [.lit (.bool false)], args := [d1, d2] }
  | _ => none }
def FnExactBitTurnWrongFalsely : Prop := fnExactBitTurnRow.holds Try.pinned (OpenSpec.ofChange fnExactBitTurnWrong)

/-- 'laws.FnExactForkPush': WHATEVER THE INPUT: true; the input reads as it did. -/
def fnExactForkPushSpec : ChangeSpec := { name := "fnExactForkPush", fn := fun _ => fun
  | [d1, d2] => { results := [.lit (.bool true)], args := [d1, d2] }
  | _ => none }
def fnExactForkPushRow : OpenClaim := { program := "ytpjkpmgelmjlnaa", sum := "27543ccdd470def6c0aac7b4eaa4cdd6e764c68b491384d703c63df28a0e293c", func := "loop.example/stile/laws.FnExactForkPush", spec := "fnExactForkPush", apart := false }
def FnExactForkPushSaid : Prop := fnExactForkPushRow.holds Try.pinned (OpenSpec.ofChange fnExactForkPushSpec)

/-- ITS FALSE NEIGHBOUR: 'it returns false'. Refute it at one input. -/
def fnExactForkPushWrong : ChangeSpec := { name := "fnExactForkPush", fn := fun _ => fun
  | [d1, d2] => { results := [.lit (.bool false)], args := [d1, d2] }
  | _ => none }
def FnExactForkPushWrongFalsely : Prop := fnExactForkPushRow.holds Try.pinned (OpenSpec.ofChange fnExactForkPushWrong)

/-- 'laws.FnExactForkPop': WHATEVER THE INPUT: true; the input reads as it did. -/
def fnExactForkPopSpec : ChangeSpec := { name := "fnExactForkPop", fn := fun _ => fun
  | [d] => { results := [.lit (.bool true)], args := [d] }
  | _ => none }
def fnExactForkPopRow : OpenClaim := { program := "ytpjkpmgelmjlnaa", sum := "27543ccdd470def6c0aac7b4eaa4cdd6e764c68b491384d703c63df28a0e293c", func := "loop.example/stile/laws.FnExactForkPop", spec := "fnExactForkPop", apart := false }
def FnExactForkPopSaid : Prop := fnExactForkPopRow.holds Try.pinned (OpenSpec.ofChange fnExactForkPopSpec)

/-- ITS FALSE NEIGHBOUR: 'it returns false'. Refute it at one input. -/
def fnExactForkPopWrong : ChangeSpec := { name := "fnExactForkPop", fn := fun _ => fun
  | [d] => { results := [.lit (.bool false)], args := [d] }
  | _ => none }
def FnExactForkPopWrongFalsely : Prop := fnExactForkPopRow.holds Try.pinned (OpenSpec.ofChange fnExactForkPopWrong)

/-- 'laws.FnExactBitText': WHATEVER THE INPUT: true; the input reads as it did. -/
def fnExactBitTextSpec : ChangeSpec := { name := "fnExactBitText", fn := fun _ => fun
  | [d] => { results := [.lit (.bool true)], args := [d] }
  | _ => none }
def fnExactBitTextRow : OpenClaim := { program := "ytpjkpmgelmjlnaa", sum := "27543ccdd470def6c0aac7b4eaa4cdd6e764c68b491384d703c63df28a0e293c", func := "loop.example/stile/laws.FnExactBitText", spec := "fnExactBitText", inPlace := ["internal/abi.NoEscape"], apart := false }
def FnExactBitTextSaid : Prop := fnExactBitTextRow.holds Try.pinned (OpenSpec.ofChange fnExactBitTextSpec)

/-- ITS FALSE NEIGHBOUR: 'it returns false'. Refute it at one input. -/
def fnExactBitTextWrong : ChangeSpec := { name := "fnExactBitText", fn := fun _ => fun
  | [d] => { results := [.lit (.bool false)], args := [d] }
  | _ => none }
def FnExactBitTextWrongFalsely : Prop := fnExactBitTextRow.holds Try.pinned (OpenSpec.ofChange fnExactBitTextWrong)

/-- 'laws.FnBitList': WHATEVER THE INPUT: true; the input reads as it did. -/
def fnBitListSpec : ChangeSpec := { name := "fnBitList", fn := fun _ => fun
  | [d] => { results := [.lit (.bool true)], args := [d] }
  | _ => none }
def fnBitListRow : OpenClaim := { program := "ytpjkpmgelmjlnaa", sum := "27543ccdd470def6c0aac7b4eaa4cdd6e764c68b491384d703c63df28a0e293c", func := "loop.example/stile/laws.FnBitList", spec := "fnBitList", apart := false }
def FnBitListSaid : Prop := fnBitListRow.holds Try.pinned (OpenSpec.ofChange fnBitListSpec)

/-- ITS FALSE NEIGHBOUR: 'it returns false'. Refute it at one input. -/
def fnBitListWrong : ChangeSpec := { name := "fnBitList", fn := fun _ => fun
  | [d] => { results := [.lit (.bool false)], args := [d] }
  | _ => none }
def FnBitListWrongFalsely : Prop := fnBitListRow.holds Try.pinned (OpenSpec.ofChange fnBitListWrong)

/-- 'laws.FnBitTurn': WHATEVER THE INPUT: true; the input reads as it did. -/
def fnBitTurnSpec : ChangeSpec := { name := "fnBitTurn", fn := fun _ => fun
  | [d] => { results := [.lit (.bool true)], args := [d] }
  | _ => none }
def fnBitTurnRow : OpenClaim := { program := "ytpjkpmgelmjlnaa", sum := "27543ccdd470def6c0aac7b4eaa4cdd6e764c68b491384d703c63df28a0e293c", func := "loop.example/stile/laws.FnBitTurn", spec := "fnBitTurn", apart := false }
def FnBitTurnSaid : Prop := fnBitTurnRow.holds Try.pinned (OpenSpec.ofChange fnBitTurnSpec)

/-- ITS FALSE NEIGHBOUR: 'it returns false'. Refute it at one input. -/
def fnBitTurnWrong : ChangeSpec := { name := "fnBitTurn", fn := fun _ => fun
  | [d] => { results := [.lit (.bool false)], args := [d] }
  | _ => none }
def FnBitTurnWrongFalsely : Prop := fnBitTurnRow.holds Try.pinned (OpenSpec.ofChange fnBitTurnWrong)

/-- 'laws.FnFork': WHATEVER THE INPUT: true; the input reads as it did. -/
def fnForkSpec : ChangeSpec := { name := "fnFork", fn := fun _ => fun
  | [d] => { results := [.lit (.bool true)], args := [d] }
  | _ => none }
def fnForkRow : OpenClaim := { program := "ytpjkpmgelmjlnaa", sum := "27543ccdd470def6c0aac7b4eaa4cdd6e764c68b491384d703c63df28a0e293c", func := "loop.example/stile/laws.FnFork", spec := "fnFork", apart := false }
def FnForkSaid : Prop := fnForkRow.holds Try.pinned (OpenSpec.ofChange fnForkSpec)

/-- ITS FALSE NEIGHBOUR: 'it returns false'. Refute it at one input. -/
def fnForkWrong : ChangeSpec := { name := "fnFork", fn := fun _ => fun
  | [d] => { results := [.lit (.bool false)], args := [d] }
  | _ => none }
def FnForkWrongFalsely : Prop := fnForkRow.holds Try.pinned (OpenSpec.ofChange fnForkWrong)

/-- 'laws.FnBitBack': WHATEVER THE INPUT: true; the input reads as it did. -/
def fnBitBackSpec : ChangeSpec := { name := "fnBitBack", fn := fun _ => fun
  | [d1, d2] => { results := [.lit (.bool true)], args := [d1, d2] }
  | _ => none }
def fnBitBackRow : OpenClaim := { program := "ytpjkpmgelmjlnaa", sum := "27543ccdd470def6c0aac7b4eaa4cdd6e764c68b491384d703c63df28a0e293c", func := "loop.example/stile/laws.FnBitBack", spec := "fnBitBack", inPlace := ["internal/abi.NoEscape"], apart := false }
def FnBitBackSaid : Prop := fnBitBackRow.holds Try.pinned (OpenSpec.ofChange fnBitBackSpec)

/-- ITS FALSE NEIGHBOUR: 'it returns false'. Refute it at one input. -/
def fnBitBackWrong : ChangeSpec := { name := "fnBitBack", fn := fun _ => fun
  | [d1, d2] => { results := [.lit (.bool false)], args := [d1, d2] }
  | _ => none }
def FnBitBackWrongFalsely : Prop := fnBitBackRow.holds Try.pinned (OpenSpec.ofChange fnBitBackWrong)

/- THE SECOND FORM. 'bulk': how many values and letters a reading holds, each counted each time it is reached (what is shared counts as often as it is met; a slice's spare places count too). A statement '..UptoSaid' is the law's where the arguments, and the package variables that the reading takes, are together of bulk at most 1048576: NARROWER than '..Said'. Prove '..Said' where nothing that the law and all that it calls make is longer than what came in: it says more and counts as full. Else prove '..UptoSaid'. A law counts once. -/
mutual
def uptoBulk {H : Type} : DataW H → Nat
  | .lit (.string bytes) => bytes.length + 1
  | .lit _ => 1
  | .nil => 1
  | .ptr d => uptoBulk d + 1
  | .slice elems spare => uptoBulkAll elems + uptoBulkAll spare + 1
  | .agg parts => uptoBulkAll parts + 1
  | .iface _ d => uptoBulk d + 1
  | .map entries => uptoBulkEntries entries + 1
  | .held _ => 1
def uptoBulkAll {H : Type} : List (DataW H) → Nat
  | [] => 0
  | d :: r => uptoBulk d + uptoBulkAll r
def uptoBulkEntries {H : Type} : List (Lit × DataW H) → Nat
  | [] => 0
  | x :: r => uptoBulkEntry x + uptoBulkEntries r
def uptoBulkEntry {H : Type} : Lit × DataW H → Nat
  | (.string bytes, d) => bytes.length + uptoBulk d + 1
  | (_, d) => uptoBulk d + 1
 end
def uptoSmall : (H : Type) → List (DataW H) → Bool := fun _ ds => decide (uptoBulkAll ds ≤ 1048576)
def OpenSpec.upto (s : _root_.Go.ChangeSpec) : _root_.Go.OpenSpec := { _root_.Go.OpenSpec.ofChange s with cond := some uptoSmall }

/-- 'laws.FnExactBitTop', WHERE WHAT IT READS IS OF BULK AT MOST 1048576: true; the input reads as it did. -/
def fnExactBitTopUptoRow : OpenClaim := { program := "ytpjkpmgelmjlnaa", sum := "27543ccdd470def6c0aac7b4eaa4cdd6e764c68b491384d703c63df28a0e293c", func := "loop.example/stile/laws.FnExactBitTop", spec := "fnExactBitTop", apart := false, narrowed := true }
def FnExactBitTopUptoSaid : Prop := fnExactBitTopUptoRow.holds Try.pinned (OpenSpec.upto fnExactBitTopSpec)

/-- 'laws.FnExactForkTop', WHERE WHAT IT READS IS OF BULK AT MOST 1048576: true; the input reads as it did. -/
def fnExactForkTopUptoRow : OpenClaim := { program := "ytpjkpmgelmjlnaa", sum := "27543ccdd470def6c0aac7b4eaa4cdd6e764c68b491384d703c63df28a0e293c", func := "loop.example/stile/laws.FnExactForkTop", spec := "fnExactForkTop", apart := false, narrowed := true }
def FnExactForkTopUptoSaid : Prop := fnExactForkTopUptoRow.holds Try.pinned (OpenSpec.upto fnExactForkTopSpec)

/-- 'laws.FnBitPlay', WHERE WHAT IT READS IS OF BULK AT MOST 1048576: true; the input reads as it did. -/
def fnBitPlayUptoRow : OpenClaim := { program := "ytpjkpmgelmjlnaa", sum := "27543ccdd470def6c0aac7b4eaa4cdd6e764c68b491384d703c63df28a0e293c", func := "loop.example/stile/laws.FnBitPlay", spec := "fnBitPlay", apart := false, narrowed := true }
def FnBitPlayUptoSaid : Prop := fnBitPlayUptoRow.holds Try.pinned (OpenSpec.upto fnBitPlaySpec)

/-- 'laws.FnExactBitPush', WHERE WHAT IT READS IS OF BULK AT MOST 1048576: true; the input reads as it did. -/
def fnExactBitPushUptoRow : OpenClaim := { program := "ytpjkpmgelmjlnaa", sum := "27543ccdd470def6c0aac7b4eaa4cdd6e764c68b491384d703c63df28a0e293c", func := "loop.example/stile/laws.FnExactBitPush", spec := "fnExactBitPush", apart := false, narrowed := true }
def FnExactBitPushUptoSaid : Prop := fnExactBitPushUptoRow.holds Try.pinned (OpenSpec.upto fnExactBitPushSpec)

/-- 'laws.FnExactBitList', WHERE WHAT IT READS IS OF BULK AT MOST 1048576: true; the input reads as it did. -/
def fnExactBitListUptoRow : OpenClaim := { program := "ytpjkpmgelmjlnaa", sum := "27543ccdd470def6c0aac7b4eaa4cdd6e764c68b491384d703c63df28a0e293c", func := "loop.example/stile/laws.FnExactBitList", spec := "fnExactBitList", apart := false, narrowed := true }
def FnExactBitListUptoSaid : Prop := fnExactBitListUptoRow.holds Try.pinned (OpenSpec.upto fnExactBitListSpec)

/-- 'laws.FnExactBitPop', WHERE WHAT IT READS IS OF BULK AT MOST 1048576: true; the input reads as it did. -/
def fnExactBitPopUptoRow : OpenClaim := { program := "ytpjkpmgelmjlnaa", sum := "27543ccdd470def6c0aac7b4eaa4cdd6e764c68b491384d703c63df28a0e293c", func := "loop.example/stile/laws.FnExactBitPop", spec := "fnExactBitPop", apart := false, narrowed := true }
def FnExactBitPopUptoSaid : Prop := fnExactBitPopUptoRow.holds Try.pinned (OpenSpec.upto fnExactBitPopSpec)

/-- 'laws.FnExactBitRead', WHERE WHAT IT READS IS OF BULK AT MOST 1048576: true; the input reads as it did. -/
def fnExactBitReadUptoRow : OpenClaim := { program := "ytpjkpmgelmjlnaa", sum := "27543ccdd470def6c0aac7b4eaa4cdd6e764c68b491384d703c63df28a0e293c", func := "loop.example/stile/laws.FnExactBitRead", spec := "fnExactBitRead", apart := false, narrowed := true }
def FnExactBitReadUptoSaid : Prop := fnExactBitReadUptoRow.holds Try.pinned (OpenSpec.upto fnExactBitReadSpec)

/-- 'laws.FnExactBitTurn', WHERE WHAT IT READS IS OF BULK AT MOST 1048576: true; the input reads as it did. -/
def fnExactBitTurnUptoRow : OpenClaim := { program := "ytpjkpmgelmjlnaa", sum := "27543ccdd470def6c0aac7b4eaa4cdd6e764c68b491384d703c63df28a0e293c", func := "loop.example/stile/laws.FnExactBitTurn", spec := "fnExactBitTurn", apart := false, narrowed := true }
def FnExactBitTurnUptoSaid : Prop := fnExactBitTurnUptoRow.holds Try.pinned (OpenSpec.upto fnExactBitTurnSpec)

/-- 'laws.FnExactForkPush', WHERE WHAT IT READS IS OF BULK AT MOST 1048576: true; the input reads as it did. -/
def fnExactForkPushUptoRow : OpenClaim := { program := "ytpjkpmgelmjlnaa", sum := "27543ccdd470def6c0aac7b4eaa4cdd6e764c68b491384d703c63df28a0e293c", func := "loop.example/stile/laws.FnExactForkPush", spec := "fnExactForkPush", apart := false, narrowed := true }
def FnExactForkPushUptoSaid : Prop := fnExactForkPushUptoRow.holds Try.pinned (OpenSpec.upto fnExactForkPushSpec)

/-- 'laws.FnExactForkPop', WHERE WHAT IT READS IS OF BULK AT MOST 1048576: true; the input reads as it did. -/
def fnExactForkPopUptoRow : OpenClaim := { program := "ytpjkpmgelmjlnaa", sum := "27543ccdd470def6c0aac7b4eaa4cdd6e764c68b491384d703c63df28a0e293c", func := "loop.example/stile/laws.FnExactForkPop", spec := "fnExactForkPop", apart := false, narrowed := true }
def FnExactForkPopUptoSaid : Prop := fnExactForkPopUptoRow.holds Try.pinned (OpenSpec.upto fnExactForkPopSpec)

/-- 'laws.FnExactBitText', WHERE WHAT IT READS IS OF BULK AT MOST 1048576: true; the input reads as it did. -/
def fnExactBitTextUptoRow : OpenClaim := { program := "ytpjkpmgelmjlnaa", sum := "27543ccdd470def6c0aac7b4eaa4cdd6e764c68b491384d703c63df28a0e293c", func := "loop.example/stile/laws.FnExactBitText", spec := "fnExactBitText", inPlace := ["internal/abi.NoEscape"], apart := false, narrowed := true }
def FnExactBitTextUptoSaid : Prop := fnExactBitTextUptoRow.holds Try.pinned (OpenSpec.upto fnExactBitTextSpec)

/-- 'laws.FnBitList', WHERE WHAT IT READS IS OF BULK AT MOST 1048576: true; the input reads as it did. -/
def fnBitListUptoRow : OpenClaim := { program := "ytpjkpmgelmjlnaa", sum := "27543ccdd470def6c0aac7b4eaa4cdd6e764c68b491384d703c63df28a0e293c", func := "loop.example/stile/laws.FnBitList", spec := "fnBitList", apart := false, narrowed := true }
def FnBitListUptoSaid : Prop := fnBitListUptoRow.holds Try.pinned (OpenSpec.upto fnBitListSpec)

/-- 'laws.FnBitTurn', WHERE WHAT IT READS IS OF BULK AT MOST 1048576: true; the input reads as it did. -/
def fnBitTurnUptoRow : OpenClaim := { program := "ytpjkpmgelmjlnaa", sum := "27543ccdd470def6c0aac7b4eaa4cdd6e764c68b491384d703c63df28a0e293c", func := "loop.example/stile/laws.FnBitTurn", spec := "fnBitTurn", apart := false, narrowed := true }
def FnBitTurnUptoSaid : Prop := fnBitTurnUptoRow.holds Try.pinned (OpenSpec.upto fnBitTurnSpec)

/-- 'laws.FnFork', WHERE WHAT IT READS IS OF BULK AT MOST 1048576: true; the input reads as it did. -/
def fnForkUptoRow : OpenClaim := { program := "ytpjkpmgelmjlnaa", sum := "27543ccdd470def6c0aac7b4eaa4cdd6e764c68b491384d703c63df28a0e293c", func := "loop.example/stile/laws.FnFork", spec := "fnFork", apart := false, narrowed := true }
def FnForkUptoSaid : Prop := fnForkUptoRow.holds Try.pinned (OpenSpec.upto fnForkSpec)

/-- 'laws.FnBitBack', WHERE WHAT IT READS IS OF BULK AT MOST 1048576: true; the input reads as it did. -/
def fnBitBackUptoRow : OpenClaim := { program := "ytpjkpmgelmjlnaa", sum := "27543ccdd470def6c0aac7b4eaa4cdd6e764c68b491384d703c63df28a0e293c", func := "loop.example/stile/laws.FnBitBack", spec := "fnBitBack", inPlace := ["internal/abi.NoEscape"], apart := false, narrowed := true }
def FnBitBackUptoSaid : Prop := fnBitBackUptoRow.holds Try.pinned (OpenSpec.upto fnBitBackSpec)

end Rows
end Go.Proofs.Ytpjkpmgelmjlnaa
