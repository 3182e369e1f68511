/- Functions of this seat as Lean functions, and that the Go code comes to their answers: laid by a program (the kit's printer over all laws of the seat at once, some walks turned by the session's own fix.py). -/
import Derived.Test.YtpjkpmgelmjlnaaProg
import Derived.Below
import Derived.Deep.Draws
import Derived.Deep.AppendLies
import Derived.Maps.AppendAt
import Derived.OwnWalk
import Derived.Laws.BytesArg
import Derived.Laws.MakeOwn
import Derived.Laws.OwnMore
import Derived.Deep.OwnRows
import Derived.Tactics
import Derived.Lib.ConvBytes
import Derived.Laws.Slices
import Derived.WalkKit
import Derived.KernelRfl
import Derived.RowKit3
import Derived.Deep.LoopGhost
import Derived.Deep.QuietTactic
import Derived.BigQuiet
import Derived.WideLaws
import Derived.Deep.DeepCutAuto
import Derived.Deep.CutBlock
import Derived.Deep.RegionHeld3
import Derived.Laws.Rows
import Derived.Lib.AppendStr
import Derived.ArgAppend
import Derived.Laws.IdiomCopy
import Derived.OrdersHeld
import Derived.Laws.BitsLemmas
import Derived.RowKit
import Derived.Test.YtpjkpmgelmjlnaaWWords
import Derived.Test.YtpjkpmgelmjlnaaWLast
import Derived.Test.YtpjkpmgelmjlnaaWTab
import Derived.Test.YtpjkpmgelmjlnaaWFour
import Derived.Test.YtpjkpmgelmjlnaaWQPut
import Derived.Test.YtpjkpmgelmjlnaaWApart
import Derived.Test.YtpjkpmgelmjlnaaWArr
import Derived.Test.YtpjkpmgelmjlnaaWZeros
import Derived.Test.YtpjkpmgelmjlnaaWFoot
import Derived.Test.YtpjkpmgelmjlnaaWKept
import Derived.Test.YtpjkpmgelmjlnaaWShare
import Derived.Test.YtpjkpmgelmjlnaaWN
import Derived.Test.YtpjkpmgelmjlnaaWFootNe
import Derived.Test.YtpjkpmgelmjlnaaWAt
import Derived.Test.YtpjkpmgelmjlnaaWEqStruct
import Derived.Test.YtpjkpmgelmjlnaaWRepsOne
import Derived.Test.YtpjkpmgelmjlnaaWInv
import Derived.Test.YtpjkpmgelmjlnaaWInvWords
import Derived.Test.YtpjkpmgelmjlnaaWGuard
import Derived.Test.YtpjkpmgelmjlnaaWNEv
import Derived.Test.YtpjkpmgelmjlnaaWMore
namespace Go.Proofs.Ytpjkpmgelmjlnaa.K
open Go.RowKit Go.Proofs.YtpjkpmgelmjlnaaW.PrintWords Go.Proofs.YtpjkpmgelmjlnaaW.PrintLast Go.Proofs.YtpjkpmgelmjlnaaW.PrintMore
attribute [local go_sem] max2_int min2_int max_two min_two max_three min_three max_four min_four   -- for this text's walks alone
set_option linter.unusedVariables false
set_option linter.unusedSimpArgs false



def errW : Option Int → Value
  | none => .nilIface
  | some c => .iface 0 (.int .i64 c)
theorem errW_none : errW none = .nilIface := rfl
theorem errW_some (c : Int) : errW (some c) = .iface 0 (.int .i64 c) := rfl

theorem info3 : (Try.prog.info? 3).map (fun i => (i.zero, i.size, i.bytes)) = some (some (.int .i64 0), 1, 8) := by kernel_rfl
theorem info4 : (Try.prog.info? 4).map (fun i => (i.zero, i.size, i.bytes)) = some (some (.bool false), 1, 1) := by kernel_rfl
theorem info5 : (Try.prog.info? 5).map (fun i => (i.zero, i.size, i.bytes)) = some (some (.int .u8 0), 1, 1) := by kernel_rfl
theorem info9 : (Try.prog.info? 9).map (fun i => (i.zero, i.size, i.bytes)) = some (some (.string ⟨#[]⟩), 1, 16) := by kernel_rfl
-- the values' own types

end Go.Proofs.Ytpjkpmgelmjlnaa.K
