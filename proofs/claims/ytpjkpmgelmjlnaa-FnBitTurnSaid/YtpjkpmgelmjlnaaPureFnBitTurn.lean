/- The law 'FnBitTurn' of this seat, over the printed functions alone: it answers true for every input that can be read; no further condition. -/
import Derived.Test.YtpjkpmgelmjlnaaBitsFnBitTurn
namespace Go.Proofs.Ytpjkpmgelmjlnaa.Pure
open Go.Proofs.Ytpjkpmgelmjlnaa.F
theorem FnBitTurn : laws_FnBitTurn.Pure := Go.Proofs.Ytpjkpmgelmjlnaa.BFnBitTurn.FnBitTurn
end Go.Proofs.Ytpjkpmgelmjlnaa.Pure
