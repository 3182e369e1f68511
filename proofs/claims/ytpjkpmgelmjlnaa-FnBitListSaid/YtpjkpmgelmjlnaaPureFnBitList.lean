/- The law 'FnBitList' of this seat, over the printed functions alone: it answers true for every input that can be read; no further condition. -/
import Derived.Test.YtpjkpmgelmjlnaaBitsFnBitList
namespace Go.Proofs.Ytpjkpmgelmjlnaa.Pure
open Go.Proofs.Ytpjkpmgelmjlnaa.H
theorem FnBitList : laws_FnBitList.Pure := Go.Proofs.Ytpjkpmgelmjlnaa.BFnBitList.FnBitList
end Go.Proofs.Ytpjkpmgelmjlnaa.Pure
