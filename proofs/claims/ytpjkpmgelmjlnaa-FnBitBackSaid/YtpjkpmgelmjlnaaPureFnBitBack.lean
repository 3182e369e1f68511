/- The law 'FnBitBack' of this seat, over the printed functions alone: it answers true for every input that can be read; no further condition. -/
import Derived.Test.YtpjkpmgelmjlnaaBitsFnBitBack
namespace Go.Proofs.Ytpjkpmgelmjlnaa.Pure
open Go.Proofs.Ytpjkpmgelmjlnaa.K
theorem FnBitBack : laws_FnBitBack.Pure := Go.Proofs.Ytpjkpmgelmjlnaa.BFnBitBack.FnBitBack
end Go.Proofs.Ytpjkpmgelmjlnaa.Pure
