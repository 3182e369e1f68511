/- The law 'FnBitPlay' of this seat, over the printed functions alone: it answers true for every input that can be read; no further condition. -/
import Derived.Test.YtpjkpmgelmjlnaaBitsFnBitPlay
namespace Go.Proofs.Ytpjkpmgelmjlnaa.Pure
open Go.Proofs.Ytpjkpmgelmjlnaa.F
theorem FnBitPlay : laws_FnBitPlay.Pure := Go.Proofs.Ytpjkpmgelmjlnaa.BFnBitPlay.FnBitPlay
end Go.Proofs.Ytpjkpmgelmjlnaa.Pure
