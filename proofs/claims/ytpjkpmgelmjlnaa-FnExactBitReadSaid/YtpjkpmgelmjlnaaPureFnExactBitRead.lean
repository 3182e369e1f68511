/- The law 'FnExactBitRead' of this seat, over the printed functions alone: it answers true for every input that can be read; no further condition. -/
import Derived.Test.YtpjkpmgelmjlnaaBitsFnExactBitRead
namespace Go.Proofs.Ytpjkpmgelmjlnaa.Pure
open Go.Proofs.Ytpjkpmgelmjlnaa.F
theorem FnExactBitRead : laws_FnExactBitRead.Pure := Go.Proofs.Ytpjkpmgelmjlnaa.BFnExactBitRead.FnExactBitRead
end Go.Proofs.Ytpjkpmgelmjlnaa.Pure
