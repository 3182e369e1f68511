/- The law 'FnFork' of this seat, over the printed functions alone: it answers true for every input that can be read; no further condition. -/
import Derived.Test.YtpjkpmgelmjlnaaBitsFnFork
namespace Go.Proofs.Ytpjkpmgelmjlnaa.Pure
open Go.Proofs.Ytpjkpmgelmjlnaa.G
theorem FnFork : laws_FnFork.Pure := Go.Proofs.Ytpjkpmgelmjlnaa.BFnFork.FnFork
end Go.Proofs.Ytpjkpmgelmjlnaa.Pure
