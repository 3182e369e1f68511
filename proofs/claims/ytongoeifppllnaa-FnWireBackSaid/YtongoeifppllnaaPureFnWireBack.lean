/- The law 'FnWireBack' of this seat, over the printed functions alone: it answers true for every input that can be read; no further condition. -/
import Derived.Test.YtongoeifppllnaaBitsFnWireBack
namespace Go.Proofs.Ytongoeifppllnaa.Pure
open Go.Proofs.Ytongoeifppllnaa.B
theorem FnWireBack : laws_FnWireBack.Pure := Go.Proofs.Ytongoeifppllnaa.BFnWireBack.FnWireBack
end Go.Proofs.Ytongoeifppllnaa.Pure
