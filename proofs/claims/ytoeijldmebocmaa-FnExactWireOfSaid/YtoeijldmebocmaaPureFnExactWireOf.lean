/- The law 'FnExactWireOf' of this seat, over the printed functions alone: it answers true for every input that can be read; no further condition. -/
import Derived.Test.YtoeijldmebocmaaBitsFnExactWireOf
namespace Go.Proofs.Ytoeijldmebocmaa.Pure
open Go.Proofs.Ytoeijldmebocmaa.F
theorem FnExactWireOf : laws_FnExactWireOf.Pure := Go.Proofs.Ytoeijldmebocmaa.BFnExactWireOf.FnExactWireOf
end Go.Proofs.Ytoeijldmebocmaa.Pure
