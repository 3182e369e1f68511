/- The law 'FnExactPicSum' of this seat, over the printed functions alone: it answers true for every input that can be read; no further condition. -/
import Derived.Test.YtoeijldmebocmaaBitsFnExactPicSum
namespace Go.Proofs.Ytoeijldmebocmaa.Pure
open Go.Proofs.Ytoeijldmebocmaa.F
theorem FnExactPicSum : laws_FnExactPicSum.Pure := Go.Proofs.Ytoeijldmebocmaa.BFnExactPicSum.FnExactPicSum
end Go.Proofs.Ytoeijldmebocmaa.Pure
