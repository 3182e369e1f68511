/- The law 'FnExactPicHex' of this seat, over the printed functions alone: it answers true for every input that can be read; no further condition. -/
import Derived.Test.YtoeijldmebocmaaBitsFnExactPicHex
namespace Go.Proofs.Ytoeijldmebocmaa.Pure
open Go.Proofs.Ytoeijldmebocmaa.F
theorem FnExactPicHex : laws_FnExactPicHex.Pure := Go.Proofs.Ytoeijldmebocmaa.BFnExactPicHex.FnExactPicHex
end Go.Proofs.Ytoeijldmebocmaa.Pure
