/- The law 'FnExactPicBytes' of this seat, over the printed functions alone: it answers true for every input that can be read; no further condition. -/
import Derived.Test.YtoeijldmebocmaaBitsFnExactPicBytes
namespace Go.Proofs.Ytoeijldmebocmaa.Pure
open Go.Proofs.Ytoeijldmebocmaa.F
theorem FnExactPicBytes : laws_FnExactPicBytes.Pure := Go.Proofs.Ytoeijldmebocmaa.BFnExactPicBytes.FnExactPicBytes
end Go.Proofs.Ytoeijldmebocmaa.Pure
