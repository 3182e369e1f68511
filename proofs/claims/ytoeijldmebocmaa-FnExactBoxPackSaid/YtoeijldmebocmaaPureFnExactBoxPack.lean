/- The law 'FnExactBoxPack' of this seat, over the printed functions alone: it answers true for every input that can be read; no further condition. -/
import Derived.Test.YtoeijldmebocmaaBitsFnExactBoxPack
namespace Go.Proofs.Ytoeijldmebocmaa.Pure
open Go.Proofs.Ytoeijldmebocmaa.F
theorem FnExactBoxPack : laws_FnExactBoxPack.Pure := Go.Proofs.Ytoeijldmebocmaa.BFnExactBoxPack.FnExactBoxPack
end Go.Proofs.Ytoeijldmebocmaa.Pure
