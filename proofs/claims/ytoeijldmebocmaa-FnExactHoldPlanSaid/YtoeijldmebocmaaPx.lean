/- Functions of this seat as Lean functions, and that the Go code comes to their answers: laid by a program (the kit's printer over all laws of the seat at once, some walks turned by the session's own fix.py). -/
import Derived.Test.YtoeijldmebocmaaPx0
import Derived.Test.YtoeijldmebocmaaPx1
import Derived.Test.YtoeijldmebocmaaPx2
import Derived.Test.YtoeijldmebocmaaPx3
import Derived.Test.YtoeijldmebocmaaPx4
import Derived.Test.YtoeijldmebocmaaPx5
import Derived.Test.YtoeijldmebocmaaPx6
import Derived.Test.YtoeijldmebocmaaPx7
import Derived.Test.YtoeijldmebocmaaPx8
import Derived.Test.YtoeijldmebocmaaPx9
import Derived.Test.YtoeijldmebocmaaPx10
namespace Go.Proofs.Ytoeijldmebocmaa.P
open Go.RowKit Go.Proofs.YtoeijldmebocmaaW.PrintWords Go.Proofs.YtoeijldmebocmaaW.PrintLast Go.Proofs.YtoeijldmebocmaaW.PrintMore
attribute [local go_sem] max2_int min2_int max_two min_two max_three min_three max_four min_four   -- for this text's walks alone
set_option linter.unusedVariables false
set_option linter.unusedSimpArgs false

end Go.Proofs.Ytoeijldmebocmaa.P
