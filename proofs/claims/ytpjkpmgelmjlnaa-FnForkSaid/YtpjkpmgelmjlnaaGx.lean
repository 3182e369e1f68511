/- Functions of this seat as Lean functions, and that the Go code comes to their answers: laid by a program (the kit's printer over all laws of the seat at once, some walks turned by the session's own fix.py). -/
import Derived.Test.YtpjkpmgelmjlnaaGx0
import Derived.Test.YtpjkpmgelmjlnaaGx1
import Derived.Test.YtpjkpmgelmjlnaaGx2
import Derived.Test.YtpjkpmgelmjlnaaGx3
import Derived.Test.YtpjkpmgelmjlnaaGx4
import Derived.Test.YtpjkpmgelmjlnaaGx5
import Derived.Test.YtpjkpmgelmjlnaaGx6
import Derived.Test.YtpjkpmgelmjlnaaGx7
import Derived.Test.YtpjkpmgelmjlnaaGx8
import Derived.Test.YtpjkpmgelmjlnaaGx9
namespace Go.Proofs.Ytpjkpmgelmjlnaa.G
open Go.RowKit Go.Proofs.YtpjkpmgelmjlnaaW.PrintWords Go.Proofs.YtpjkpmgelmjlnaaW.PrintLast Go.Proofs.YtpjkpmgelmjlnaaW.PrintMore
attribute [local go_sem] max2_int min2_int max_two min_two max_three min_three max_four min_four   -- for this text's walks alone
set_option linter.unusedVariables false
set_option linter.unusedSimpArgs false

end Go.Proofs.Ytpjkpmgelmjlnaa.G
