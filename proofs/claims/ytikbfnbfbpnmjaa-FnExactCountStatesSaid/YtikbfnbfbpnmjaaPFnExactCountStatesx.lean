/- Text written by a program for this claim: contracts of the functions of one law. -/
import Derived.Test.YtikbfnbfbpnmjaaPFnExactCountStatesx0
import Derived.Test.YtikbfnbfbpnmjaaPFnExactCountStatesx1
import Derived.Test.YtikbfnbfbpnmjaaPFnExactCountStatesx2
import Derived.Test.YtikbfnbfbpnmjaaPFnExactCountStatesx3
import Derived.Test.YtikbfnbfbpnmjaaPFnExactCountStatesx4
import Derived.Test.YtikbfnbfbpnmjaaPFnExactCountStatesx5
import Derived.Test.YtikbfnbfbpnmjaaPFnExactCountStatesx6
import Derived.Test.YtikbfnbfbpnmjaaPFnExactCountStatesx7
import Derived.Test.YtikbfnbfbpnmjaaPFnExactCountStatesx8
import Derived.Test.YtikbfnbfbpnmjaaPFnExactCountStatesx9
import Derived.Test.YtikbfnbfbpnmjaaPFnExactCountStatesx10
import Derived.Test.YtikbfnbfbpnmjaaPFnExactCountStatesx11
import Derived.Test.YtikbfnbfbpnmjaaPFnExactCountStatesx12
namespace Go.Proofs.Ytikbfnbfbpnmjaa.PFnExactCountStates
open Go.RowKit Go.Proofs.YtikbfnbfbpnmjaaW.PrintWords Go.Proofs.YtikbfnbfbpnmjaaW.PrintLast Go.Proofs.YtikbfnbfbpnmjaaW.PrintMore
attribute [local go_sem] max2_int min2_int max_two min_two max_three min_three max_four min_four   -- for this text's walks alone
set_option linter.unusedVariables false
set_option linter.unusedSimpArgs false

end Go.Proofs.Ytikbfnbfbpnmjaa.PFnExactCountStates
