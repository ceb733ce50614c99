/- Text written by a program for this claim: contracts of the functions of one law. -/
import Derived.Test.YtikbfnbfbpnmjaaPFnExactNewYardx0
import Derived.Test.YtikbfnbfbpnmjaaPFnExactNewYardx1
import Derived.Test.YtikbfnbfbpnmjaaPFnExactNewYardx2
import Derived.Test.YtikbfnbfbpnmjaaPFnExactNewYardx3
import Derived.Test.YtikbfnbfbpnmjaaPFnExactNewYardx4
import Derived.Test.YtikbfnbfbpnmjaaPFnExactNewYardx5
import Derived.Test.YtikbfnbfbpnmjaaPFnExactNewYardx6
import Derived.Test.YtikbfnbfbpnmjaaPFnExactNewYardx7
import Derived.Test.YtikbfnbfbpnmjaaPFnExactNewYardx8
namespace Go.Proofs.Ytikbfnbfbpnmjaa.PFnExactNewYard
open Go.RowKit Go.Proofs.YtikbfnbfbpnmjaaW.PrintWords Go.Proofs.YtikbfnbfbpnmjaaW.PrintLast Go.Proofs.YtikbfnbfbpnmjaaW.PrintMore
attribute [local go_sem] max2_int min2_int max_two min_two max_three min_three max_four min_four   -- for this text's walks alone
set_option linter.unusedVariables false
set_option linter.unusedSimpArgs false

end Go.Proofs.Ytikbfnbfbpnmjaa.PFnExactNewYard
