/- Text written by a program for this claim: contracts of the functions of one law. -/
import Derived.Test.YtjipboafhakjfaaPFnExactStableMatchx0
import Derived.Test.YtjipboafhakjfaaPFnExactStableMatchx1
import Derived.Test.YtjipboafhakjfaaPFnExactStableMatchx2
import Derived.Test.YtjipboafhakjfaaPFnExactStableMatchx3
import Derived.Test.YtjipboafhakjfaaPFnExactStableMatchx4
import Derived.Test.YtjipboafhakjfaaPFnExactStableMatchx5
import Derived.Test.YtjipboafhakjfaaPFnExactStableMatchx6
namespace Go.Proofs.Ytjipboafhakjfaa.PFnExactStableMatch
open Go.RowKit Go.Proofs.YtjipboafhakjfaaW.PrintWords Go.Proofs.YtjipboafhakjfaaW.PrintLast Go.Proofs.YtjipboafhakjfaaW.PrintMore
attribute [local go_sem] max2_int min2_int max_two min_two max_three min_three max_four min_four   -- for this text's walks alone
set_option linter.unusedVariables false
set_option linter.unusedSimpArgs false

end Go.Proofs.Ytjipboafhakjfaa.PFnExactStableMatch
