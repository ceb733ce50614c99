/- Text written by a program for this claim: contracts of the functions of one law. -/
import Derived.Test.YtjipboafhakjfaaPFnExactCheapestMatchx0
import Derived.Test.YtjipboafhakjfaaPFnExactCheapestMatchx1
import Derived.Test.YtjipboafhakjfaaPFnExactCheapestMatchx2
import Derived.Test.YtjipboafhakjfaaPFnExactCheapestMatchx3
import Derived.Test.YtjipboafhakjfaaPFnExactCheapestMatchx4
namespace Go.Proofs.Ytjipboafhakjfaa.PFnExactCheapestMatch
open Go.RowKit Go.Proofs.YtjipboafhakjfaaW.PrintWords Go.Proofs.YtjipboafhakjfaaW.PrintLast Go.Proofs.YtjipboafhakjfaaW.PrintMore
attribute [local go_sem] max2_int min2_int max_two min_two max_three min_three max_four min_four   -- for this text's walks alone
set_option linter.unusedVariables false
set_option linter.unusedSimpArgs false

end Go.Proofs.Ytjipboafhakjfaa.PFnExactCheapestMatch
