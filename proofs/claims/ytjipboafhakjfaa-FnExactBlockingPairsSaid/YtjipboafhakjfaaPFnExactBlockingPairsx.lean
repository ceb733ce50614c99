/- Text written by a program for this claim: contracts of the functions of one law. -/
import Derived.Test.YtjipboafhakjfaaPFnExactBlockingPairsx0
import Derived.Test.YtjipboafhakjfaaPFnExactBlockingPairsx1
import Derived.Test.YtjipboafhakjfaaPFnExactBlockingPairsx2
import Derived.Test.YtjipboafhakjfaaPFnExactBlockingPairsx3
import Derived.Test.YtjipboafhakjfaaPFnExactBlockingPairsx4
import Derived.Test.YtjipboafhakjfaaPFnExactBlockingPairsx5
import Derived.Test.YtjipboafhakjfaaPFnExactBlockingPairsx6
import Derived.Test.YtjipboafhakjfaaPFnExactBlockingPairsx7
import Derived.Test.YtjipboafhakjfaaPFnExactBlockingPairsx8
namespace Go.Proofs.Ytjipboafhakjfaa.PFnExactBlockingPairs
open Go.RowKit Go.Proofs.YtjipboafhakjfaaW.PrintWords Go.Proofs.YtjipboafhakjfaaW.PrintLast Go.Proofs.YtjipboafhakjfaaW.PrintMore
attribute [local go_sem] max2_int min2_int max_two min_two max_three min_three max_four min_four   -- for this text's walks alone
set_option linter.unusedVariables false
set_option linter.unusedSimpArgs false

end Go.Proofs.Ytjipboafhakjfaa.PFnExactBlockingPairs
