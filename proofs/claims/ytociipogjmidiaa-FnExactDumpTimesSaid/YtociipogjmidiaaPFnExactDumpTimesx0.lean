-- PRINTED BY print.sh 35421559b90ae4d0a3588c463048766b98c2df88dd9212a6774a882060cdf62d: not written by this session
import Derived.Test.YtociipogjmidiaaProg
import Derived.Below
import Derived.Deep.Draws
import Derived.Deep.AppendLies
import Derived.Maps.AppendAt
import Derived.OwnWalk
import Derived.Laws.BytesArg
import Derived.Laws.MakeOwn
import Derived.Laws.OwnMore
import Derived.Deep.OwnRows
import Derived.Tactics
import Derived.Lib.ConvBytes
import Derived.Laws.Slices
import Derived.WalkKit
import Derived.KernelRfl
import Derived.RowKit3
import Derived.Deep.LoopGhost
import Derived.Deep.QuietTactic
import Derived.BigQuiet
import Derived.WideLaws
import Derived.Deep.DeepCutAuto
import Derived.Deep.CutBlock
import Derived.Deep.RegionHeld3
import Derived.Laws.Rows
import Derived.Lib.AppendStr
import Derived.ArgAppend
import Derived.Laws.IdiomCopy
import Derived.OrdersHeld
import Derived.Laws.BitsLemmas
import Derived.RowKit
import Derived.Test.YtociipogjmidiaaWWords
import Derived.Test.YtociipogjmidiaaWLast
import Derived.Test.YtociipogjmidiaaWTab
import Derived.Test.YtociipogjmidiaaWFour
import Derived.Test.YtociipogjmidiaaWQPut
import Derived.Test.YtociipogjmidiaaWApart
import Derived.Test.YtociipogjmidiaaWArr
import Derived.Test.YtociipogjmidiaaWZeros
import Derived.Test.YtociipogjmidiaaWFoot
import Derived.Test.YtociipogjmidiaaWKept
import Derived.Test.YtociipogjmidiaaWShare
import Derived.Test.YtociipogjmidiaaWN
import Derived.Test.YtociipogjmidiaaWFootNe
import Derived.Test.YtociipogjmidiaaWAt
import Derived.Test.YtociipogjmidiaaWEqStruct
import Derived.Test.YtociipogjmidiaaWRepsOne
import Derived.Test.YtociipogjmidiaaWInv
import Derived.Test.YtociipogjmidiaaWInvWords
import Derived.Test.YtociipogjmidiaaWGuard
import Derived.Test.YtociipogjmidiaaWNEv
import Derived.Test.YtociipogjmidiaaWMore
namespace Go.Proofs.Ytociipogjmidiaa.PFnExactDumpTimes
open Go.RowKit Go.Proofs.YtociipogjmidiaaW.PrintWords Go.Proofs.YtociipogjmidiaaW.PrintLast Go.Proofs.YtociipogjmidiaaW.PrintMore
attribute [local go_sem] max2_int min2_int max_two min_two max_three min_three max_four min_four   -- for this text's walks alone
set_option linter.unusedVariables false
set_option linter.unusedSimpArgs false



def errW : Option Int → Value
  | none => .nilIface
  | some c => .iface 0 (.int .i64 c)
theorem errW_none : errW none = .nilIface := rfl
theorem errW_some (c : Int) : errW (some c) = .iface 0 (.int .i64 c) := rfl

theorem info3 : (Try.prog.info? 3).map (fun i => (i.zero, i.size, i.bytes)) = some (some (.int .i64 0), 1, 8) := by kernel_rfl
-- the values' own types

end Go.Proofs.Ytociipogjmidiaa.PFnExactDumpTimes
