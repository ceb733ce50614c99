/- Text written by a program for this claim: contracts of the functions of one law. -/
import Derived.Test.YtbgjhdhdfdfpkaaProg
import Derived.Below
import Derived.Deep.Draws
import Derived.Deep.AppendLies
import Derived.Maps.AppendAt
import Derived.OwnWalk
import Derived.Laws.BytesArg
import Derived.Laws.MakeOwn
import Derived.Laws.OwnMore
import Derived.Deep.OwnRows
import Derived.Tactics
import Derived.Lib.ConvBytes
import Derived.Laws.Slices
import Derived.WalkKit
import Derived.KernelRfl
import Derived.RowKit3
import Derived.Deep.LoopGhost
import Derived.Deep.QuietTactic
import Derived.BigQuiet
import Derived.WideLaws
import Derived.Deep.DeepCutAuto
import Derived.Deep.CutBlock
import Derived.Deep.RegionHeld3
import Derived.Laws.Rows
import Derived.Lib.AppendStr
import Derived.ArgAppend
import Derived.Laws.IdiomCopy
import Derived.OrdersHeld
import Derived.Laws.BitsLemmas
import Derived.RowKit
import Derived.Test.YtbgjhdhdfdfpkaaWWords
import Derived.Test.YtbgjhdhdfdfpkaaWLast
import Derived.Test.YtbgjhdhdfdfpkaaWTab
import Derived.Test.YtbgjhdhdfdfpkaaWQPut
import Derived.Test.YtbgjhdhdfdfpkaaWApart
import Derived.Test.YtbgjhdhdfdfpkaaWArr
import Derived.Test.YtbgjhdhdfdfpkaaWZeros
import Derived.Test.YtbgjhdhdfdfpkaaWFoot
import Derived.Test.YtbgjhdhdfdfpkaaWKept
import Derived.Test.YtbgjhdhdfdfpkaaWShare
import Derived.Test.YtbgjhdhdfdfpkaaWN
import Derived.Test.YtbgjhdhdfdfpkaaWRepsOne
import Derived.Test.YtbgjhdhdfdfpkaaWGuard
import Derived.Test.YtbgjhdhdfdfpkaaWNEv
import Derived.Test.YtbgjhdhdfdfpkaaWMore
namespace Go.Proofs.Ytbgjhdhdfdfpkaa.PFnExactWayCost
open Go.RowKit Go.Proofs.YtbgjhdhdfdfpkaaW.PrintWords Go.Proofs.YtbgjhdhdfdfpkaaW.PrintLast Go.Proofs.YtbgjhdhdfdfpkaaW.PrintMore
attribute [local go_sem] max2_int min2_int max_two min_two max_three min_three max_four min_four   -- for this text's walks alone
set_option linter.unusedVariables false
set_option linter.unusedSimpArgs false



def errW : Option Int → Value
  | none => .nilIface
  | some c => .iface 0 (.int .i64 c)
theorem errW_none : errW none = .nilIface := rfl
theorem errW_some (c : Int) : errW (some c) = .iface 0 (.int .i64 c) := rfl

theorem info3 : (Try.prog.info? 3).map (fun i => (i.zero, i.size, i.bytes)) = some (some (.int .i64 0), 1, 8) := by kernel_rfl
-- the values' own types

end Go.Proofs.Ytbgjhdhdfdfpkaa.PFnExactWayCost
