/-
  No cell of these rows narrows 'for every input' (looked for: loops, veiled, ifaces, maps, wideKeys, modest, calm, conditions, laid).
  DERIVED. THE GIVEN ROWS OF THIS SEAT. 12 by the template 'for every input the law returns true; each argument reads behind the call as it read before'; 0 by the template 'total and deterministic' (their statements: YtociipogjmidiaaTotals.lean).
  GIVEN WITH THE SEED: the statements are not yours to turn. If you find one false, say at which input.
  Laid BY PROGRAM, IN A SANDBOX (cutbox-rows.mjs): the forced cells as the released guide's own fill.sh prints them over the translation 64364a132c914d2f… (all of the seat's roots in one cut). By AI agents, Wed Nov 11 2026. No macro, syntax, notation, axiom, sorry.
-/
import Derived.Test.YtociipogjmidiaaChecked
import GoSem.Claim
import GoSem.ClaimJoined
import GoSem.ClaimMapViews
import Derived.JoinedTies
import Derived.KernelRfl
namespace Go.Proofs.Ytociipogjmidiaa
/- THE CELL 'sum', in the pinned program and in every row, IS THE sha256 OF THE DUMP (.gsa) THAT YtociipogjmidiaaProg.lean LOADS. Nothing in Lean hashes anything: it is a label: what it is worth is what the hold of that sum in a sandbox is worth. -/
noncomputable def Try.pinned : Pinned := { name := "ytociipogjmidiaa", sum := "64364a132c914d2fb133a230e379824b21e52ac8eb7fd77828337370fcd166c2", checked := Try.checked }
namespace Rows
def none {H : Type} : Left H := { results := [], args := [] }

/-- 'laws.FnExactIsCycle': WHATEVER THE INPUT: true; the input reads as it did. -/
def fnExactIsCycleSpec : ChangeSpec := { name := "fnExactIsCycle", fn := fun _ => fun
  | [d] => { results := [.lit (.bool true)], args := [d] }
  | _ => none }
def fnExactIsCycleRow : OpenClaim := { program := "ytociipogjmidiaa", sum := "64364a132c914d2fb133a230e379824b21e52ac8eb7fd77828337370fcd166c2", func := "loop.example/g00914/laws.FnExactIsCycle", spec := "fnExactIsCycle", apart := false }
def FnExactIsCycleSaid : Prop := fnExactIsCycleRow.holds Try.pinned (OpenSpec.ofChange fnExactIsCycleSpec)

/-- ITS FALSE NEIGHBOUR: 'it returns false'. Refute it at one input. -/
def fnExactIsCycleWrong : ChangeSpec := { name := "fnExactIsCycle", fn := fun _ => fun
  | [d] => { results := [.lit (.bool false)], args := [d] }
  | _ => none }
def FnExactIsCycleWrongFalsely : Prop := fnExactIsCycleRow.holds Try.pinned (OpenSpec.ofChange fnExactIsCycleWrong)

/-- 'laws.FnExactCycleTime': WHATEVER THE INPUT: true; the input reads as it did. -/
def fnExactCycleTimeSpec : ChangeSpec := { name := "fnExactCycleTime", fn := fun _ => fun
  | [d] => { results := [.lit (.bool true)], args := [d] }
  | _ => none }
def fnExactCycleTimeRow : OpenClaim := { program := "ytociipogjmidiaa", sum := "64364a132c914d2fb133a230e379824b21e52ac8eb7fd77828337370fcd166c2", func := "loop.example/g00914/laws.FnExactCycleTime", spec := "fnExactCycleTime", apart := false }
def FnExactCycleTimeSaid : Prop := fnExactCycleTimeRow.holds Try.pinned (OpenSpec.ofChange fnExactCycleTimeSpec)

/-- ITS FALSE NEIGHBOUR: 'it returns false'. Refute it at one input. -/
def fnExactCycleTimeWrong : ChangeSpec := { name := "fnExactCycleTime", fn := fun _ => fun
  | [d] => { results := [.lit (.bool false)], args := [d] }
  | _ => none }
def FnExactCycleTimeWrongFalsely : Prop := fnExactCycleTimeRow.holds Try.pinned (OpenSpec.ofChange fnExactCycleTimeWrong)

/-- 'laws.FnExactRoundTime': WHATEVER THE INPUT: true; the input reads as it did. -/
def fnExactRoundTimeSpec : ChangeSpec := { name := "fnExactRoundTime", fn := fun _ => fun
  | [d1, d2] => { results := [.lit (.bool true)], args := [d1, d2] }
  | _ => none }
def fnExactRoundTimeRow : OpenClaim := { program := "ytociipogjmidiaa", sum := "64364a132c914d2fb133a230e379824b21e52ac8eb7fd77828337370fcd166c2", func := "loop.example/g00914/laws.FnExactRoundTime", spec := "fnExactRoundTime", apart := false }
def FnExactRoundTimeSaid : Prop := fnExactRoundTimeRow.holds Try.pinned (OpenSpec.ofChange fnExactRoundTimeSpec)

/-- ITS FALSE NEIGHBOUR: 'it returns false'. Refute it at one input. -/
def fnExactRoundTimeWrong : ChangeSpec := { name := "fnExactRoundTime", fn := fun _ => fun
  | [d1, d2] => { results := [.lit (.bool false)], args := [d1, d2] }
  | _ => none }
def FnExactRoundTimeWrongFalsely : Prop := fnExactRoundTimeRow.holds Try.pinned (OpenSpec.ofChange fnExactRoundTimeWrong)

/-- 'laws.FnExactLeastTrucks': WHATEVER THE INPUT: true; the input reads as it did. -/
def fnExactLeastTrucksSpec : ChangeSpec := { name := "fnExactLeastTrucks", fn := fun _ => fun
  | [d] => { results := [.lit (.bool true)], args := [d] }
  | _ => none }
def fnExactLeastTrucksRow : OpenClaim := { program := "ytociipogjmidiaa", sum := "64364a132c914d2fb133a230e379824b21e52ac8eb7fd77828337370fcd166c2", func := "loop.example/g00914/laws.FnExactLeastTrucks", spec := "fnExactLeastTrucks", apart := false }
def FnExactLeastTrucksSaid : Prop := fnExactLeastTrucksRow.holds Try.pinned (OpenSpec.ofChange fnExactLeastTrucksSpec)

/-- ITS FALSE NEIGHBOUR: 'it returns false'. Refute it at one input. -/
def fnExactLeastTrucksWrong : ChangeSpec := { name := "fnExactLeastTrucks", fn := fun _ => fun
  | [d] => { results := [.lit (.bool false)], args := [d] }
  | _ => none }
def FnExactLeastTrucksWrongFalsely : Prop := fnExactLeastTrucksRow.holds Try.pinned (OpenSpec.ofChange fnExactLeastTrucksWrong)

/-- 'laws.FnExactMatchFactor': WHATEVER THE INPUT: true; the input reads as it did. -/
def fnExactMatchFactorSpec : ChangeSpec := { name := "fnExactMatchFactor", fn := fun _ => fun
  | [d1, d2] => { results := [.lit (.bool true)], args := [d1, d2] }
  | _ => none }
def fnExactMatchFactorRow : OpenClaim := { program := "ytociipogjmidiaa", sum := "64364a132c914d2fb133a230e379824b21e52ac8eb7fd77828337370fcd166c2", func := "loop.example/g00914/laws.FnExactMatchFactor", spec := "fnExactMatchFactor", apart := false }
def FnExactMatchFactorSaid : Prop := fnExactMatchFactorRow.holds Try.pinned (OpenSpec.ofChange fnExactMatchFactorSpec)

/-- ITS FALSE NEIGHBOUR: 'it returns false'. Refute it at one input. -/
def fnExactMatchFactorWrong : ChangeSpec := { name := "fnExactMatchFactor", fn := fun _ => fun
  | [d1, d2] => { results := [.lit (.bool false)], args := [d1, d2] }
  | _ => none }
def FnExactMatchFactorWrongFalsely : Prop := fnExactMatchFactorRow.holds Try.pinned (OpenSpec.ofChange fnExactMatchFactorWrong)

/-- 'laws.FnExactWaitingTime': WHATEVER THE INPUT: true; the input reads as it did. -/
def fnExactWaitingTimeSpec : ChangeSpec := { name := "fnExactWaitingTime", fn := fun _ => fun
  | [d1, d2, d3] => { results := [.lit (.bool true)], args := [d1, d2, d3] }
  | _ => none }
def fnExactWaitingTimeRow : OpenClaim := { program := "ytociipogjmidiaa", sum := "64364a132c914d2fb133a230e379824b21e52ac8eb7fd77828337370fcd166c2", func := "loop.example/g00914/laws.FnExactWaitingTime", spec := "fnExactWaitingTime", apart := false }
def FnExactWaitingTimeSaid : Prop := fnExactWaitingTimeRow.holds Try.pinned (OpenSpec.ofChange fnExactWaitingTimeSpec)

/-- ITS FALSE NEIGHBOUR: 'it returns false'. Refute it at one input. -/
def fnExactWaitingTimeWrong : ChangeSpec := { name := "fnExactWaitingTime", fn := fun _ => fun
  | [d1, d2, d3] => { results := [.lit (.bool false)], args := [d1, d2, d3] }
  | _ => none }
def FnExactWaitingTimeWrongFalsely : Prop := fnExactWaitingTimeRow.holds Try.pinned (OpenSpec.ofChange fnExactWaitingTimeWrong)

/-- 'laws.FnExactShovelIdle': WHATEVER THE INPUT: true; the input reads as it did. -/
def fnExactShovelIdleSpec : ChangeSpec := { name := "fnExactShovelIdle", fn := fun _ => fun
  | [d1, d2, d3] => { results := [.lit (.bool true)], args := [d1, d2, d3] }
  | _ => none }
def fnExactShovelIdleRow : OpenClaim := { program := "ytociipogjmidiaa", sum := "64364a132c914d2fb133a230e379824b21e52ac8eb7fd77828337370fcd166c2", func := "loop.example/g00914/laws.FnExactShovelIdle", spec := "fnExactShovelIdle", apart := false }
def FnExactShovelIdleSaid : Prop := fnExactShovelIdleRow.holds Try.pinned (OpenSpec.ofChange fnExactShovelIdleSpec)

/-- ITS FALSE NEIGHBOUR: 'it returns false'. Refute it at one input. -/
def fnExactShovelIdleWrong : ChangeSpec := { name := "fnExactShovelIdle", fn := fun _ => fun
  | [d1, d2, d3] => { results := [.lit (.bool false)], args := [d1, d2, d3] }
  | _ => none }
def FnExactShovelIdleWrongFalsely : Prop := fnExactShovelIdleRow.holds Try.pinned (OpenSpec.ofChange fnExactShovelIdleWrong)

/-- 'laws.FnExactLoadsBy': WHATEVER THE INPUT: true; the input reads as it did. -/
def fnExactLoadsBySpec : ChangeSpec := { name := "fnExactLoadsBy", fn := fun _ => fun
  | [d1, d2, d3] => { results := [.lit (.bool true)], args := [d1, d2, d3] }
  | _ => none }
def fnExactLoadsByRow : OpenClaim := { program := "ytociipogjmidiaa", sum := "64364a132c914d2fb133a230e379824b21e52ac8eb7fd77828337370fcd166c2", func := "loop.example/g00914/laws.FnExactLoadsBy", spec := "fnExactLoadsBy", apart := false }
def FnExactLoadsBySaid : Prop := fnExactLoadsByRow.holds Try.pinned (OpenSpec.ofChange fnExactLoadsBySpec)

/-- ITS FALSE NEIGHBOUR: 'it returns false'. Refute it at one input. -/
def fnExactLoadsByWrong : ChangeSpec := { name := "fnExactLoadsBy", fn := fun _ => fun
  | [d1, d2, d3] => { results := [.lit (.bool false)], args := [d1, d2, d3] }
  | _ => none }
def FnExactLoadsByWrongFalsely : Prop := fnExactLoadsByRow.holds Try.pinned (OpenSpec.ofChange fnExactLoadsByWrong)

/-- 'laws.FnExactTrucksFor': WHATEVER THE INPUT: true; the input reads as it did. -/
def fnExactTrucksForSpec : ChangeSpec := { name := "fnExactTrucksFor", fn := fun _ => fun
  | [d1, d2, d3] => { results := [.lit (.bool true)], args := [d1, d2, d3] }
  | _ => none }
def fnExactTrucksForRow : OpenClaim := { program := "ytociipogjmidiaa", sum := "64364a132c914d2fb133a230e379824b21e52ac8eb7fd77828337370fcd166c2", func := "loop.example/g00914/laws.FnExactTrucksFor", spec := "fnExactTrucksFor", apart := false }
def FnExactTrucksForSaid : Prop := fnExactTrucksForRow.holds Try.pinned (OpenSpec.ofChange fnExactTrucksForSpec)

/-- ITS FALSE NEIGHBOUR: 'it returns false'. Refute it at one input. -/
def fnExactTrucksForWrong : ChangeSpec := { name := "fnExactTrucksFor", fn := fun _ => fun
  | [d1, d2, d3] => { results := [.lit (.bool false)], args := [d1, d2, d3] }
  | _ => none }
def FnExactTrucksForWrongFalsely : Prop := fnExactTrucksForRow.holds Try.pinned (OpenSpec.ofChange fnExactTrucksForWrong)

/-- 'laws.FnExactDumpTimes': WHATEVER THE INPUT: true; the input reads as it did. -/
def fnExactDumpTimesSpec : ChangeSpec := { name := "fnExactDumpTimes", fn := fun _ => fun
  | [d1, d2, d3] => { results := [.lit (.bool true)], args := [d1, d2, d3] }
  | _ => none }
def fnExactDumpTimesRow : OpenClaim := { program := "ytociipogjmidiaa", sum := "64364a132c914d2fb133a230e379824b21e52ac8eb7fd77828337370fcd166c2", func := "loop.example/g00914/laws.FnExactDumpTimes", spec := "fnExactDumpTimes", apart := false }
def FnExactDumpTimesSaid : Prop := fnExactDumpTimesRow.holds Try.pinned (OpenSpec.ofChange fnExactDumpTimesSpec)

/-- ITS FALSE NEIGHBOUR: 'it returns false'. Refute it at one input. -/
def fnExactDumpTimesWrong : ChangeSpec := { name := "fnExactDumpTimes", fn := fun _ => fun
  | [d1, d2, d3] => { results := [.lit (.bool false)], args := [d1, d2, d3] }
  | _ => none }
def FnExactDumpTimesWrongFalsely : Prop := fnExactDumpTimesRow.holds Try.pinned (OpenSpec.ofChange fnExactDumpTimesWrong)

/-- 'laws.FnCycles': WHATEVER THE INPUT: true; the input reads as it did. -/
def fnCyclesSpec : ChangeSpec := { name := "fnCycles", fn := fun _ => fun
  | [d1, d2] => { results := [.lit (.bool true)], args := [d1, d2] }
  | _ => none }
def fnCyclesRow : OpenClaim := { program := "ytociipogjmidiaa", sum := "64364a132c914d2fb133a230e379824b21e52ac8eb7fd77828337370fcd166c2", func := "loop.example/g00914/laws.FnCycles", spec := "fnCycles", apart := false }
def FnCyclesSaid : Prop := fnCyclesRow.holds Try.pinned (OpenSpec.ofChange fnCyclesSpec)

/-- ITS FALSE NEIGHBOUR: 'it returns false'. Refute it at one input. -/
def fnCyclesWrong : ChangeSpec := { name := "fnCycles", fn := fun _ => fun
  | [d1, d2] => { results := [.lit (.bool false)], args := [d1, d2] }
  | _ => none }
def FnCyclesWrongFalsely : Prop := fnCyclesRow.holds Try.pinned (OpenSpec.ofChange fnCyclesWrong)

/-- 'laws.FnTrucks': WHATEVER THE INPUT: true; the input reads as it did. -/
def fnTrucksSpec : ChangeSpec := { name := "fnTrucks", fn := fun _ => fun
  | [d1, d2] => { results := [.lit (.bool true)], args := [d1, d2] }
  | _ => none }
def fnTrucksRow : OpenClaim := { program := "ytociipogjmidiaa", sum := "64364a132c914d2fb133a230e379824b21e52ac8eb7fd77828337370fcd166c2", func := "loop.example/g00914/laws.FnTrucks", spec := "fnTrucks", apart := false }
def FnTrucksSaid : Prop := fnTrucksRow.holds Try.pinned (OpenSpec.ofChange fnTrucksSpec)

/-- ITS FALSE NEIGHBOUR: 'it returns false'. Refute it at one input. -/
def fnTrucksWrong : ChangeSpec := { name := "fnTrucks", fn := fun _ => fun
  | [d1, d2] => { results := [.lit (.bool false)], args := [d1, d2] }
  | _ => none }
def FnTrucksWrongFalsely : Prop := fnTrucksRow.holds Try.pinned (OpenSpec.ofChange fnTrucksWrong)

/- THE SECOND FORM. 'bulk': how many values and letters a reading holds, each counted each time it is reached (what is shared counts as often as it is met; a slice's spare places count too). A statement '..UptoSaid' is the law's where the arguments, and the package variables that the reading takes, are together of bulk at most 1048576: NARROWER than '..Said'. Prove '..Said' where nothing that the law and all that it calls make is longer than what came in: it says more and counts as full. Else prove '..UptoSaid'. A law counts once. -/
mutual
def uptoBulk {H : Type} : DataW H → Nat
  | .lit (.string bytes) => bytes.length + 1
  | .lit _ => 1
  | .nil => 1
  | .ptr d => uptoBulk d + 1
  | .slice elems spare => uptoBulkAll elems + uptoBulkAll spare + 1
  | .agg parts => uptoBulkAll parts + 1
  | .iface _ d => uptoBulk d + 1
  | .map entries => uptoBulkEntries entries + 1
  | .held _ => 1
def uptoBulkAll {H : Type} : List (DataW H) → Nat
  | [] => 0
  | d :: r => uptoBulk d + uptoBulkAll r
def uptoBulkEntries {H : Type} : List (Lit × DataW H) → Nat
  | [] => 0
  | x :: r => uptoBulkEntry x + uptoBulkEntries r
def uptoBulkEntry {H : Type} : Lit × DataW H → Nat
  | (.string bytes, d) => bytes.length + uptoBulk d + 1
  | (_, d) => uptoBulk d + 1
 end
def uptoSmall : (H : Type) → List (DataW H) → Bool := fun _ ds => decide (uptoBulkAll ds ≤ 1048576)
def OpenSpec.upto (s : _root_.Go.ChangeSpec) : _root_.Go.OpenSpec := { _root_.Go.OpenSpec.ofChange s with cond := some uptoSmall }

/-- 'laws.FnExactIsCycle', WHERE WHAT IT READS IS OF BULK AT MOST 1048576: true; the input reads as it did. -/
def fnExactIsCycleUptoRow : OpenClaim := { program := "ytociipogjmidiaa", sum := "64364a132c914d2fb133a230e379824b21e52ac8eb7fd77828337370fcd166c2", func := "loop.example/g00914/laws.FnExactIsCycle", spec := "fnExactIsCycle", apart := false, narrowed := true }
def FnExactIsCycleUptoSaid : Prop := fnExactIsCycleUptoRow.holds Try.pinned (OpenSpec.upto fnExactIsCycleSpec)

/-- 'laws.FnExactCycleTime', WHERE WHAT IT READS IS OF BULK AT MOST 1048576: true; the input reads as it did. -/
def fnExactCycleTimeUptoRow : OpenClaim := { program := "ytociipogjmidiaa", sum := "64364a132c914d2fb133a230e379824b21e52ac8eb7fd77828337370fcd166c2", func := "loop.example/g00914/laws.FnExactCycleTime", spec := "fnExactCycleTime", apart := false, narrowed := true }
def FnExactCycleTimeUptoSaid : Prop := fnExactCycleTimeUptoRow.holds Try.pinned (OpenSpec.upto fnExactCycleTimeSpec)

/-- 'laws.FnExactRoundTime', WHERE WHAT IT READS IS OF BULK AT MOST 1048576: true; the input reads as it did. -/
def fnExactRoundTimeUptoRow : OpenClaim := { program := "ytociipogjmidiaa", sum := "64364a132c914d2fb133a230e379824b21e52ac8eb7fd77828337370fcd166c2", func := "loop.example/g00914/laws.FnExactRoundTime", spec := "fnExactRoundTime", apart := false, narrowed := true }
def FnExactRoundTimeUptoSaid : Prop := fnExactRoundTimeUptoRow.holds Try.pinned (OpenSpec.upto fnExactRoundTimeSpec)

/-- 'laws.FnExactLeastTrucks', WHERE WHAT IT READS IS OF BULK AT MOST 1048576: true; the input reads as it did. -/
def fnExactLeastTrucksUptoRow : OpenClaim := { program := "ytociipogjmidiaa", sum := "64364a132c914d2fb133a230e379824b21e52ac8eb7fd77828337370fcd166c2", func := "loop.example/g00914/laws.FnExactLeastTrucks", spec := "fnExactLeastTrucks", apart := false, narrowed := true }
def FnExactLeastTrucksUptoSaid : Prop := fnExactLeastTrucksUptoRow.holds Try.pinned (OpenSpec.upto fnExactLeastTrucksSpec)

/-- 'laws.FnExactMatchFactor', WHERE WHAT IT READS IS OF BULK AT MOST 1048576: true; the input reads as it did. -/
def fnExactMatchFactorUptoRow : OpenClaim := { program := "ytociipogjmidiaa", sum := "64364a132c914d2fb133a230e379824b21e52ac8eb7fd77828337370fcd166c2", func := "loop.example/g00914/laws.FnExactMatchFactor", spec := "fnExactMatchFactor", apart := false, narrowed := true }
def FnExactMatchFactorUptoSaid : Prop := fnExactMatchFactorUptoRow.holds Try.pinned (OpenSpec.upto fnExactMatchFactorSpec)

/-- 'laws.FnExactWaitingTime', WHERE WHAT IT READS IS OF BULK AT MOST 1048576: true; the input reads as it did. -/
def fnExactWaitingTimeUptoRow : OpenClaim := { program := "ytociipogjmidiaa", sum := "64364a132c914d2fb133a230e379824b21e52ac8eb7fd77828337370fcd166c2", func := "loop.example/g00914/laws.FnExactWaitingTime", spec := "fnExactWaitingTime", apart := false, narrowed := true }
def FnExactWaitingTimeUptoSaid : Prop := fnExactWaitingTimeUptoRow.holds Try.pinned (OpenSpec.upto fnExactWaitingTimeSpec)

/-- 'laws.FnExactShovelIdle', WHERE WHAT IT READS IS OF BULK AT MOST 1048576: true; the input reads as it did. -/
def fnExactShovelIdleUptoRow : OpenClaim := { program := "ytociipogjmidiaa", sum := "64364a132c914d2fb133a230e379824b21e52ac8eb7fd77828337370fcd166c2", func := "loop.example/g00914/laws.FnExactShovelIdle", spec := "fnExactShovelIdle", apart := false, narrowed := true }
def FnExactShovelIdleUptoSaid : Prop := fnExactShovelIdleUptoRow.holds Try.pinned (OpenSpec.upto fnExactShovelIdleSpec)

/-- 'laws.FnExactLoadsBy', WHERE WHAT IT READS IS OF BULK AT MOST 1048576: true; the input reads as it did. -/
def fnExactLoadsByUptoRow : OpenClaim := { program := "ytociipogjmidiaa", sum := "64364a132c914d2fb133a230e379824b21e52ac8eb7fd77828337370fcd166c2", func := "loop.example/g00914/laws.FnExactLoadsBy", spec := "fnExactLoadsBy", apart := false, narrowed := true }
def FnExactLoadsByUptoSaid : Prop := fnExactLoadsByUptoRow.holds Try.pinned (OpenSpec.upto fnExactLoadsBySpec)

/-- 'laws.FnExactTrucksFor', WHERE WHAT IT READS IS OF BULK AT MOST 1048576: true; the input reads as it did. -/
def fnExactTrucksForUptoRow : OpenClaim := { program := "ytociipogjmidiaa", sum := "64364a132c914d2fb133a230e379824b21e52ac8eb7fd77828337370fcd166c2", func := "loop.example/g00914/laws.FnExactTrucksFor", spec := "fnExactTrucksFor", apart := false, narrowed := true }
def FnExactTrucksForUptoSaid : Prop := fnExactTrucksForUptoRow.holds Try.pinned (OpenSpec.upto fnExactTrucksForSpec)

/-- 'laws.FnExactDumpTimes', WHERE WHAT IT READS IS OF BULK AT MOST 1048576: true; the input reads as it did. -/
def fnExactDumpTimesUptoRow : OpenClaim := { program := "ytociipogjmidiaa", sum := "64364a132c914d2fb133a230e379824b21e52ac8eb7fd77828337370fcd166c2", func := "loop.example/g00914/laws.FnExactDumpTimes", spec := "fnExactDumpTimes", apart := false, narrowed := true }
def FnExactDumpTimesUptoSaid : Prop := fnExactDumpTimesUptoRow.holds Try.pinned (OpenSpec.upto fnExactDumpTimesSpec)

/-- 'laws.FnCycles', WHERE WHAT IT READS IS OF BULK AT MOST 1048576: true; the input reads as it did. -/
def fnCyclesUptoRow : OpenClaim := { program := "ytociipogjmidiaa", sum := "64364a132c914d2fb133a230e379824b21e52ac8eb7fd77828337370fcd166c2", func := "loop.example/g00914/laws.FnCycles", spec := "fnCycles", apart := false, narrowed := true }
def FnCyclesUptoSaid : Prop := fnCyclesUptoRow.holds Try.pinned (OpenSpec.upto fnCyclesSpec)

/-- 'laws.FnTrucks', WHERE WHAT IT READS IS OF BULK AT MOST 1048576: true; the input reads as it did. -/
def fnTrucksUptoRow : OpenClaim := { program := "ytociipogjmidiaa", sum := "64364a132c914d2fb133a230e379824b21e52ac8eb7fd77828337370fcd166c2", func := "loop.example/g00914/laws.FnTrucks", spec := "fnTrucks", apart := false, narrowed := true }
def FnTrucksUptoSaid : Prop := fnTrucksUptoRow.holds Try.pinned (OpenSpec.upto fnTrucksSpec)

end Rows
end Go.Proofs.Ytociipogjmidiaa
