/-
  No cell of these rows narrows 'for every input' (looked for: loops, veiled, ifaces, maps, wideKeys, modest, calm, conditions, laid).
  DERIVED. THE GIVEN ROWS OF THIS SEAT. 13 by the template 'for every input the law returns true; each argument reads behind the call as it read before'; 0 by the template 'total and deterministic' (their statements: YtikbfnbfbpnmjaaTotals.lean).
  GIVEN WITH THE SEED: the statements are not yours to turn. If you find one false, say at which input.
  Laid BY PROGRAM, IN A SANDBOX (cutbox-rows.mjs): the forced cells as the released guide's own fill.sh prints them over the translation 29c1fc315d05925a… (all of the seat's roots in one cut). By AI agents, Wed Nov 11 2026. No macro, syntax, notation, axiom, sorry.
-/
import Derived.Test.YtikbfnbfbpnmjaaChecked
import GoSem.Claim
import GoSem.ClaimJoined
import GoSem.ClaimMapViews
import Derived.JoinedTies
import Derived.KernelRfl
namespace Go.Proofs.Ytikbfnbfbpnmjaa
/- THE CELL 'sum', in the pinned program and in every row, IS THE sha256 OF THE DUMP (.gsa) THAT YtikbfnbfbpnmjaaProg.lean LOADS. Nothing in Lean hashes anything: it is a label: what it is worth is what the hold of that sum in a sandbox is worth. -/
noncomputable def Try.pinned : Pinned := { name := "ytikbfnbfbpnmjaa", sum := "29c1fc315d05925a99b6c2851402b852064e145d136942e9893cdf13e53df5ff", checked := Try.checked }
namespace Rows
def none {H : Type} : Left H := { results := [], args := [] }

/-- 'laws.FnExactIsFleet': WHATEVER THE INPUT: true; the input reads as it did. -/
def fnExactIsFleetSpec : ChangeSpec := { name := "fnExactIsFleet", fn := fun _ => fun
  | [d] => { results := [.lit (.bool true)], args := [d] }
  | _ => none }
def fnExactIsFleetRow : OpenClaim := { program := "ytikbfnbfbpnmjaa", sum := "29c1fc315d05925a99b6c2851402b852064e145d136942e9893cdf13e53df5ff", func := "loop.example/g00914/laws.FnExactIsFleet", spec := "fnExactIsFleet", apart := false }
def FnExactIsFleetSaid : Prop := fnExactIsFleetRow.holds Try.pinned (OpenSpec.ofChange fnExactIsFleetSpec)

/-- ITS FALSE NEIGHBOUR: 'it returns false'. Refute it at one input. -/
def fnExactIsFleetWrong : ChangeSpec := { name := "fnExactIsFleet", fn := fun _ => fun
  | [d] => { results := [.lit (.bool false)], args := [d] }
  | _ => none }
def FnExactIsFleetWrongFalsely : Prop := fnExactIsFleetRow.holds Try.pinned (OpenSpec.ofChange fnExactIsFleetWrong)

/-- 'laws.FnExactFreeCycle': WHATEVER THE INPUT: true; the input reads as it did. -/
def fnExactFreeCycleSpec : ChangeSpec := { name := "fnExactFreeCycle", fn := fun _ => fun
  | [d1, d2] => { results := [.lit (.bool true)], args := [d1, d2] }
  | _ => none }
def fnExactFreeCycleRow : OpenClaim := { program := "ytikbfnbfbpnmjaa", sum := "29c1fc315d05925a99b6c2851402b852064e145d136942e9893cdf13e53df5ff", func := "loop.example/g00914/laws.FnExactFreeCycle", spec := "fnExactFreeCycle", apart := false }
def FnExactFreeCycleSaid : Prop := fnExactFreeCycleRow.holds Try.pinned (OpenSpec.ofChange fnExactFreeCycleSpec)

/-- ITS FALSE NEIGHBOUR: 'it returns false'. Refute it at one input. -/
def fnExactFreeCycleWrong : ChangeSpec := { name := "fnExactFreeCycle", fn := fun _ => fun
  | [d1, d2] => { results := [.lit (.bool false)], args := [d1, d2] }
  | _ => none }
def FnExactFreeCycleWrongFalsely : Prop := fnExactFreeCycleRow.holds Try.pinned (OpenSpec.ofChange fnExactFreeCycleWrong)

/-- 'laws.FnExactMostDumps': WHATEVER THE INPUT: true; the input reads as it did. -/
def fnExactMostDumpsSpec : ChangeSpec := { name := "fnExactMostDumps", fn := fun _ => fun
  | [d1, d2, d3] => { results := [.lit (.bool true)], args := [d1, d2, d3] }
  | _ => none }
def fnExactMostDumpsRow : OpenClaim := { program := "ytikbfnbfbpnmjaa", sum := "29c1fc315d05925a99b6c2851402b852064e145d136942e9893cdf13e53df5ff", func := "loop.example/g00914/laws.FnExactMostDumps", spec := "fnExactMostDumps", apart := false }
def FnExactMostDumpsSaid : Prop := fnExactMostDumpsRow.holds Try.pinned (OpenSpec.ofChange fnExactMostDumpsSpec)

/-- ITS FALSE NEIGHBOUR: 'it returns false'. Refute it at one input. -/
def fnExactMostDumpsWrong : ChangeSpec := { name := "fnExactMostDumps", fn := fun _ => fun
  | [d1, d2, d3] => { results := [.lit (.bool false)], args := [d1, d2, d3] }
  | _ => none }
def FnExactMostDumpsWrongFalsely : Prop := fnExactMostDumpsRow.holds Try.pinned (OpenSpec.ofChange fnExactMostDumpsWrong)

/-- 'laws.FnExactIsYard': WHATEVER THE INPUT: true; the input reads as it did. -/
def fnExactIsYardSpec : ChangeSpec := { name := "fnExactIsYard", fn := fun _ => fun
  | [d] => { results := [.lit (.bool true)], args := [d] }
  | _ => none }
def fnExactIsYardRow : OpenClaim := { program := "ytikbfnbfbpnmjaa", sum := "29c1fc315d05925a99b6c2851402b852064e145d136942e9893cdf13e53df5ff", func := "loop.example/g00914/laws.FnExactIsYard", spec := "fnExactIsYard", unfollowed := true, recurses := true, apart := false }
def FnExactIsYardSaid : Prop := fnExactIsYardRow.holds Try.pinned (OpenSpec.ofChange fnExactIsYardSpec)

/-- ITS FALSE NEIGHBOUR: 'it returns false'. Refute it at one input. -/
def fnExactIsYardWrong : ChangeSpec := { name := "fnExactIsYard", fn := fun _ => fun
  | [d] => { results := [.lit (.bool false)], args := [d] }
  | _ => none }
def FnExactIsYardWrongFalsely : Prop := fnExactIsYardRow.holds Try.pinned (OpenSpec.ofChange fnExactIsYardWrong)

/-- 'laws.FnExactTonnesDumped': WHATEVER THE INPUT: true; the input reads as it did. -/
def fnExactTonnesDumpedSpec : ChangeSpec := { name := "fnExactTonnesDumped", fn := fun _ => fun
  | [d] => { results := [.lit (.bool true)], args := [d] }
  | _ => none }
def fnExactTonnesDumpedRow : OpenClaim := { program := "ytikbfnbfbpnmjaa", sum := "29c1fc315d05925a99b6c2851402b852064e145d136942e9893cdf13e53df5ff", func := "loop.example/g00914/laws.FnExactTonnesDumped", spec := "fnExactTonnesDumped", unfollowed := true, recurses := true, apart := false }
def FnExactTonnesDumpedSaid : Prop := fnExactTonnesDumpedRow.holds Try.pinned (OpenSpec.ofChange fnExactTonnesDumpedSpec)

/-- ITS FALSE NEIGHBOUR: 'it returns false'. Refute it at one input. -/
def fnExactTonnesDumpedWrong : ChangeSpec := { name := "fnExactTonnesDumped", fn := fun _ => fun
  | [d] => { results := [.lit (.bool false)], args := [d] }
  | _ => none }
def FnExactTonnesDumpedWrongFalsely : Prop := fnExactTonnesDumpedRow.holds Try.pinned (OpenSpec.ofChange fnExactTonnesDumpedWrong)

/-- 'laws.FnExactCountStates': WHATEVER THE INPUT: true; the input reads as it did. -/
def fnExactCountStatesSpec : ChangeSpec := { name := "fnExactCountStates", fn := fun _ => fun
  | [d] => { results := [.lit (.bool true)], args := [d] }
  | _ => none }
def fnExactCountStatesRow : OpenClaim := { program := "ytikbfnbfbpnmjaa", sum := "29c1fc315d05925a99b6c2851402b852064e145d136942e9893cdf13e53df5ff", func := "loop.example/g00914/laws.FnExactCountStates", spec := "fnExactCountStates", unfollowed := true, recurses := true, apart := false }
def FnExactCountStatesSaid : Prop := fnExactCountStatesRow.holds Try.pinned (OpenSpec.ofChange fnExactCountStatesSpec)

/-- ITS FALSE NEIGHBOUR: 'it returns false'. Refute it at one input. -/
def fnExactCountStatesWrong : ChangeSpec := { name := "fnExactCountStates", fn := fun _ => fun
  | [d] => { results := [.lit (.bool false)], args := [d] }
  | _ => none }
def FnExactCountStatesWrongFalsely : Prop := fnExactCountStatesRow.holds Try.pinned (OpenSpec.ofChange fnExactCountStatesWrong)

/-- 'laws.FnExactChooseShovel': WHATEVER THE INPUT: true; the input reads as it did. -/
def fnExactChooseShovelSpec : ChangeSpec := { name := "fnExactChooseShovel", fn := fun _ => fun
  | [d] => { results := [.lit (.bool true)], args := [d] }
  | _ => none }
def fnExactChooseShovelRow : OpenClaim := { program := "ytikbfnbfbpnmjaa", sum := "29c1fc315d05925a99b6c2851402b852064e145d136942e9893cdf13e53df5ff", func := "loop.example/g00914/laws.FnExactChooseShovel", spec := "fnExactChooseShovel", unfollowed := true, recurses := true, apart := false }
def FnExactChooseShovelSaid : Prop := fnExactChooseShovelRow.holds Try.pinned (OpenSpec.ofChange fnExactChooseShovelSpec)

/-- ITS FALSE NEIGHBOUR: 'it returns false'. Refute it at one input. -/
def fnExactChooseShovelWrong : ChangeSpec := { name := "fnExactChooseShovel", fn := fun _ => fun
  | [d] => { results := [.lit (.bool false)], args := [d] }
  | _ => none }
def FnExactChooseShovelWrongFalsely : Prop := fnExactChooseShovelRow.holds Try.pinned (OpenSpec.ofChange fnExactChooseShovelWrong)

/-- 'laws.FnExactNewYard': WHATEVER THE INPUT: true; the input reads as it did. -/
def fnExactNewYardSpec : ChangeSpec := { name := "fnExactNewYard", fn := fun _ => fun
  | [d1, d2] => { results := [.lit (.bool true)], args := [d1, d2] }
  | _ => none }
def fnExactNewYardRow : OpenClaim := { program := "ytikbfnbfbpnmjaa", sum := "29c1fc315d05925a99b6c2851402b852064e145d136942e9893cdf13e53df5ff", func := "loop.example/g00914/laws.FnExactNewYard", spec := "fnExactNewYard", apart := false }
def FnExactNewYardSaid : Prop := fnExactNewYardRow.holds Try.pinned (OpenSpec.ofChange fnExactNewYardSpec)

/-- ITS FALSE NEIGHBOUR: 'it returns false'. Refute it at one input. -/
def fnExactNewYardWrong : ChangeSpec := { name := "fnExactNewYard", fn := fun _ => fun
  | [d1, d2] => { results := [.lit (.bool false)], args := [d1, d2] }
  | _ => none }
def FnExactNewYardWrongFalsely : Prop := fnExactNewYardRow.holds Try.pinned (OpenSpec.ofChange fnExactNewYardWrong)

/-- 'laws.FnExactStepYard': WHATEVER THE INPUT: true; the input reads as it did. -/
def fnExactStepYardSpec : ChangeSpec := { name := "fnExactStepYard", fn := fun _ => fun
  | [d] => { results := [.lit (.bool true)], args := [d] }
  | _ => none }
def fnExactStepYardRow : OpenClaim := { program := "ytikbfnbfbpnmjaa", sum := "29c1fc315d05925a99b6c2851402b852064e145d136942e9893cdf13e53df5ff", func := "loop.example/g00914/laws.FnExactStepYard", spec := "fnExactStepYard", unfollowed := true, recurses := true, apart := false }
def FnExactStepYardSaid : Prop := fnExactStepYardRow.holds Try.pinned (OpenSpec.ofChange fnExactStepYardSpec)

/-- ITS FALSE NEIGHBOUR: 'it returns false'. Refute it at one input. -/
def fnExactStepYardWrong : ChangeSpec := { name := "fnExactStepYard", fn := fun _ => fun
  | [d] => { results := [.lit (.bool false)], args := [d] }
  | _ => none }
def FnExactStepYardWrongFalsely : Prop := fnExactStepYardRow.holds Try.pinned (OpenSpec.ofChange fnExactStepYardWrong)

/-- 'laws.FnExactRunYard': WHATEVER THE INPUT: true; the input reads as it did. -/
def fnExactRunYardSpec : ChangeSpec := { name := "fnExactRunYard", fn := fun _ => fun
  | [d1, d2] => { results := [.lit (.bool true)], args := [d1, d2] }
  | _ => none }
def fnExactRunYardRow : OpenClaim := { program := "ytikbfnbfbpnmjaa", sum := "29c1fc315d05925a99b6c2851402b852064e145d136942e9893cdf13e53df5ff", func := "loop.example/g00914/laws.FnExactRunYard", spec := "fnExactRunYard", unfollowed := true, recurses := true, apart := false }
def FnExactRunYardSaid : Prop := fnExactRunYardRow.holds Try.pinned (OpenSpec.ofChange fnExactRunYardSpec)

/-- ITS FALSE NEIGHBOUR: 'it returns false'. Refute it at one input. -/
def fnExactRunYardWrong : ChangeSpec := { name := "fnExactRunYard", fn := fun _ => fun
  | [d1, d2] => { results := [.lit (.bool false)], args := [d1, d2] }
  | _ => none }
def FnExactRunYardWrongFalsely : Prop := fnExactRunYardRow.holds Try.pinned (OpenSpec.ofChange fnExactRunYardWrong)

/-- 'laws.FnExactDumpTicks': WHATEVER THE INPUT: true; the input reads as it did. -/
def fnExactDumpTicksSpec : ChangeSpec := { name := "fnExactDumpTicks", fn := fun _ => fun
  | [d1, d2] => { results := [.lit (.bool true)], args := [d1, d2] }
  | _ => none }
def fnExactDumpTicksRow : OpenClaim := { program := "ytikbfnbfbpnmjaa", sum := "29c1fc315d05925a99b6c2851402b852064e145d136942e9893cdf13e53df5ff", func := "loop.example/g00914/laws.FnExactDumpTicks", spec := "fnExactDumpTicks", unfollowed := true, recurses := true, apart := false }
def FnExactDumpTicksSaid : Prop := fnExactDumpTicksRow.holds Try.pinned (OpenSpec.ofChange fnExactDumpTicksSpec)

/-- ITS FALSE NEIGHBOUR: 'it returns false'. Refute it at one input. -/
def fnExactDumpTicksWrong : ChangeSpec := { name := "fnExactDumpTicks", fn := fun _ => fun
  | [d1, d2] => { results := [.lit (.bool false)], args := [d1, d2] }
  | _ => none }
def FnExactDumpTicksWrongFalsely : Prop := fnExactDumpTicksRow.holds Try.pinned (OpenSpec.ofChange fnExactDumpTicksWrong)

/-- 'laws.FnYards': WHATEVER THE INPUT: true; the input reads as it did. -/
def fnYardsSpec : ChangeSpec := { name := "fnYards", fn := fun _ => fun
  | [d1, d2] => { results := [.lit (.bool true)], args := [d1, d2] }
  | _ => none }
def fnYardsRow : OpenClaim := { program := "ytikbfnbfbpnmjaa", sum := "29c1fc315d05925a99b6c2851402b852064e145d136942e9893cdf13e53df5ff", func := "loop.example/g00914/laws.FnYards", spec := "fnYards", unfollowed := true, recurses := true, apart := false }
def FnYardsSaid : Prop := fnYardsRow.holds Try.pinned (OpenSpec.ofChange fnYardsSpec)

/-- ITS FALSE NEIGHBOUR: 'it returns false'. Refute it at one input. -/
def fnYardsWrong : ChangeSpec := { name := "fnYards", fn := fun _ => fun
  | [d1, d2] => { results := [.lit (.bool false)], args := [d1, d2] }
  | _ => none }
def FnYardsWrongFalsely : Prop := fnYardsRow.holds Try.pinned (OpenSpec.ofChange fnYardsWrong)

/-- 'laws.FnDumps': WHATEVER THE INPUT: true; the input reads as it did. -/
def fnDumpsSpec : ChangeSpec := { name := "fnDumps", fn := fun _ => fun
  | [d1, d2] => { results := [.lit (.bool true)], args := [d1, d2] }
  | _ => none }
def fnDumpsRow : OpenClaim := { program := "ytikbfnbfbpnmjaa", sum := "29c1fc315d05925a99b6c2851402b852064e145d136942e9893cdf13e53df5ff", func := "loop.example/g00914/laws.FnDumps", spec := "fnDumps", unfollowed := true, recurses := true, apart := false }
def FnDumpsSaid : Prop := fnDumpsRow.holds Try.pinned (OpenSpec.ofChange fnDumpsSpec)

/-- ITS FALSE NEIGHBOUR: 'it returns false'. Refute it at one input. -/
def fnDumpsWrong : ChangeSpec := { name := "fnDumps", fn := fun _ => fun
  | [d1, d2] => { results := [.lit (.bool false)], args := [d1, d2] }
  | _ => none }
def FnDumpsWrongFalsely : Prop := fnDumpsRow.holds Try.pinned (OpenSpec.ofChange fnDumpsWrong)

/- THE SECOND FORM. 'bulk': how many values and letters a reading holds, each counted each time it is reached (what is shared counts as often as it is met; a slice's spare places count too). A statement '..UptoSaid' is the law's where the arguments, and the package variables that the reading takes, are together of bulk at most 1048576: NARROWER than '..Said'. Prove '..Said' where nothing that the law and all that it calls make is longer than what came in: it says more and counts as full. Else prove '..UptoSaid'. A law counts once. -/
mutual
def uptoBulk {H : Type} : DataW H → Nat
  | .lit (.string bytes) => bytes.length + 1
  | .lit _ => 1
  | .nil => 1
  | .ptr d => uptoBulk d + 1
  | .slice elems spare => uptoBulkAll elems + uptoBulkAll spare + 1
  | .agg parts => uptoBulkAll parts + 1
  | .iface _ d => uptoBulk d + 1
  | .map entries => uptoBulkEntries entries + 1
  | .held _ => 1
def uptoBulkAll {H : Type} : List (DataW H) → Nat
  | [] => 0
  | d :: r => uptoBulk d + uptoBulkAll r
def uptoBulkEntries {H : Type} : List (Lit × DataW H) → Nat
  | [] => 0
  | x :: r => uptoBulkEntry x + uptoBulkEntries r
def uptoBulkEntry {H : Type} : Lit × DataW H → Nat
  | (.string bytes, d) => bytes.length + uptoBulk d + 1
  | (_, d) => uptoBulk d + 1
 end
def uptoSmall : (H : Type) → List (DataW H) → Bool := fun _ ds => decide (uptoBulkAll ds ≤ 1048576)
def OpenSpec.upto (s : _root_.Go.ChangeSpec) : _root_.Go.OpenSpec := { _root_.Go.OpenSpec.ofChange s with cond := some uptoSmall }

/-- 'laws.FnExactIsFleet', WHERE WHAT IT READS IS OF BULK AT MOST 1048576: true; the input reads as it did. -/
def fnExactIsFleetUptoRow : OpenClaim := { program := "ytikbfnbfbpnmjaa", sum := "29c1fc315d05925a99b6c2851402b852064e145d136942e9893cdf13e53df5ff", func := "loop.example/g00914/laws.FnExactIsFleet", spec := "fnExactIsFleet", apart := false, narrowed := true }
def FnExactIsFleetUptoSaid : Prop := fnExactIsFleetUptoRow.holds Try.pinned (OpenSpec.upto fnExactIsFleetSpec)

/-- 'laws.FnExactFreeCycle', WHERE WHAT IT READS IS OF BULK AT MOST 1048576: true; the input reads as it did. -/
def fnExactFreeCycleUptoRow : OpenClaim := { program := "ytikbfnbfbpnmjaa", sum := "29c1fc315d05925a99b6c2851402b852064e145d136942e9893cdf13e53df5ff", func := "loop.example/g00914/laws.FnExactFreeCycle", spec := "fnExactFreeCycle", apart := false, narrowed := true }
def FnExactFreeCycleUptoSaid : Prop := fnExactFreeCycleUptoRow.holds Try.pinned (OpenSpec.upto fnExactFreeCycleSpec)

/-- 'laws.FnExactMostDumps', WHERE WHAT IT READS IS OF BULK AT MOST 1048576: true; the input reads as it did. -/
def fnExactMostDumpsUptoRow : OpenClaim := { program := "ytikbfnbfbpnmjaa", sum := "29c1fc315d05925a99b6c2851402b852064e145d136942e9893cdf13e53df5ff", func := "loop.example/g00914/laws.FnExactMostDumps", spec := "fnExactMostDumps", apart := false, narrowed := true }
def FnExactMostDumpsUptoSaid : Prop := fnExactMostDumpsUptoRow.holds Try.pinned (OpenSpec.upto fnExactMostDumpsSpec)

/-- 'laws.FnExactIsYard', WHERE WHAT IT READS IS OF BULK AT MOST 1048576: true; the input reads as it did. -/
def fnExactIsYardUptoRow : OpenClaim := { program := "ytikbfnbfbpnmjaa", sum := "29c1fc315d05925a99b6c2851402b852064e145d136942e9893cdf13e53df5ff", func := "loop.example/g00914/laws.FnExactIsYard", spec := "fnExactIsYard", unfollowed := true, recurses := true, apart := false, narrowed := true }
def FnExactIsYardUptoSaid : Prop := fnExactIsYardUptoRow.holds Try.pinned (OpenSpec.upto fnExactIsYardSpec)

/-- 'laws.FnExactTonnesDumped', WHERE WHAT IT READS IS OF BULK AT MOST 1048576: true; the input reads as it did. -/
def fnExactTonnesDumpedUptoRow : OpenClaim := { program := "ytikbfnbfbpnmjaa", sum := "29c1fc315d05925a99b6c2851402b852064e145d136942e9893cdf13e53df5ff", func := "loop.example/g00914/laws.FnExactTonnesDumped", spec := "fnExactTonnesDumped", unfollowed := true, recurses := true, apart := false, narrowed := true }
def FnExactTonnesDumpedUptoSaid : Prop := fnExactTonnesDumpedUptoRow.holds Try.pinned (OpenSpec.upto fnExactTonnesDumpedSpec)

/-- 'laws.FnExactCountStates', WHERE WHAT IT READS IS OF BULK AT MOST 1048576: true; the input reads as it did. -/
def fnExactCountStatesUptoRow : OpenClaim := { program := "ytikbfnbfbpnmjaa", sum := "29c1fc315d05925a99b6c2851402b852064e145d136942e9893cdf13e53df5ff", func := "loop.example/g00914/laws.FnExactCountStates", spec := "fnExactCountStates", unfollowed := true, recurses := true, apart := false, narrowed := true }
def FnExactCountStatesUptoSaid : Prop := fnExactCountStatesUptoRow.holds Try.pinned (OpenSpec.upto fnExactCountStatesSpec)

/-- 'laws.FnExactChooseShovel', WHERE WHAT IT READS IS OF BULK AT MOST 1048576: true; the input reads as it did. -/
def fnExactChooseShovelUptoRow : OpenClaim := { program := "ytikbfnbfbpnmjaa", sum := "29c1fc315d05925a99b6c2851402b852064e145d136942e9893cdf13e53df5ff", func := "loop.example/g00914/laws.FnExactChooseShovel", spec := "fnExactChooseShovel", unfollowed := true, recurses := true, apart := false, narrowed := true }
def FnExactChooseShovelUptoSaid : Prop := fnExactChooseShovelUptoRow.holds Try.pinned (OpenSpec.upto fnExactChooseShovelSpec)

/-- 'laws.FnExactNewYard', WHERE WHAT IT READS IS OF BULK AT MOST 1048576: true; the input reads as it did. -/
def fnExactNewYardUptoRow : OpenClaim := { program := "ytikbfnbfbpnmjaa", sum := "29c1fc315d05925a99b6c2851402b852064e145d136942e9893cdf13e53df5ff", func := "loop.example/g00914/laws.FnExactNewYard", spec := "fnExactNewYard", apart := false, narrowed := true }
def FnExactNewYardUptoSaid : Prop := fnExactNewYardUptoRow.holds Try.pinned (OpenSpec.upto fnExactNewYardSpec)

/-- 'laws.FnExactStepYard', WHERE WHAT IT READS IS OF BULK AT MOST 1048576: true; the input reads as it did. -/
def fnExactStepYardUptoRow : OpenClaim := { program := "ytikbfnbfbpnmjaa", sum := "29c1fc315d05925a99b6c2851402b852064e145d136942e9893cdf13e53df5ff", func := "loop.example/g00914/laws.FnExactStepYard", spec := "fnExactStepYard", unfollowed := true, recurses := true, apart := false, narrowed := true }
def FnExactStepYardUptoSaid : Prop := fnExactStepYardUptoRow.holds Try.pinned (OpenSpec.upto fnExactStepYardSpec)

/-- 'laws.FnExactRunYard', WHERE WHAT IT READS IS OF BULK AT MOST 1048576: true; the input reads as it did. -/
def fnExactRunYardUptoRow : OpenClaim := { program := "ytikbfnbfbpnmjaa", sum := "29c1fc315d05925a99b6c2851402b852064e145d136942e9893cdf13e53df5ff", func := "loop.example/g00914/laws.FnExactRunYard", spec := "fnExactRunYard", unfollowed := true, recurses := true, apart := false, narrowed := true }
def FnExactRunYardUptoSaid : Prop := fnExactRunYardUptoRow.holds Try.pinned (OpenSpec.upto fnExactRunYardSpec)

/-- 'laws.FnExactDumpTicks', WHERE WHAT IT READS IS OF BULK AT MOST 1048576: true; the input reads as it did. -/
def fnExactDumpTicksUptoRow : OpenClaim := { program := "ytikbfnbfbpnmjaa", sum := "29c1fc315d05925a99b6c2851402b852064e145d136942e9893cdf13e53df5ff", func := "loop.example/g00914/laws.FnExactDumpTicks", spec := "fnExactDumpTicks", unfollowed := true, recurses := true, apart := false, narrowed := true }
def FnExactDumpTicksUptoSaid : Prop := fnExactDumpTicksUptoRow.holds Try.pinned (OpenSpec.upto fnExactDumpTicksSpec)

/-- 'laws.FnYards', WHERE WHAT IT READS IS OF BULK AT MOST 1048576: true; the input reads as it did. -/
def fnYardsUptoRow : OpenClaim := { program := "ytikbfnbfbpnmjaa", sum := "29c1fc315d05925a99b6c2851402b852064e145d136942e9893cdf13e53df5ff", func := "loop.example/g00914/laws.FnYards", spec := "fnYards", unfollowed := true, recurses := true, apart := false, narrowed := true }
def FnYardsUptoSaid : Prop := fnYardsUptoRow.holds Try.pinned (OpenSpec.upto fnYardsSpec)

/-- 'laws.FnDumps', WHERE WHAT IT READS IS OF BULK AT MOST 1048576: true; the input reads as it did. -/
def fnDumpsUptoRow : OpenClaim := { program := "ytikbfnbfbpnmjaa", sum := "29c1fc315d05925a99b6c2851402b852064e145d136942e9893cdf13e53df5ff", func := "loop.example/g00914/laws.FnDumps", spec := "fnDumps", unfollowed := true, recurses := true, apart := false, narrowed := true }
def FnDumpsUptoSaid : Prop := fnDumpsUptoRow.holds Try.pinned (OpenSpec.upto fnDumpsSpec)

end Rows
end Go.Proofs.Ytikbfnbfbpnmjaa
