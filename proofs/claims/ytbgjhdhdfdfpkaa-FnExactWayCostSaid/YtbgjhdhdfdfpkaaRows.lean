/-
  No cell of these rows narrows 'for every input' (looked for: loops, veiled, ifaces, maps, wideKeys, modest, calm, conditions, laid).
  DERIVED. THE GIVEN ROWS OF THIS SEAT. 6 by the template 'for every input the law returns true; each argument reads behind the call as it read before'; 0 by the template 'total and deterministic' (their statements: YtbgjhdhdfdfpkaaTotals.lean).
  GIVEN WITH THE SEED: the statements are not yours to turn. If you find one false, say at which input.
  Laid BY PROGRAM, IN A SANDBOX (cutbox-rows.mjs): the forced cells as the released guide's own fill.sh prints them over the translation 68a3ce233b091e0b… (all of the seat's roots in one cut). By AI agents, Wed Nov 11 2026. No macro, syntax, notation, axiom, sorry.
-/
import Derived.Test.YtbgjhdhdfdfpkaaChecked
import GoSem.Claim
import GoSem.ClaimJoined
import GoSem.ClaimMapViews
import Derived.JoinedTies
import Derived.KernelRfl
namespace Go.Proofs.Ytbgjhdhdfdfpkaa
/- THE CELL 'sum', in the pinned program and in every row, IS THE sha256 OF THE DUMP (.gsa) THAT YtbgjhdhdfdfpkaaProg.lean LOADS. Nothing in Lean hashes anything: it is a label: what it is worth is what the hold of that sum in a sandbox is worth. -/
noncomputable def Try.pinned : Pinned := { name := "ytbgjhdhdfdfpkaa", sum := "68a3ce233b091e0bfe793f43977456b1144a3088ea2e413a1c76fe745c15f6c1", checked := Try.checked }
namespace Rows
def none {H : Type} : Left H := { results := [], args := [] }

/-- 'laws.FnExactIsTerrain': WHATEVER THE INPUT: true; the input reads as it did. -/
def fnExactIsTerrainSpec : ChangeSpec := { name := "fnExactIsTerrain", fn := fun _ => fun
  | [d] => { results := [.lit (.bool true)], args := [d] }
  | _ => none }
def fnExactIsTerrainRow : OpenClaim := { program := "ytbgjhdhdfdfpkaa", sum := "68a3ce233b091e0bfe793f43977456b1144a3088ea2e413a1c76fe745c15f6c1", func := "loop.example/g00914/laws.FnExactIsTerrain", spec := "fnExactIsTerrain", apart := false }
def FnExactIsTerrainSaid : Prop := fnExactIsTerrainRow.holds Try.pinned (OpenSpec.ofChange fnExactIsTerrainSpec)

/-- ITS FALSE NEIGHBOUR: 'it returns false'. Refute it at one input. -/
def fnExactIsTerrainWrong : ChangeSpec := { name := "fnExactIsTerrain", fn := fun _ => fun
  | [d] => { results := [.lit (.bool false)], args := [d] }
  | _ => none }
def FnExactIsTerrainWrongFalsely : Prop := fnExactIsTerrainRow.holds Try.pinned (OpenSpec.ofChange fnExactIsTerrainWrong)

/-- 'laws.FnExactSetHeight': WHATEVER THE INPUT: true; the input reads as it did. -/
def fnExactSetHeightSpec : ChangeSpec := { name := "fnExactSetHeight", fn := fun _ => fun
  | [d1, d2, d3] => { results := [.lit (.bool true)], args := [d1, d2, d3] }
  | _ => none }
def fnExactSetHeightRow : OpenClaim := { program := "ytbgjhdhdfdfpkaa", sum := "68a3ce233b091e0bfe793f43977456b1144a3088ea2e413a1c76fe745c15f6c1", func := "loop.example/g00914/laws.FnExactSetHeight", spec := "fnExactSetHeight", apart := false }
def FnExactSetHeightSaid : Prop := fnExactSetHeightRow.holds Try.pinned (OpenSpec.ofChange fnExactSetHeightSpec)

/-- ITS FALSE NEIGHBOUR: 'it returns false'. Refute it at one input. -/
def fnExactSetHeightWrong : ChangeSpec := { name := "fnExactSetHeight", fn := fun _ => fun
  | [d1, d2, d3] => { results := [.lit (.bool false)], args := [d1, d2, d3] }
  | _ => none }
def FnExactSetHeightWrongFalsely : Prop := fnExactSetHeightRow.holds Try.pinned (OpenSpec.ofChange fnExactSetHeightWrong)

/-- 'laws.FnExactStepCost': WHATEVER THE INPUT: true; the input reads as it did. -/
def fnExactStepCostSpec : ChangeSpec := { name := "fnExactStepCost", fn := fun _ => fun
  | [d1, d2, d3] => { results := [.lit (.bool true)], args := [d1, d2, d3] }
  | _ => none }
def fnExactStepCostRow : OpenClaim := { program := "ytbgjhdhdfdfpkaa", sum := "68a3ce233b091e0bfe793f43977456b1144a3088ea2e413a1c76fe745c15f6c1", func := "loop.example/g00914/laws.FnExactStepCost", spec := "fnExactStepCost", apart := false }
def FnExactStepCostSaid : Prop := fnExactStepCostRow.holds Try.pinned (OpenSpec.ofChange fnExactStepCostSpec)

/-- ITS FALSE NEIGHBOUR: 'it returns false'. Refute it at one input. -/
def fnExactStepCostWrong : ChangeSpec := { name := "fnExactStepCost", fn := fun _ => fun
  | [d1, d2, d3] => { results := [.lit (.bool false)], args := [d1, d2, d3] }
  | _ => none }
def FnExactStepCostWrongFalsely : Prop := fnExactStepCostRow.holds Try.pinned (OpenSpec.ofChange fnExactStepCostWrong)

/-- 'laws.FnExactIsWay': WHATEVER THE INPUT: true; the input reads as it did. -/
def fnExactIsWaySpec : ChangeSpec := { name := "fnExactIsWay", fn := fun _ => fun
  | [d1, d2] => { results := [.lit (.bool true)], args := [d1, d2] }
  | _ => none }
def fnExactIsWayRow : OpenClaim := { program := "ytbgjhdhdfdfpkaa", sum := "68a3ce233b091e0bfe793f43977456b1144a3088ea2e413a1c76fe745c15f6c1", func := "loop.example/g00914/laws.FnExactIsWay", spec := "fnExactIsWay", apart := false }
def FnExactIsWaySaid : Prop := fnExactIsWayRow.holds Try.pinned (OpenSpec.ofChange fnExactIsWaySpec)

/-- ITS FALSE NEIGHBOUR: 'it returns false'. Refute it at one input. -/
def fnExactIsWayWrong : ChangeSpec := { name := "fnExactIsWay", fn := fun _ => fun
  | [d1, d2] => { results := [.lit (.bool false)], args := [d1, d2] }
  | _ => none }
def FnExactIsWayWrongFalsely : Prop := fnExactIsWayRow.holds Try.pinned (OpenSpec.ofChange fnExactIsWayWrong)

/-- 'laws.FnExactTurnsOf': WHATEVER THE INPUT: true; the input reads as it did. -/
def fnExactTurnsOfSpec : ChangeSpec := { name := "fnExactTurnsOf", fn := fun _ => fun
  | [d1, d2] => { results := [.lit (.bool true)], args := [d1, d2] }
  | _ => none }
def fnExactTurnsOfRow : OpenClaim := { program := "ytbgjhdhdfdfpkaa", sum := "68a3ce233b091e0bfe793f43977456b1144a3088ea2e413a1c76fe745c15f6c1", func := "loop.example/g00914/laws.FnExactTurnsOf", spec := "fnExactTurnsOf", apart := false }
def FnExactTurnsOfSaid : Prop := fnExactTurnsOfRow.holds Try.pinned (OpenSpec.ofChange fnExactTurnsOfSpec)

/-- ITS FALSE NEIGHBOUR: 'it returns false'. Refute it at one input. -/
def fnExactTurnsOfWrong : ChangeSpec := { name := "fnExactTurnsOf", fn := fun _ => fun
  | [d1, d2] => { results := [.lit (.bool false)], args := [d1, d2] }
  | _ => none }
def FnExactTurnsOfWrongFalsely : Prop := fnExactTurnsOfRow.holds Try.pinned (OpenSpec.ofChange fnExactTurnsOfWrong)

/-- 'laws.FnExactWayCost': WHATEVER THE INPUT: true; the input reads as it did. -/
def fnExactWayCostSpec : ChangeSpec := { name := "fnExactWayCost", fn := fun _ => fun
  | [d1, d2] => { results := [.lit (.bool true)], args := [d1, d2] }
  | _ => none }
def fnExactWayCostRow : OpenClaim := { program := "ytbgjhdhdfdfpkaa", sum := "68a3ce233b091e0bfe793f43977456b1144a3088ea2e413a1c76fe745c15f6c1", func := "loop.example/g00914/laws.FnExactWayCost", spec := "fnExactWayCost", apart := false }
def FnExactWayCostSaid : Prop := fnExactWayCostRow.holds Try.pinned (OpenSpec.ofChange fnExactWayCostSpec)

/-- ITS FALSE NEIGHBOUR: 'it returns false'. Refute it at one input. -/
def fnExactWayCostWrong : ChangeSpec := { name := "fnExactWayCost", fn := fun _ => fun
  | [d1, d2] => { results := [.lit (.bool false)], args := [d1, d2] }
  | _ => none }
def FnExactWayCostWrongFalsely : Prop := fnExactWayCostRow.holds Try.pinned (OpenSpec.ofChange fnExactWayCostWrong)

/- THE SECOND FORM. 'bulk': how many values and letters a reading holds, each counted each time it is reached (what is shared counts as often as it is met; a slice's spare places count too). A statement '..UptoSaid' is the law's where the arguments, and the package variables that the reading takes, are together of bulk at most 1048576: NARROWER than '..Said'. Prove '..Said' where nothing that the law and all that it calls make is longer than what came in: it says more and counts as full. Else prove '..UptoSaid'. A law counts once. -/
mutual
def uptoBulk {H : Type} : DataW H → Nat
  | .lit (.string bytes) => bytes.length + 1
  | .lit _ => 1
  | .nil => 1
  | .ptr d => uptoBulk d + 1
  | .slice elems spare => uptoBulkAll elems + uptoBulkAll spare + 1
  | .agg parts => uptoBulkAll parts + 1
  | .iface _ d => uptoBulk d + 1
  | .map entries => uptoBulkEntries entries + 1
  | .held _ => 1
def uptoBulkAll {H : Type} : List (DataW H) → Nat
  | [] => 0
  | d :: r => uptoBulk d + uptoBulkAll r
def uptoBulkEntries {H : Type} : List (Lit × DataW H) → Nat
  | [] => 0
  | x :: r => uptoBulkEntry x + uptoBulkEntries r
def uptoBulkEntry {H : Type} : Lit × DataW H → Nat
  | (.string bytes, d) => bytes.length + uptoBulk d + 1
  | (_, d) => uptoBulk d + 1
 end
def uptoSmall : (H : Type) → List (DataW H) → Bool := fun _ ds => decide (uptoBulkAll ds ≤ 1048576)
def OpenSpec.upto (s : _root_.Go.ChangeSpec) : _root_.Go.OpenSpec := { _root_.Go.OpenSpec.ofChange s with cond := some uptoSmall }

/-- 'laws.FnExactIsTerrain', WHERE WHAT IT READS IS OF BULK AT MOST 1048576: true; the input reads as it did. -/
def fnExactIsTerrainUptoRow : OpenClaim := { program := "ytbgjhdhdfdfpkaa", sum := "68a3ce233b091e0bfe793f43977456b1144a3088ea2e413a1c76fe745c15f6c1", func := "loop.example/g00914/laws.FnExactIsTerrain", spec := "fnExactIsTerrain", apart := false, narrowed := true }
def FnExactIsTerrainUptoSaid : Prop := fnExactIsTerrainUptoRow.holds Try.pinned (OpenSpec.upto fnExactIsTerrainSpec)

/-- 'laws.FnExactSetHeight', WHERE WHAT IT READS IS OF BULK AT MOST 1048576: true; the input reads as it did. -/
def fnExactSetHeightUptoRow : OpenClaim := { program := "ytbgjhdhdfdfpkaa", sum := "68a3ce233b091e0bfe793f43977456b1144a3088ea2e413a1c76fe745c15f6c1", func := "loop.example/g00914/laws.FnExactSetHeight", spec := "fnExactSetHeight", apart := false, narrowed := true }
def FnExactSetHeightUptoSaid : Prop := fnExactSetHeightUptoRow.holds Try.pinned (OpenSpec.upto fnExactSetHeightSpec)

/-- 'laws.FnExactStepCost', WHERE WHAT IT READS IS OF BULK AT MOST 1048576: true; the input reads as it did. -/
def fnExactStepCostUptoRow : OpenClaim := { program := "ytbgjhdhdfdfpkaa", sum := "68a3ce233b091e0bfe793f43977456b1144a3088ea2e413a1c76fe745c15f6c1", func := "loop.example/g00914/laws.FnExactStepCost", spec := "fnExactStepCost", apart := false, narrowed := true }
def FnExactStepCostUptoSaid : Prop := fnExactStepCostUptoRow.holds Try.pinned (OpenSpec.upto fnExactStepCostSpec)

/-- 'laws.FnExactIsWay', WHERE WHAT IT READS IS OF BULK AT MOST 1048576: true; the input reads as it did. -/
def fnExactIsWayUptoRow : OpenClaim := { program := "ytbgjhdhdfdfpkaa", sum := "68a3ce233b091e0bfe793f43977456b1144a3088ea2e413a1c76fe745c15f6c1", func := "loop.example/g00914/laws.FnExactIsWay", spec := "fnExactIsWay", apart := false, narrowed := true }
def FnExactIsWayUptoSaid : Prop := fnExactIsWayUptoRow.holds Try.pinned (OpenSpec.upto fnExactIsWaySpec)

/-- 'laws.FnExactTurnsOf', WHERE WHAT IT READS IS OF BULK AT MOST 1048576: true; the input reads as it did. -/
def fnExactTurnsOfUptoRow : OpenClaim := { program := "ytbgjhdhdfdfpkaa", sum := "68a3ce233b091e0bfe793f43977456b1144a3088ea2e413a1c76fe745c15f6c1", func := "loop.example/g00914/laws.FnExactTurnsOf", spec := "fnExactTurnsOf", apart := false, narrowed := true }
def FnExactTurnsOfUptoSaid : Prop := fnExactTurnsOfUptoRow.holds Try.pinned (OpenSpec.upto fnExactTurnsOfSpec)

/-- 'laws.FnExactWayCost', WHERE WHAT IT READS IS OF BULK AT MOST 1048576: true; the input reads as it did. -/
def fnExactWayCostUptoRow : OpenClaim := { program := "ytbgjhdhdfdfpkaa", sum := "68a3ce233b091e0bfe793f43977456b1144a3088ea2e413a1c76fe745c15f6c1", func := "loop.example/g00914/laws.FnExactWayCost", spec := "fnExactWayCost", apart := false, narrowed := true }
def FnExactWayCostUptoSaid : Prop := fnExactWayCostUptoRow.holds Try.pinned (OpenSpec.upto fnExactWayCostSpec)

end Rows
end Go.Proofs.Ytbgjhdhdfdfpkaa
