/-
  No cell of these rows narrows 'for every input' (looked for: loops, veiled, ifaces, maps, wideKeys, modest, calm, conditions, laid).
  DERIVED. THE GIVEN ROWS OF THIS SEAT. 12 by the template 'for every input the law returns true; each argument reads behind the call as it read before'; 0 by the template 'total and deterministic' (their statements: YtjipboafhakjfaaTotals.lean).
  GIVEN WITH THE SEED: the statements are not yours to turn. If you find one false, say at which input.
  Laid BY PROGRAM, IN A SANDBOX (cutbox-rows.mjs): the forced cells as the released guide's own fill.sh prints them over the translation 0cbf9a836f5423f0… (all of the seat's roots in one cut). By AI agents, Wed Nov 11 2026. No macro, syntax, notation, axiom, sorry.
-/
import Derived.Test.YtjipboafhakjfaaChecked
import GoSem.Claim
import GoSem.ClaimJoined
import GoSem.ClaimMapViews
import Derived.JoinedTies
import Derived.KernelRfl
namespace Go.Proofs.Ytjipboafhakjfaa
/- THE CELL 'sum', in the pinned program and in every row, IS THE sha256 OF THE DUMP (.gsa) THAT YtjipboafhakjfaaProg.lean LOADS. Nothing in Lean hashes anything: it is a label: what it is worth is what the hold of that sum in a sandbox is worth. -/
noncomputable def Try.pinned : Pinned := { name := "ytjipboafhakjfaa", sum := "0cbf9a836f5423f0bff1f5014f41beb354f9253597897d7642da2a553764b5a7", checked := Try.checked }
namespace Rows
def none {H : Type} : Left H := { results := [], args := [] }

/-- 'laws.FnExactAreCosts': WHATEVER THE INPUT: true; the input reads as it did. -/
def fnExactAreCostsSpec : ChangeSpec := { name := "fnExactAreCosts", fn := fun _ => fun
  | [d] => { results := [.lit (.bool true)], args := [d] }
  | _ => none }
def fnExactAreCostsRow : OpenClaim := { program := "ytjipboafhakjfaa", sum := "0cbf9a836f5423f0bff1f5014f41beb354f9253597897d7642da2a553764b5a7", func := "loop.example/g00914/laws.FnExactAreCosts", spec := "fnExactAreCosts", apart := false }
def FnExactAreCostsSaid : Prop := fnExactAreCostsRow.holds Try.pinned (OpenSpec.ofChange fnExactAreCostsSpec)

/-- ITS FALSE NEIGHBOUR: 'it returns false'. Refute it at one input. -/
def fnExactAreCostsWrong : ChangeSpec := { name := "fnExactAreCosts", fn := fun _ => fun
  | [d] => { results := [.lit (.bool false)], args := [d] }
  | _ => none }
def FnExactAreCostsWrongFalsely : Prop := fnExactAreCostsRow.holds Try.pinned (OpenSpec.ofChange fnExactAreCostsWrong)

/-- 'laws.FnExactSwapSides': WHATEVER THE INPUT: true; the input reads as it did. -/
def fnExactSwapSidesSpec : ChangeSpec := { name := "fnExactSwapSides", fn := fun _ => fun
  | [d] => { results := [.lit (.bool true)], args := [d] }
  | _ => none }
def fnExactSwapSidesRow : OpenClaim := { program := "ytjipboafhakjfaa", sum := "0cbf9a836f5423f0bff1f5014f41beb354f9253597897d7642da2a553764b5a7", func := "loop.example/g00914/laws.FnExactSwapSides", spec := "fnExactSwapSides", apart := false }
def FnExactSwapSidesSaid : Prop := fnExactSwapSidesRow.holds Try.pinned (OpenSpec.ofChange fnExactSwapSidesSpec)

/-- ITS FALSE NEIGHBOUR: 'it returns false'. Refute it at one input. -/
def fnExactSwapSidesWrong : ChangeSpec := { name := "fnExactSwapSides", fn := fun _ => fun
  | [d] => { results := [.lit (.bool false)], args := [d] }
  | _ => none }
def FnExactSwapSidesWrongFalsely : Prop := fnExactSwapSidesRow.holds Try.pinned (OpenSpec.ofChange fnExactSwapSidesWrong)

/-- 'laws.FnExactArePreferences': WHATEVER THE INPUT: true; the input reads as it did. -/
def fnExactArePreferencesSpec : ChangeSpec := { name := "fnExactArePreferences", fn := fun _ => fun
  | [d] => { results := [.lit (.bool true)], args := [d] }
  | _ => none }
def fnExactArePreferencesRow : OpenClaim := { program := "ytjipboafhakjfaa", sum := "0cbf9a836f5423f0bff1f5014f41beb354f9253597897d7642da2a553764b5a7", func := "loop.example/g00914/laws.FnExactArePreferences", spec := "fnExactArePreferences", apart := false }
def FnExactArePreferencesSaid : Prop := fnExactArePreferencesRow.holds Try.pinned (OpenSpec.ofChange fnExactArePreferencesSpec)

/-- ITS FALSE NEIGHBOUR: 'it returns false'. Refute it at one input. -/
def fnExactArePreferencesWrong : ChangeSpec := { name := "fnExactArePreferences", fn := fun _ => fun
  | [d] => { results := [.lit (.bool false)], args := [d] }
  | _ => none }
def FnExactArePreferencesWrongFalsely : Prop := fnExactArePreferencesRow.holds Try.pinned (OpenSpec.ofChange fnExactArePreferencesWrong)

/-- 'laws.FnExactMatchCost': WHATEVER THE INPUT: true; the input reads as it did. -/
def fnExactMatchCostSpec : ChangeSpec := { name := "fnExactMatchCost", fn := fun _ => fun
  | [d1, d2] => { results := [.lit (.bool true)], args := [d1, d2] }
  | _ => none }
def fnExactMatchCostRow : OpenClaim := { program := "ytjipboafhakjfaa", sum := "0cbf9a836f5423f0bff1f5014f41beb354f9253597897d7642da2a553764b5a7", func := "loop.example/g00914/laws.FnExactMatchCost", spec := "fnExactMatchCost", apart := false }
def FnExactMatchCostSaid : Prop := fnExactMatchCostRow.holds Try.pinned (OpenSpec.ofChange fnExactMatchCostSpec)

/-- ITS FALSE NEIGHBOUR: 'it returns false'. Refute it at one input. -/
def fnExactMatchCostWrong : ChangeSpec := { name := "fnExactMatchCost", fn := fun _ => fun
  | [d1, d2] => { results := [.lit (.bool false)], args := [d1, d2] }
  | _ => none }
def FnExactMatchCostWrongFalsely : Prop := fnExactMatchCostRow.holds Try.pinned (OpenSpec.ofChange fnExactMatchCostWrong)

/-- 'laws.FnExactFirstComeMatch': WHATEVER THE INPUT: true; the input reads as it did. -/
def fnExactFirstComeMatchSpec : ChangeSpec := { name := "fnExactFirstComeMatch", fn := fun _ => fun
  | [d] => { results := [.lit (.bool true)], args := [d] }
  | _ => none }
def fnExactFirstComeMatchRow : OpenClaim := { program := "ytjipboafhakjfaa", sum := "0cbf9a836f5423f0bff1f5014f41beb354f9253597897d7642da2a553764b5a7", func := "loop.example/g00914/laws.FnExactFirstComeMatch", spec := "fnExactFirstComeMatch", apart := false }
def FnExactFirstComeMatchSaid : Prop := fnExactFirstComeMatchRow.holds Try.pinned (OpenSpec.ofChange fnExactFirstComeMatchSpec)

/-- ITS FALSE NEIGHBOUR: 'it returns false'. Refute it at one input. -/
def fnExactFirstComeMatchWrong : ChangeSpec := { name := "fnExactFirstComeMatch", fn := fun _ => fun
  | [d] => { results := [.lit (.bool false)], args := [d] }
  | _ => none }
def FnExactFirstComeMatchWrongFalsely : Prop := fnExactFirstComeMatchRow.holds Try.pinned (OpenSpec.ofChange fnExactFirstComeMatchWrong)

/-- 'laws.FnExactBlockingPairs': WHATEVER THE INPUT: true; the input reads as it did. -/
def fnExactBlockingPairsSpec : ChangeSpec := { name := "fnExactBlockingPairs", fn := fun _ => fun
  | [d1, d2, d3] => { results := [.lit (.bool true)], args := [d1, d2, d3] }
  | _ => none }
def fnExactBlockingPairsRow : OpenClaim := { program := "ytjipboafhakjfaa", sum := "0cbf9a836f5423f0bff1f5014f41beb354f9253597897d7642da2a553764b5a7", func := "loop.example/g00914/laws.FnExactBlockingPairs", spec := "fnExactBlockingPairs", apart := false }
def FnExactBlockingPairsSaid : Prop := fnExactBlockingPairsRow.holds Try.pinned (OpenSpec.ofChange fnExactBlockingPairsSpec)

/-- ITS FALSE NEIGHBOUR: 'it returns false'. Refute it at one input. -/
def fnExactBlockingPairsWrong : ChangeSpec := { name := "fnExactBlockingPairs", fn := fun _ => fun
  | [d1, d2, d3] => { results := [.lit (.bool false)], args := [d1, d2, d3] }
  | _ => none }
def FnExactBlockingPairsWrongFalsely : Prop := fnExactBlockingPairsRow.holds Try.pinned (OpenSpec.ofChange fnExactBlockingPairsWrong)

/-- 'laws.FnExactStableMatch': WHATEVER THE INPUT: true; the input reads as it did. -/
def fnExactStableMatchSpec : ChangeSpec := { name := "fnExactStableMatch", fn := fun _ => fun
  | [d1, d2] => { results := [.lit (.bool true)], args := [d1, d2] }
  | _ => none }
def fnExactStableMatchRow : OpenClaim := { program := "ytjipboafhakjfaa", sum := "0cbf9a836f5423f0bff1f5014f41beb354f9253597897d7642da2a553764b5a7", func := "loop.example/g00914/laws.FnExactStableMatch", spec := "fnExactStableMatch", apart := false }
def FnExactStableMatchSaid : Prop := fnExactStableMatchRow.holds Try.pinned (OpenSpec.ofChange fnExactStableMatchSpec)

/-- ITS FALSE NEIGHBOUR: 'it returns false'. Refute it at one input. -/
def fnExactStableMatchWrong : ChangeSpec := { name := "fnExactStableMatch", fn := fun _ => fun
  | [d1, d2] => { results := [.lit (.bool false)], args := [d1, d2] }
  | _ => none }
def FnExactStableMatchWrongFalsely : Prop := fnExactStableMatchRow.holds Try.pinned (OpenSpec.ofChange fnExactStableMatchWrong)

/-- 'laws.FnExactCheapestMatch': WHATEVER THE INPUT: true; the input reads as it did. -/
def fnExactCheapestMatchSpec : ChangeSpec := { name := "fnExactCheapestMatch", fn := fun _ => fun
  | [d] => { results := [.lit (.bool true)], args := [d] }
  | _ => none }
def fnExactCheapestMatchRow : OpenClaim := { program := "ytjipboafhakjfaa", sum := "0cbf9a836f5423f0bff1f5014f41beb354f9253597897d7642da2a553764b5a7", func := "loop.example/g00914/laws.FnExactCheapestMatch", spec := "fnExactCheapestMatch", unfollowed := true, recurses := true, apart := false }
def FnExactCheapestMatchSaid : Prop := fnExactCheapestMatchRow.holds Try.pinned (OpenSpec.ofChange fnExactCheapestMatchSpec)

/-- ITS FALSE NEIGHBOUR: 'it returns false'. Refute it at one input. -/
def fnExactCheapestMatchWrong : ChangeSpec := { name := "fnExactCheapestMatch", fn := fun _ => fun
  | [d] => { results := [.lit (.bool false)], args := [d] }
  | _ => none }
def FnExactCheapestMatchWrongFalsely : Prop := fnExactCheapestMatchRow.holds Try.pinned (OpenSpec.ofChange fnExactCheapestMatchWrong)

/-- 'laws.FnExactRegretOf': WHATEVER THE INPUT: true; the input reads as it did. -/
def fnExactRegretOfSpec : ChangeSpec := { name := "fnExactRegretOf", fn := fun _ => fun
  | [d] => { results := [.lit (.bool true)], args := [d] }
  | _ => none }
def fnExactRegretOfRow : OpenClaim := { program := "ytjipboafhakjfaa", sum := "0cbf9a836f5423f0bff1f5014f41beb354f9253597897d7642da2a553764b5a7", func := "loop.example/g00914/laws.FnExactRegretOf", spec := "fnExactRegretOf", unfollowed := true, recurses := true, apart := false }
def FnExactRegretOfSaid : Prop := fnExactRegretOfRow.holds Try.pinned (OpenSpec.ofChange fnExactRegretOfSpec)

/-- ITS FALSE NEIGHBOUR: 'it returns false'. Refute it at one input. -/
def fnExactRegretOfWrong : ChangeSpec := { name := "fnExactRegretOf", fn := fun _ => fun
  | [d] => { results := [.lit (.bool false)], args := [d] }
  | _ => none }
def FnExactRegretOfWrongFalsely : Prop := fnExactRegretOfRow.holds Try.pinned (OpenSpec.ofChange fnExactRegretOfWrong)

/-- 'laws.FnExactCountStable': WHATEVER THE INPUT: true; the input reads as it did. -/
def fnExactCountStableSpec : ChangeSpec := { name := "fnExactCountStable", fn := fun _ => fun
  | [d1, d2] => { results := [.lit (.bool true)], args := [d1, d2] }
  | _ => none }
def fnExactCountStableRow : OpenClaim := { program := "ytjipboafhakjfaa", sum := "0cbf9a836f5423f0bff1f5014f41beb354f9253597897d7642da2a553764b5a7", func := "loop.example/g00914/laws.FnExactCountStable", spec := "fnExactCountStable", unfollowed := true, recurses := true, apart := false }
def FnExactCountStableSaid : Prop := fnExactCountStableRow.holds Try.pinned (OpenSpec.ofChange fnExactCountStableSpec)

/-- ITS FALSE NEIGHBOUR: 'it returns false'. Refute it at one input. -/
def fnExactCountStableWrong : ChangeSpec := { name := "fnExactCountStable", fn := fun _ => fun
  | [d1, d2] => { results := [.lit (.bool false)], args := [d1, d2] }
  | _ => none }
def FnExactCountStableWrongFalsely : Prop := fnExactCountStableRow.holds Try.pinned (OpenSpec.ofChange fnExactCountStableWrong)

/-- 'laws.FnMatches': WHATEVER THE INPUT: true; the input reads as it did. -/
def fnMatchesSpec : ChangeSpec := { name := "fnMatches", fn := fun _ => fun
  | [d1, d2] => { results := [.lit (.bool true)], args := [d1, d2] }
  | _ => none }
def fnMatchesRow : OpenClaim := { program := "ytjipboafhakjfaa", sum := "0cbf9a836f5423f0bff1f5014f41beb354f9253597897d7642da2a553764b5a7", func := "loop.example/g00914/laws.FnMatches", spec := "fnMatches", unfollowed := true, recurses := true, apart := false }
def FnMatchesSaid : Prop := fnMatchesRow.holds Try.pinned (OpenSpec.ofChange fnMatchesSpec)

/-- ITS FALSE NEIGHBOUR: 'it returns false'. Refute it at one input. -/
def fnMatchesWrong : ChangeSpec := { name := "fnMatches", fn := fun _ => fun
  | [d1, d2] => { results := [.lit (.bool false)], args := [d1, d2] }
  | _ => none }
def FnMatchesWrongFalsely : Prop := fnMatchesRow.holds Try.pinned (OpenSpec.ofChange fnMatchesWrong)

/-- 'laws.FnStable': WHATEVER THE INPUT: true; the input reads as it did. -/
def fnStableSpec : ChangeSpec := { name := "fnStable", fn := fun _ => fun
  | [d1, d2] => { results := [.lit (.bool true)], args := [d1, d2] }
  | _ => none }
def fnStableRow : OpenClaim := { program := "ytjipboafhakjfaa", sum := "0cbf9a836f5423f0bff1f5014f41beb354f9253597897d7642da2a553764b5a7", func := "loop.example/g00914/laws.FnStable", spec := "fnStable", unfollowed := true, recurses := true, apart := false }
def FnStableSaid : Prop := fnStableRow.holds Try.pinned (OpenSpec.ofChange fnStableSpec)

/-- ITS FALSE NEIGHBOUR: 'it returns false'. Refute it at one input. -/
def fnStableWrong : ChangeSpec := { name := "fnStable", fn := fun _ => fun
  | [d1, d2] => { results := [.lit (.bool false)], args := [d1, d2] }
  | _ => none }
def FnStableWrongFalsely : Prop := fnStableRow.holds Try.pinned (OpenSpec.ofChange fnStableWrong)

/- THE SECOND FORM. 'bulk': how many values and letters a reading holds, each counted each time it is reached (what is shared counts as often as it is met; a slice's spare places count too). A statement '..UptoSaid' is the law's where the arguments, and the package variables that the reading takes, are together of bulk at most 1048576: NARROWER than '..Said'. Prove '..Said' where nothing that the law and all that it calls make is longer than what came in: it says more and counts as full. Else prove '..UptoSaid'. A law counts once. -/
mutual
def uptoBulk {H : Type} : DataW H → Nat
  | .lit (.string bytes) => bytes.length + 1
  | .lit _ => 1
  | .nil => 1
  | .ptr d => uptoBulk d + 1
  | .slice elems spare => uptoBulkAll elems + uptoBulkAll spare + 1
  | .agg parts => uptoBulkAll parts + 1
  | .iface _ d => uptoBulk d + 1
  | .map entries => uptoBulkEntries entries + 1
  | .held _ => 1
def uptoBulkAll {H : Type} : List (DataW H) → Nat
  | [] => 0
  | d :: r => uptoBulk d + uptoBulkAll r
def uptoBulkEntries {H : Type} : List (Lit × DataW H) → Nat
  | [] => 0
  | x :: r => uptoBulkEntry x + uptoBulkEntries r
def uptoBulkEntry {H : Type} : Lit × DataW H → Nat
  | (.string bytes, d) => bytes.length + uptoBulk d + 1
  | (_, d) => uptoBulk d + 1
 end
def uptoSmall : (H : Type) → List (DataW H) → Bool := fun _ ds => decide (uptoBulkAll ds ≤ 1048576)
def OpenSpec.upto (s : _root_.Go.ChangeSpec) : _root_.Go.OpenSpec := { _root_.Go.OpenSpec.ofChange s with cond := some uptoSmall }

/-- 'laws.FnExactAreCosts', WHERE WHAT IT READS IS OF BULK AT MOST 1048576: true; the input reads as it did. -/
def fnExactAreCostsUptoRow : OpenClaim := { program := "ytjipboafhakjfaa", sum := "0cbf9a836f5423f0bff1f5014f41beb354f9253597897d7642da2a553764b5a7", func := "loop.example/g00914/laws.FnExactAreCosts", spec := "fnExactAreCosts", apart := false, narrowed := true }
def FnExactAreCostsUptoSaid : Prop := fnExactAreCostsUptoRow.holds Try.pinned (OpenSpec.upto fnExactAreCostsSpec)

/-- 'laws.FnExactSwapSides', WHERE WHAT IT READS IS OF BULK AT MOST 1048576: true; the input reads as it did. -/
def fnExactSwapSidesUptoRow : OpenClaim := { program := "ytjipboafhakjfaa", sum := "0cbf9a836f5423f0bff1f5014f41beb354f9253597897d7642da2a553764b5a7", func := "loop.example/g00914/laws.FnExactSwapSides", spec := "fnExactSwapSides", apart := false, narrowed := true }
def FnExactSwapSidesUptoSaid : Prop := fnExactSwapSidesUptoRow.holds Try.pinned (OpenSpec.upto fnExactSwapSidesSpec)

/-- 'laws.FnExactArePreferences', WHERE WHAT IT READS IS OF BULK AT MOST 1048576: true; the input reads as it did. -/
def fnExactArePreferencesUptoRow : OpenClaim := { program := "ytjipboafhakjfaa", sum := "0cbf9a836f5423f0bff1f5014f41beb354f9253597897d7642da2a553764b5a7", func := "loop.example/g00914/laws.FnExactArePreferences", spec := "fnExactArePreferences", apart := false, narrowed := true }
def FnExactArePreferencesUptoSaid : Prop := fnExactArePreferencesUptoRow.holds Try.pinned (OpenSpec.upto fnExactArePreferencesSpec)

/-- 'laws.FnExactMatchCost', WHERE WHAT IT READS IS OF BULK AT MOST 1048576: true; the input reads as it did. -/
def fnExactMatchCostUptoRow : OpenClaim := { program := "ytjipboafhakjfaa", sum := "0cbf9a836f5423f0bff1f5014f41beb354f9253597897d7642da2a553764b5a7", func := "loop.example/g00914/laws.FnExactMatchCost", spec := "fnExactMatchCost", apart := false, narrowed := true }
def FnExactMatchCostUptoSaid : Prop := fnExactMatchCostUptoRow.holds Try.pinned (OpenSpec.upto fnExactMatchCostSpec)

/-- 'laws.FnExactFirstComeMatch', WHERE WHAT IT READS IS OF BULK AT MOST 1048576: true; the input reads as it did. -/
def fnExactFirstComeMatchUptoRow : OpenClaim := { program := "ytjipboafhakjfaa", sum := "0cbf9a836f5423f0bff1f5014f41beb354f9253597897d7642da2a553764b5a7", func := "loop.example/g00914/laws.FnExactFirstComeMatch", spec := "fnExactFirstComeMatch", apart := false, narrowed := true }
def FnExactFirstComeMatchUptoSaid : Prop := fnExactFirstComeMatchUptoRow.holds Try.pinned (OpenSpec.upto fnExactFirstComeMatchSpec)

/-- 'laws.FnExactBlockingPairs', WHERE WHAT IT READS IS OF BULK AT MOST 1048576: true; the input reads as it did. -/
def fnExactBlockingPairsUptoRow : OpenClaim := { program := "ytjipboafhakjfaa", sum := "0cbf9a836f5423f0bff1f5014f41beb354f9253597897d7642da2a553764b5a7", func := "loop.example/g00914/laws.FnExactBlockingPairs", spec := "fnExactBlockingPairs", apart := false, narrowed := true }
def FnExactBlockingPairsUptoSaid : Prop := fnExactBlockingPairsUptoRow.holds Try.pinned (OpenSpec.upto fnExactBlockingPairsSpec)

/-- 'laws.FnExactStableMatch', WHERE WHAT IT READS IS OF BULK AT MOST 1048576: true; the input reads as it did. -/
def fnExactStableMatchUptoRow : OpenClaim := { program := "ytjipboafhakjfaa", sum := "0cbf9a836f5423f0bff1f5014f41beb354f9253597897d7642da2a553764b5a7", func := "loop.example/g00914/laws.FnExactStableMatch", spec := "fnExactStableMatch", apart := false, narrowed := true }
def FnExactStableMatchUptoSaid : Prop := fnExactStableMatchUptoRow.holds Try.pinned (OpenSpec.upto fnExactStableMatchSpec)

/-- 'laws.FnExactCheapestMatch', WHERE WHAT IT READS IS OF BULK AT MOST 1048576: true; the input reads as it did. -/
def fnExactCheapestMatchUptoRow : OpenClaim := { program := "ytjipboafhakjfaa", sum := "0cbf9a836f5423f0bff1f5014f41beb354f9253597897d7642da2a553764b5a7", func := "loop.example/g00914/laws.FnExactCheapestMatch", spec := "fnExactCheapestMatch", unfollowed := true, recurses := true, apart := false, narrowed := true }
def FnExactCheapestMatchUptoSaid : Prop := fnExactCheapestMatchUptoRow.holds Try.pinned (OpenSpec.upto fnExactCheapestMatchSpec)

/-- 'laws.FnExactRegretOf', WHERE WHAT IT READS IS OF BULK AT MOST 1048576: true; the input reads as it did. -/
def fnExactRegretOfUptoRow : OpenClaim := { program := "ytjipboafhakjfaa", sum := "0cbf9a836f5423f0bff1f5014f41beb354f9253597897d7642da2a553764b5a7", func := "loop.example/g00914/laws.FnExactRegretOf", spec := "fnExactRegretOf", unfollowed := true, recurses := true, apart := false, narrowed := true }
def FnExactRegretOfUptoSaid : Prop := fnExactRegretOfUptoRow.holds Try.pinned (OpenSpec.upto fnExactRegretOfSpec)

/-- 'laws.FnExactCountStable', WHERE WHAT IT READS IS OF BULK AT MOST 1048576: true; the input reads as it did. -/
def fnExactCountStableUptoRow : OpenClaim := { program := "ytjipboafhakjfaa", sum := "0cbf9a836f5423f0bff1f5014f41beb354f9253597897d7642da2a553764b5a7", func := "loop.example/g00914/laws.FnExactCountStable", spec := "fnExactCountStable", unfollowed := true, recurses := true, apart := false, narrowed := true }
def FnExactCountStableUptoSaid : Prop := fnExactCountStableUptoRow.holds Try.pinned (OpenSpec.upto fnExactCountStableSpec)

/-- 'laws.FnMatches', WHERE WHAT IT READS IS OF BULK AT MOST 1048576: true; the input reads as it did. -/
def fnMatchesUptoRow : OpenClaim := { program := "ytjipboafhakjfaa", sum := "0cbf9a836f5423f0bff1f5014f41beb354f9253597897d7642da2a553764b5a7", func := "loop.example/g00914/laws.FnMatches", spec := "fnMatches", unfollowed := true, recurses := true, apart := false, narrowed := true }
def FnMatchesUptoSaid : Prop := fnMatchesUptoRow.holds Try.pinned (OpenSpec.upto fnMatchesSpec)

/-- 'laws.FnStable', WHERE WHAT IT READS IS OF BULK AT MOST 1048576: true; the input reads as it did. -/
def fnStableUptoRow : OpenClaim := { program := "ytjipboafhakjfaa", sum := "0cbf9a836f5423f0bff1f5014f41beb354f9253597897d7642da2a553764b5a7", func := "loop.example/g00914/laws.FnStable", spec := "fnStable", unfollowed := true, recurses := true, apart := false, narrowed := true }
def FnStableUptoSaid : Prop := fnStableUptoRow.holds Try.pinned (OpenSpec.upto fnStableSpec)

end Rows
end Go.Proofs.Ytjipboafhakjfaa
