/-
  NARROWER THAN 'FOR EVERY INPUT', by the rows' own cells (each row's printed sentence says how): FnExactLeastSteep: laid · FnExactReachableFrom: laid · FnExactCostsFrom: laid · FnExactCheapestWay: laid · FnExactHeightsText: laid · FnRoads: laid · FnReach: laid.
  DERIVED. THE GIVEN ROWS OF THIS SEAT. 7 by the template 'for every input the law returns true; each argument reads behind the call as it read before'; 0 by the template 'total and deterministic' (their statements: YtbgjhdhdfdfpkaaDoorTotals.lean).
  GIVEN WITH THE SEED: the statements are not yours to turn. If you find one false, say at which input.
  Laid BY PROGRAM, IN A SANDBOX (cutbox-rows.mjs): the forced cells as the released guide's own fill.sh prints them over the translation 823ec048434f261e… (all of the seat's roots in one cut). By AI agents, Wed Nov 11 2026. No macro, syntax, notation, axiom, sorry.
-/
import Derived.Test.YtbgjhdhdfdfpkaaDoorChecked
import GoSem.Claim
import GoSem.ClaimJoined
import GoSem.ClaimMapViews
import Derived.JoinedTies
import Derived.KernelRfl
namespace Go.Proofs.YtbgjhdhdfdfpkaaDoor
/- THE CELL 'sum', in the pinned program and in every row, IS THE sha256 OF THE DUMP (.gsa) THAT YtbgjhdhdfdfpkaaDoorProg.lean LOADS. Nothing in Lean hashes anything: it is a label: what it is worth is what the hold of that sum in a sandbox is worth. -/
noncomputable def Tryd.pinned : Pinned := { name := "ytbgjhdhdfdfpkaadoor", sum := "823ec048434f261e33131dc6fcf03bcb4ada139f43c5d7ef1db5b3e28e9a427a", checked := Tryd.checked }
namespace Rows
def none {H : Type} : Left H := { results := [], args := [] }

/- WHAT THE LISTED PACKAGE-LEVEL VARIABLES READ AS WHEN THE CALL BEGINS. Each datum BY PROGRAM (the guide's laid-datum.mjs) off the statement by which the dump's own 'gosem.cut.vars' lays the variable. In a bare row this is a premise. The card (YtbgjhdhdfdfpkaaDoorCards.lean) ties it to the program's text. -/
def laid_loop_example_g00914_impl_sidesByCell {H : Type} : DataW H := .agg [.lit (.int .i64 0), .lit (.int .i64 1), .lit (.int .i64 2), .lit (.int .i64 3)]
def laid_math_bits_deBruijn32tab {H : Type} : DataW H := .agg [.lit (.int .u8 0), .lit (.int .u8 1), .lit (.int .u8 28), .lit (.int .u8 2), .lit (.int .u8 29), .lit (.int .u8 14), .lit (.int .u8 24), .lit (.int .u8 3), .lit (.int .u8 30), .lit (.int .u8 22), .lit (.int .u8 20), .lit (.int .u8 15), .lit (.int .u8 25), .lit (.int .u8 17), .lit (.int .u8 4), .lit (.int .u8 8), .lit (.int .u8 31), .lit (.int .u8 27), .lit (.int .u8 13), .lit (.int .u8 23), .lit (.int .u8 21), .lit (.int .u8 19), .lit (.int .u8 16), .lit (.int .u8 7), .lit (.int .u8 26), .lit (.int .u8 12), .lit (.int .u8 18), .lit (.int .u8 6), .lit (.int .u8 11), .lit (.int .u8 5), .lit (.int .u8 10), .lit (.int .u8 9)]
def laid_math_bits_deBruijn64tab {H : Type} : DataW H := .agg [.lit (.int .u8 0), .lit (.int .u8 1), .lit (.int .u8 56), .lit (.int .u8 2), .lit (.int .u8 57), .lit (.int .u8 49), .lit (.int .u8 28), .lit (.int .u8 3), .lit (.int .u8 61), .lit (.int .u8 58), .lit (.int .u8 42), .lit (.int .u8 50), .lit (.int .u8 38), .lit (.int .u8 29), .lit (.int .u8 17), .lit (.int .u8 4), .lit (.int .u8 62), .lit (.int .u8 47), .lit (.int .u8 59), .lit (.int .u8 36), .lit (.int .u8 45), .lit (.int .u8 43), .lit (.int .u8 51), .lit (.int .u8 22), .lit (.int .u8 53), .lit (.int .u8 39), .lit (.int .u8 33), .lit (.int .u8 30), .lit (.int .u8 24), .lit (.int .u8 18), .lit (.int .u8 12), .lit (.int .u8 5), .lit (.int .u8 63), .lit (.int .u8 55), .lit (.int .u8 48), .lit (.int .u8 27), .lit (.int .u8 60), .lit (.int .u8 41), .lit (.int .u8 37), .lit (.int .u8 16), .lit (.int .u8 46), .lit (.int .u8 35), .lit (.int .u8 44), .lit (.int .u8 21), .lit (.int .u8 52), .lit (.int .u8 32), .lit (.int .u8 23), .lit (.int .u8 11), .lit (.int .u8 54), .lit (.int .u8 26), .lit (.int .u8 40), .lit (.int .u8 15), .lit (.int .u8 34), .lit (.int .u8 20), .lit (.int .u8 31), .lit (.int .u8 10), .lit (.int .u8 25), .lit (.int .u8 14), .lit (.int .u8 19), .lit (.int .u8 9), .lit (.int .u8 13), .lit (.int .u8 8), .lit (.int .u8 7), .lit (.int .u8 6)]
def laid_internal_strconv_uint64pow10 {H : Type} : DataW H := .agg [.lit (.int .u64 1), .lit (.int .u64 10), .lit (.int .u64 100), .lit (.int .u64 1000), .lit (.int .u64 10000), .lit (.int .u64 100000), .lit (.int .u64 1000000), .lit (.int .u64 10000000), .lit (.int .u64 100000000), .lit (.int .u64 1000000000), .lit (.int .u64 10000000000), .lit (.int .u64 100000000000), .lit (.int .u64 1000000000000), .lit (.int .u64 10000000000000), .lit (.int .u64 100000000000000), .lit (.int .u64 1000000000000000), .lit (.int .u64 10000000000000000), .lit (.int .u64 100000000000000000), .lit (.int .u64 1000000000000000000), .lit (.int .u64 10000000000000000000)]

/-- 'laws.FnExactLeastSteep': WHATEVER THE INPUT: true; the input reads as it did. -/
def fnExactLeastSteepSpec : ChangeSpec := { name := "fnExactLeastSteep", vars := ["loop.example/g00914/impl.sidesByCell"], fn := fun _ => fun
  | [d1, d2, d3, g1] => { results := [.lit (.bool true)], args := [d1, d2, d3], vars := [g1] }
  | _ => none }
def fnExactLeastSteepRow : OpenClaim := { program := "ytbgjhdhdfdfpkaadoor", sum := "823ec048434f261e33131dc6fcf03bcb4ada139f43c5d7ef1db5b3e28e9a427a", func := "loop.example/g00914/laws.FnExactLeastSteep", spec := "fnExactLeastSteep", named := ["loop.example/g00914/impl.sidesByCell"], apart := false, laid := [("loop.example/g00914/impl.sidesByCell", laid_loop_example_g00914_impl_sidesByCell)] }
def FnExactLeastSteepSaid : Prop := fnExactLeastSteepRow.holds Tryd.pinned (OpenSpec.ofChange fnExactLeastSteepSpec)

/-- ITS FALSE NEIGHBOUR: 'it returns false'. Refute it at one input. -/
def fnExactLeastSteepWrong : ChangeSpec := { name := "fnExactLeastSteep", vars := ["loop.example/g00914/impl.sidesByCell"], fn := fun _ => fun
  | [d1, d2, d3, g1] => { results := [.lit (.bool false)], args := [d1, d2, d3], vars := [g1] }
  | _ => none }
def FnExactLeastSteepWrongFalsely : Prop := fnExactLeastSteepRow.holds Tryd.pinned (OpenSpec.ofChange fnExactLeastSteepWrong)

/-- 'laws.FnExactReachableFrom': WHATEVER THE INPUT: true; the input reads as it did. -/
def fnExactReachableFromSpec : ChangeSpec := { name := "fnExactReachableFrom", vars := ["loop.example/g00914/impl.sidesByCell"], fn := fun _ => fun
  | [d1, d2, g1] => { results := [.lit (.bool true)], args := [d1, d2], vars := [g1] }
  | _ => none }
def fnExactReachableFromRow : OpenClaim := { program := "ytbgjhdhdfdfpkaadoor", sum := "823ec048434f261e33131dc6fcf03bcb4ada139f43c5d7ef1db5b3e28e9a427a", func := "loop.example/g00914/laws.FnExactReachableFrom", spec := "fnExactReachableFrom", named := ["loop.example/g00914/impl.sidesByCell"], apart := false, laid := [("loop.example/g00914/impl.sidesByCell", laid_loop_example_g00914_impl_sidesByCell)] }
def FnExactReachableFromSaid : Prop := fnExactReachableFromRow.holds Tryd.pinned (OpenSpec.ofChange fnExactReachableFromSpec)

/-- ITS FALSE NEIGHBOUR: 'it returns false'. Refute it at one input. -/
def fnExactReachableFromWrong : ChangeSpec := { name := "fnExactReachableFrom", vars := ["loop.example/g00914/impl.sidesByCell"], fn := fun _ => fun
  | [d1, d2, g1] => { results := [.lit (.bool false)], args := [d1, d2], vars := [g1] }
  | _ => none }
def FnExactReachableFromWrongFalsely : Prop := fnExactReachableFromRow.holds Tryd.pinned (OpenSpec.ofChange fnExactReachableFromWrong)

/-- 'laws.FnExactCostsFrom': WHATEVER THE INPUT: true; the input reads as it did. -/
def fnExactCostsFromSpec : ChangeSpec := { name := "fnExactCostsFrom", vars := ["loop.example/g00914/impl.sidesByCell"], fn := fun _ => fun
  | [d1, d2, g1] => { results := [.lit (.bool true)], args := [d1, d2], vars := [g1] }
  | _ => none }
def fnExactCostsFromRow : OpenClaim := { program := "ytbgjhdhdfdfpkaadoor", sum := "823ec048434f261e33131dc6fcf03bcb4ada139f43c5d7ef1db5b3e28e9a427a", func := "loop.example/g00914/laws.FnExactCostsFrom", spec := "fnExactCostsFrom", named := ["loop.example/g00914/impl.sidesByCell"], apart := false, laid := [("loop.example/g00914/impl.sidesByCell", laid_loop_example_g00914_impl_sidesByCell)] }
def FnExactCostsFromSaid : Prop := fnExactCostsFromRow.holds Tryd.pinned (OpenSpec.ofChange fnExactCostsFromSpec)

/-- ITS FALSE NEIGHBOUR: 'it returns false'. Refute it at one input. -/
def fnExactCostsFromWrong : ChangeSpec := { name := "fnExactCostsFrom", vars := ["loop.example/g00914/impl.sidesByCell"], fn := fun _ => fun
  | [d1, d2, g1] => { results := [.lit (.bool false)], args := [d1, d2], vars := [g1] }
  | _ => none }
def FnExactCostsFromWrongFalsely : Prop := fnExactCostsFromRow.holds Tryd.pinned (OpenSpec.ofChange fnExactCostsFromWrong)

/-- 'laws.FnExactCheapestWay': WHATEVER THE INPUT: true; the input reads as it did. -/
def fnExactCheapestWaySpec : ChangeSpec := { name := "fnExactCheapestWay", vars := ["loop.example/g00914/impl.sidesByCell"], fn := fun _ => fun
  | [d1, d2, d3, g1] => { results := [.lit (.bool true)], args := [d1, d2, d3], vars := [g1] }
  | _ => none }
def fnExactCheapestWayRow : OpenClaim := { program := "ytbgjhdhdfdfpkaadoor", sum := "823ec048434f261e33131dc6fcf03bcb4ada139f43c5d7ef1db5b3e28e9a427a", func := "loop.example/g00914/laws.FnExactCheapestWay", spec := "fnExactCheapestWay", named := ["loop.example/g00914/impl.sidesByCell"], apart := false, laid := [("loop.example/g00914/impl.sidesByCell", laid_loop_example_g00914_impl_sidesByCell)] }
def FnExactCheapestWaySaid : Prop := fnExactCheapestWayRow.holds Tryd.pinned (OpenSpec.ofChange fnExactCheapestWaySpec)

/-- ITS FALSE NEIGHBOUR: 'it returns false'. Refute it at one input. -/
def fnExactCheapestWayWrong : ChangeSpec := { name := "fnExactCheapestWay", vars := ["loop.example/g00914/impl.sidesByCell"], fn := fun _ => fun
  | [d1, d2, d3, g1] => { results := [.lit (.bool false)], args := [d1, d2, d3], vars := [g1] }
  | _ => none }
def FnExactCheapestWayWrongFalsely : Prop := fnExactCheapestWayRow.holds Tryd.pinned (OpenSpec.ofChange fnExactCheapestWayWrong)

/-- 'laws.FnExactHeightsText': WHATEVER THE INPUT: true; the input reads as it did. -/
def fnExactHeightsTextSpec : ChangeSpec := { name := "fnExactHeightsText", fn := fun _ => fun
  | [d] => { results := [.lit (.bool true)], args := [d] }
  | _ => none }
def fnExactHeightsTextRow : OpenClaim := { program := "ytbgjhdhdfdfpkaadoor", sum := "823ec048434f261e33131dc6fcf03bcb4ada139f43c5d7ef1db5b3e28e9a427a", func := "loop.example/g00914/laws.FnExactHeightsText", spec := "fnExactHeightsText", inPlace := ["internal/abi.NoEscape", "internal/bytealg.MakeNoZero"], recurses := true, named := ["internal/strconv.uint64pow10", "math/bits.deBruijn32tab", "math/bits.deBruijn64tab"], apart := false, laid := [("math/bits.deBruijn32tab", laid_math_bits_deBruijn32tab), ("math/bits.deBruijn64tab", laid_math_bits_deBruijn64tab), ("internal/strconv.uint64pow10", laid_internal_strconv_uint64pow10)] }
def FnExactHeightsTextSaid : Prop := fnExactHeightsTextRow.holds Tryd.pinned (OpenSpec.ofChange fnExactHeightsTextSpec)

/-- ITS FALSE NEIGHBOUR: 'it returns false'. Refute it at one input. -/
def fnExactHeightsTextWrong : ChangeSpec := { name := "fnExactHeightsText", fn := fun _ => fun
  | [d] => { results := [.lit (.bool false)], args := [d] }
  | _ => none }
def FnExactHeightsTextWrongFalsely : Prop := fnExactHeightsTextRow.holds Tryd.pinned (OpenSpec.ofChange fnExactHeightsTextWrong)

/-- 'laws.FnRoads': WHATEVER THE INPUT: true; the input reads as it did. -/
def fnRoadsSpec : ChangeSpec := { name := "fnRoads", vars := ["loop.example/g00914/impl.sidesByCell"], fn := fun _ => fun
  | [d1, d2, g1] => { results := [.lit (.bool true)], args := [d1, d2], vars := [g1] }
  | _ => none }
def fnRoadsRow : OpenClaim := { program := "ytbgjhdhdfdfpkaadoor", sum := "823ec048434f261e33131dc6fcf03bcb4ada139f43c5d7ef1db5b3e28e9a427a", func := "loop.example/g00914/laws.FnRoads", spec := "fnRoads", named := ["loop.example/g00914/impl.sidesByCell"], apart := false, laid := [("loop.example/g00914/impl.sidesByCell", laid_loop_example_g00914_impl_sidesByCell)] }
def FnRoadsSaid : Prop := fnRoadsRow.holds Tryd.pinned (OpenSpec.ofChange fnRoadsSpec)

/-- ITS FALSE NEIGHBOUR: 'it returns false'. Refute it at one input. -/
def fnRoadsWrong : ChangeSpec := { name := "fnRoads", vars := ["loop.example/g00914/impl.sidesByCell"], fn := fun _ => fun
  | [d1, d2, g1] => { results := [.lit (.bool false)], args := [d1, d2], vars := [g1] }
  | _ => none }
def FnRoadsWrongFalsely : Prop := fnRoadsRow.holds Tryd.pinned (OpenSpec.ofChange fnRoadsWrong)

/-- 'laws.FnReach': WHATEVER THE INPUT: true; the input reads as it did. -/
def fnReachSpec : ChangeSpec := { name := "fnReach", vars := ["loop.example/g00914/impl.sidesByCell"], fn := fun _ => fun
  | [d1, d2, g1] => { results := [.lit (.bool true)], args := [d1, d2], vars := [g1] }
  | _ => none }
def fnReachRow : OpenClaim := { program := "ytbgjhdhdfdfpkaadoor", sum := "823ec048434f261e33131dc6fcf03bcb4ada139f43c5d7ef1db5b3e28e9a427a", func := "loop.example/g00914/laws.FnReach", spec := "fnReach", inPlace := ["internal/abi.NoEscape", "internal/bytealg.MakeNoZero"], recurses := true, named := ["loop.example/g00914/impl.sidesByCell", "internal/strconv.uint64pow10", "math/bits.deBruijn32tab", "math/bits.deBruijn64tab"], apart := false, laid := [("math/bits.deBruijn32tab", laid_math_bits_deBruijn32tab), ("math/bits.deBruijn64tab", laid_math_bits_deBruijn64tab), ("internal/strconv.uint64pow10", laid_internal_strconv_uint64pow10), ("loop.example/g00914/impl.sidesByCell", laid_loop_example_g00914_impl_sidesByCell)] }
def FnReachSaid : Prop := fnReachRow.holds Tryd.pinned (OpenSpec.ofChange fnReachSpec)

/-- ITS FALSE NEIGHBOUR: 'it returns false'. Refute it at one input. -/
def fnReachWrong : ChangeSpec := { name := "fnReach", vars := ["loop.example/g00914/impl.sidesByCell"], fn := fun _ => fun
  | [d1, d2, g1] => { results := [.lit (.bool false)], args := [d1, d2], vars := [g1] }
  | _ => none }
def FnReachWrongFalsely : Prop := fnReachRow.holds Tryd.pinned (OpenSpec.ofChange fnReachWrong)

/- THE SECOND FORM. 'bulk': how many values and letters a reading holds, each counted each time it is reached (what is shared counts as often as it is met; a slice's spare places count too). A statement '..UptoSaid' is the law's where the arguments, and the package variables that the reading takes, are together of bulk at most 1048576: NARROWER than '..Said'. Prove '..Said' where nothing that the law and all that it calls make is longer than what came in: it says more and counts as full. Else prove '..UptoSaid'. A law counts once. -/
mutual
def uptoBulk {H : Type} : DataW H → Nat
  | .lit (.string bytes) => bytes.length + 1
  | .lit _ => 1
  | .nil => 1
  | .ptr d => uptoBulk d + 1
  | .slice elems spare => uptoBulkAll elems + uptoBulkAll spare + 1
  | .agg parts => uptoBulkAll parts + 1
  | .iface _ d => uptoBulk d + 1
  | .map entries => uptoBulkEntries entries + 1
  | .held _ => 1
def uptoBulkAll {H : Type} : List (DataW H) → Nat
  | [] => 0
  | d :: r => uptoBulk d + uptoBulkAll r
def uptoBulkEntries {H : Type} : List (Lit × DataW H) → Nat
  | [] => 0
  | x :: r => uptoBulkEntry x + uptoBulkEntries r
def uptoBulkEntry {H : Type} : Lit × DataW H → Nat
  | (.string bytes, d) => bytes.length + uptoBulk d + 1
  | (_, d) => uptoBulk d + 1
 end
def uptoSmall : (H : Type) → List (DataW H) → Bool := fun _ ds => decide (uptoBulkAll ds ≤ 1048576)
def OpenSpec.upto (s : _root_.Go.ChangeSpec) : _root_.Go.OpenSpec := { _root_.Go.OpenSpec.ofChange s with cond := some uptoSmall }

/-- 'laws.FnExactLeastSteep', WHERE WHAT IT READS IS OF BULK AT MOST 1048576: true; the input reads as it did. -/
def fnExactLeastSteepUptoRow : OpenClaim := { program := "ytbgjhdhdfdfpkaadoor", sum := "823ec048434f261e33131dc6fcf03bcb4ada139f43c5d7ef1db5b3e28e9a427a", func := "loop.example/g00914/laws.FnExactLeastSteep", spec := "fnExactLeastSteep", named := ["loop.example/g00914/impl.sidesByCell"], apart := false, laid := [("loop.example/g00914/impl.sidesByCell", laid_loop_example_g00914_impl_sidesByCell)], narrowed := true }
def FnExactLeastSteepUptoSaid : Prop := fnExactLeastSteepUptoRow.holds Tryd.pinned (OpenSpec.upto fnExactLeastSteepSpec)

/-- 'laws.FnExactReachableFrom', WHERE WHAT IT READS IS OF BULK AT MOST 1048576: true; the input reads as it did. -/
def fnExactReachableFromUptoRow : OpenClaim := { program := "ytbgjhdhdfdfpkaadoor", sum := "823ec048434f261e33131dc6fcf03bcb4ada139f43c5d7ef1db5b3e28e9a427a", func := "loop.example/g00914/laws.FnExactReachableFrom", spec := "fnExactReachableFrom", named := ["loop.example/g00914/impl.sidesByCell"], apart := false, laid := [("loop.example/g00914/impl.sidesByCell", laid_loop_example_g00914_impl_sidesByCell)], narrowed := true }
def FnExactReachableFromUptoSaid : Prop := fnExactReachableFromUptoRow.holds Tryd.pinned (OpenSpec.upto fnExactReachableFromSpec)

/-- 'laws.FnExactCostsFrom', WHERE WHAT IT READS IS OF BULK AT MOST 1048576: true; the input reads as it did. -/
def fnExactCostsFromUptoRow : OpenClaim := { program := "ytbgjhdhdfdfpkaadoor", sum := "823ec048434f261e33131dc6fcf03bcb4ada139f43c5d7ef1db5b3e28e9a427a", func := "loop.example/g00914/laws.FnExactCostsFrom", spec := "fnExactCostsFrom", named := ["loop.example/g00914/impl.sidesByCell"], apart := false, laid := [("loop.example/g00914/impl.sidesByCell", laid_loop_example_g00914_impl_sidesByCell)], narrowed := true }
def FnExactCostsFromUptoSaid : Prop := fnExactCostsFromUptoRow.holds Tryd.pinned (OpenSpec.upto fnExactCostsFromSpec)

/-- 'laws.FnExactCheapestWay', WHERE WHAT IT READS IS OF BULK AT MOST 1048576: true; the input reads as it did. -/
def fnExactCheapestWayUptoRow : OpenClaim := { program := "ytbgjhdhdfdfpkaadoor", sum := "823ec048434f261e33131dc6fcf03bcb4ada139f43c5d7ef1db5b3e28e9a427a", func := "loop.example/g00914/laws.FnExactCheapestWay", spec := "fnExactCheapestWay", named := ["loop.example/g00914/impl.sidesByCell"], apart := false, laid := [("loop.example/g00914/impl.sidesByCell", laid_loop_example_g00914_impl_sidesByCell)], narrowed := true }
def FnExactCheapestWayUptoSaid : Prop := fnExactCheapestWayUptoRow.holds Tryd.pinned (OpenSpec.upto fnExactCheapestWaySpec)

/-- 'laws.FnExactHeightsText', WHERE WHAT IT READS IS OF BULK AT MOST 1048576: true; the input reads as it did. -/
def fnExactHeightsTextUptoRow : OpenClaim := { program := "ytbgjhdhdfdfpkaadoor", sum := "823ec048434f261e33131dc6fcf03bcb4ada139f43c5d7ef1db5b3e28e9a427a", func := "loop.example/g00914/laws.FnExactHeightsText", spec := "fnExactHeightsText", inPlace := ["internal/abi.NoEscape", "internal/bytealg.MakeNoZero"], recurses := true, named := ["internal/strconv.uint64pow10", "math/bits.deBruijn32tab", "math/bits.deBruijn64tab"], apart := false, laid := [("math/bits.deBruijn32tab", laid_math_bits_deBruijn32tab), ("math/bits.deBruijn64tab", laid_math_bits_deBruijn64tab), ("internal/strconv.uint64pow10", laid_internal_strconv_uint64pow10)], narrowed := true }
def FnExactHeightsTextUptoSaid : Prop := fnExactHeightsTextUptoRow.holds Tryd.pinned (OpenSpec.upto fnExactHeightsTextSpec)

/-- 'laws.FnRoads', WHERE WHAT IT READS IS OF BULK AT MOST 1048576: true; the input reads as it did. -/
def fnRoadsUptoRow : OpenClaim := { program := "ytbgjhdhdfdfpkaadoor", sum := "823ec048434f261e33131dc6fcf03bcb4ada139f43c5d7ef1db5b3e28e9a427a", func := "loop.example/g00914/laws.FnRoads", spec := "fnRoads", named := ["loop.example/g00914/impl.sidesByCell"], apart := false, laid := [("loop.example/g00914/impl.sidesByCell", laid_loop_example_g00914_impl_sidesByCell)], narrowed := true }
def FnRoadsUptoSaid : Prop := fnRoadsUptoRow.holds Tryd.pinned (OpenSpec.upto fnRoadsSpec)

/-- 'laws.FnReach', WHERE WHAT IT READS IS OF BULK AT MOST 1048576: true; the input reads as it did. -/
def fnReachUptoRow : OpenClaim := { program := "ytbgjhdhdfdfpkaadoor", sum := "823ec048434f261e33131dc6fcf03bcb4ada139f43c5d7ef1db5b3e28e9a427a", func := "loop.example/g00914/laws.FnReach", spec := "fnReach", inPlace := ["internal/abi.NoEscape", "internal/bytealg.MakeNoZero"], recurses := true, named := ["loop.example/g00914/impl.sidesByCell", "internal/strconv.uint64pow10", "math/bits.deBruijn32tab", "math/bits.deBruijn64tab"], apart := false, laid := [("math/bits.deBruijn32tab", laid_math_bits_deBruijn32tab), ("math/bits.deBruijn64tab", laid_math_bits_deBruijn64tab), ("internal/strconv.uint64pow10", laid_internal_strconv_uint64pow10), ("loop.example/g00914/impl.sidesByCell", laid_loop_example_g00914_impl_sidesByCell)], narrowed := true }
def FnReachUptoSaid : Prop := fnReachUptoRow.holds Tryd.pinned (OpenSpec.upto fnReachSpec)

end Rows
end Go.Proofs.YtbgjhdhdfdfpkaaDoor
