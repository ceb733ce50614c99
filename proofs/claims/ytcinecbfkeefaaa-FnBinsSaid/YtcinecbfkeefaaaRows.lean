/-
  No cell of these rows narrows 'for every input' (looked for: loops, veiled, ifaces, maps, wideKeys, modest, calm, conditions, laid).
  DERIVED. THE GIVEN ROWS OF THIS SEAT. 7 by the template 'for every input the law returns true; each argument reads behind the call as it read before'; 0 by the template 'total and deterministic' (their statements: YtcinecbfkeefaaaTotals.lean).
  GIVEN WITH THE SEED: the statements are not yours to turn. If you find one false, say at which input.
  Laid BY PROGRAM, IN A SANDBOX (cutbox-rows.mjs): the forced cells as the released guide's own fill.sh prints them over the translation 493317b774583d5b… (all of the seat's roots in one cut). By AI agents, Wed Nov 11 2026. No macro, syntax, notation, axiom, sorry.
-/
import Derived.Test.YtcinecbfkeefaaaChecked
import GoSem.Claim
import GoSem.ClaimJoined
import GoSem.ClaimMapViews
import Derived.JoinedTies
import Derived.KernelRfl
namespace Go.Proofs.Ytcinecbfkeefaaa
/- THE CELL 'sum', in the pinned program and in every row, IS THE sha256 OF THE DUMP (.gsa) THAT YtcinecbfkeefaaaProg.lean LOADS. Nothing in Lean hashes anything: it is a label: what it is worth is what the hold of that sum in a sandbox is worth. -/
noncomputable def Try.pinned : Pinned := { name := "ytcinecbfkeefaaa", sum := "493317b774583d5b6470d22cfbc2ad752cf9445993ee127d4f5a5e5f4505a3eb", checked := Try.checked }
namespace Rows
def none {H : Type} : Left H := { results := [], args := [] }

/-- 'laws.FnExactIsMachine': WHATEVER THE INPUT: true; the input reads as it did. -/
def fnExactIsMachineSpec : ChangeSpec := { name := "fnExactIsMachine", fn := fun _ => fun
  | [d] => { results := [.lit (.bool true)], args := [d] }
  | _ => none }
def fnExactIsMachineRow : OpenClaim := { program := "ytcinecbfkeefaaa", sum := "493317b774583d5b6470d22cfbc2ad752cf9445993ee127d4f5a5e5f4505a3eb", func := "loop.example/g00914/laws.FnExactIsMachine", spec := "fnExactIsMachine", apart := false }
def FnExactIsMachineSaid : Prop := fnExactIsMachineRow.holds Try.pinned (OpenSpec.ofChange fnExactIsMachineSpec)

/-- ITS FALSE NEIGHBOUR: 'it returns false'. Refute it at one input. -/
def fnExactIsMachineWrong : ChangeSpec := { name := "fnExactIsMachine", fn := fun _ => fun
  | [d] => { results := [.lit (.bool false)], args := [d] }
  | _ => none }
def FnExactIsMachineWrongFalsely : Prop := fnExactIsMachineRow.holds Try.pinned (OpenSpec.ofChange fnExactIsMachineWrong)

/-- 'laws.FnExactTakeBlend': WHATEVER THE INPUT: true; the input reads as it did. -/
def fnExactTakeBlendSpec : ChangeSpec := { name := "fnExactTakeBlend", fn := fun _ => fun
  | [d1, d2] => { results := [.lit (.bool true)], args := [d1, d2] }
  | _ => none }
def fnExactTakeBlendRow : OpenClaim := { program := "ytcinecbfkeefaaa", sum := "493317b774583d5b6470d22cfbc2ad752cf9445993ee127d4f5a5e5f4505a3eb", func := "loop.example/g00914/laws.FnExactTakeBlend", spec := "fnExactTakeBlend", apart := false }
def FnExactTakeBlendSaid : Prop := fnExactTakeBlendRow.holds Try.pinned (OpenSpec.ofChange fnExactTakeBlendSpec)

/-- ITS FALSE NEIGHBOUR: 'it returns false'. Refute it at one input. -/
def fnExactTakeBlendWrong : ChangeSpec := { name := "fnExactTakeBlend", fn := fun _ => fun
  | [d1, d2] => { results := [.lit (.bool false)], args := [d1, d2] }
  | _ => none }
def FnExactTakeBlendWrongFalsely : Prop := fnExactTakeBlendRow.holds Try.pinned (OpenSpec.ofChange fnExactTakeBlendWrong)

/-- 'laws.FnExactCountBlends': WHATEVER THE INPUT: true; the input reads as it did. -/
def fnExactCountBlendsSpec : ChangeSpec := { name := "fnExactCountBlends", fn := fun _ => fun
  | [d1, d2] => { results := [.lit (.bool true)], args := [d1, d2] }
  | _ => none }
def fnExactCountBlendsRow : OpenClaim := { program := "ytcinecbfkeefaaa", sum := "493317b774583d5b6470d22cfbc2ad752cf9445993ee127d4f5a5e5f4505a3eb", func := "loop.example/g00914/laws.FnExactCountBlends", spec := "fnExactCountBlends", unfollowed := true, recurses := true, apart := false }
def FnExactCountBlendsSaid : Prop := fnExactCountBlendsRow.holds Try.pinned (OpenSpec.ofChange fnExactCountBlendsSpec)

/-- ITS FALSE NEIGHBOUR: 'it returns false'. Refute it at one input. -/
def fnExactCountBlendsWrong : ChangeSpec := { name := "fnExactCountBlends", fn := fun _ => fun
  | [d1, d2] => { results := [.lit (.bool false)], args := [d1, d2] }
  | _ => none }
def FnExactCountBlendsWrongFalsely : Prop := fnExactCountBlendsRow.holds Try.pinned (OpenSpec.ofChange fnExactCountBlendsWrong)

/-- 'laws.FnExactRichestBlend': WHATEVER THE INPUT: true; the input reads as it did. -/
def fnExactRichestBlendSpec : ChangeSpec := { name := "fnExactRichestBlend", fn := fun _ => fun
  | [d1, d2] => { results := [.lit (.bool true)], args := [d1, d2] }
  | _ => none }
def fnExactRichestBlendRow : OpenClaim := { program := "ytcinecbfkeefaaa", sum := "493317b774583d5b6470d22cfbc2ad752cf9445993ee127d4f5a5e5f4505a3eb", func := "loop.example/g00914/laws.FnExactRichestBlend", spec := "fnExactRichestBlend", unfollowed := true, recurses := true, apart := false }
def FnExactRichestBlendSaid : Prop := fnExactRichestBlendRow.holds Try.pinned (OpenSpec.ofChange fnExactRichestBlendSpec)

/-- ITS FALSE NEIGHBOUR: 'it returns false'. Refute it at one input. -/
def fnExactRichestBlendWrong : ChangeSpec := { name := "fnExactRichestBlend", fn := fun _ => fun
  | [d1, d2] => { results := [.lit (.bool false)], args := [d1, d2] }
  | _ => none }
def FnExactRichestBlendWrongFalsely : Prop := fnExactRichestBlendRow.holds Try.pinned (OpenSpec.ofChange fnExactRichestBlendWrong)

/-- 'laws.FnExactCheapestBlend': WHATEVER THE INPUT: true; the input reads as it did. -/
def fnExactCheapestBlendSpec : ChangeSpec := { name := "fnExactCheapestBlend", fn := fun _ => fun
  | [d1, d2] => { results := [.lit (.bool true)], args := [d1, d2] }
  | _ => none }
def fnExactCheapestBlendRow : OpenClaim := { program := "ytcinecbfkeefaaa", sum := "493317b774583d5b6470d22cfbc2ad752cf9445993ee127d4f5a5e5f4505a3eb", func := "loop.example/g00914/laws.FnExactCheapestBlend", spec := "fnExactCheapestBlend", unfollowed := true, recurses := true, apart := false }
def FnExactCheapestBlendSaid : Prop := fnExactCheapestBlendRow.holds Try.pinned (OpenSpec.ofChange fnExactCheapestBlendSpec)

/-- ITS FALSE NEIGHBOUR: 'it returns false'. Refute it at one input. -/
def fnExactCheapestBlendWrong : ChangeSpec := { name := "fnExactCheapestBlend", fn := fun _ => fun
  | [d1, d2] => { results := [.lit (.bool false)], args := [d1, d2] }
  | _ => none }
def FnExactCheapestBlendWrongFalsely : Prop := fnExactCheapestBlendRow.holds Try.pinned (OpenSpec.ofChange fnExactCheapestBlendWrong)

/-- 'laws.FnBins': WHATEVER THE INPUT: true; the input reads as it did. -/
def fnBinsSpec : ChangeSpec := { name := "fnBins", fn := fun _ => fun
  | [d1, d2] => { results := [.lit (.bool true)], args := [d1, d2] }
  | _ => none }
def fnBinsRow : OpenClaim := { program := "ytcinecbfkeefaaa", sum := "493317b774583d5b6470d22cfbc2ad752cf9445993ee127d4f5a5e5f4505a3eb", func := "loop.example/g00914/laws.FnBins", spec := "fnBins", unfollowed := true, recurses := true, apart := false }
def FnBinsSaid : Prop := fnBinsRow.holds Try.pinned (OpenSpec.ofChange fnBinsSpec)

/-- ITS FALSE NEIGHBOUR: 'it returns false'. Refute it at one input. -/
def fnBinsWrong : ChangeSpec := { name := "fnBins", fn := fun _ => fun
  | [d1, d2] => { results := [.lit (.bool false)], args := [d1, d2] }
  | _ => none }
def FnBinsWrongFalsely : Prop := fnBinsRow.holds Try.pinned (OpenSpec.ofChange fnBinsWrong)

/-- 'laws.FnBlends': WHATEVER THE INPUT: true; the input reads as it did. -/
def fnBlendsSpec : ChangeSpec := { name := "fnBlends", fn := fun _ => fun
  | [d1, d2] => { results := [.lit (.bool true)], args := [d1, d2] }
  | _ => none }
def fnBlendsRow : OpenClaim := { program := "ytcinecbfkeefaaa", sum := "493317b774583d5b6470d22cfbc2ad752cf9445993ee127d4f5a5e5f4505a3eb", func := "loop.example/g00914/laws.FnBlends", spec := "fnBlends", unfollowed := true, recurses := true, apart := false }
def FnBlendsSaid : Prop := fnBlendsRow.holds Try.pinned (OpenSpec.ofChange fnBlendsSpec)

/-- ITS FALSE NEIGHBOUR: 'it returns false'. Refute it at one input. -/
def fnBlendsWrong : ChangeSpec := { name := "fnBlends", fn := fun _ => fun
  | [d1, d2] => { results := [.lit (.bool false)], args := [d1, d2] }
  | _ => none }
def FnBlendsWrongFalsely : Prop := fnBlendsRow.holds Try.pinned (OpenSpec.ofChange fnBlendsWrong)

/- THE SECOND FORM. 'bulk': how many values and letters a reading holds, each counted each time it is reached (what is shared counts as often as it is met; a slice's spare places count too). A statement '..UptoSaid' is the law's where the arguments, and the package variables that the reading takes, are together of bulk at most 1048576: NARROWER than '..Said'. Prove '..Said' where nothing that the law and all that it calls make is longer than what came in: it says more and counts as full. Else prove '..UptoSaid'. A law counts once. -/
mutual
def uptoBulk {H : Type} : DataW H → Nat
  | .lit (.string bytes) => bytes.length + 1
  | .lit _ => 1
  | .nil => 1
  | .ptr d => uptoBulk d + 1
  | .slice elems spare => uptoBulkAll elems + uptoBulkAll spare + 1
  | .agg parts => uptoBulkAll parts + 1
  | .iface _ d => uptoBulk d + 1
  | .map entries => uptoBulkEntries entries + 1
  | .held _ => 1
def uptoBulkAll {H : Type} : List (DataW H) → Nat
  | [] => 0
  | d :: r => uptoBulk d + uptoBulkAll r
def uptoBulkEntries {H : Type} : List (Lit × DataW H) → Nat
  | [] => 0
  | x :: r => uptoBulkEntry x + uptoBulkEntries r
def uptoBulkEntry {H : Type} : Lit × DataW H → Nat
  | (.string bytes, d) => bytes.length + uptoBulk d + 1
  | (_, d) => uptoBulk d + 1
 end
def uptoSmall : (H : Type) → List (DataW H) → Bool := fun _ ds => decide (uptoBulkAll ds ≤ 1048576)
def OpenSpec.upto (s : _root_.Go.ChangeSpec) : _root_.Go.OpenSpec := { _root_.Go.OpenSpec.ofChange s with cond := some uptoSmall }

/-- 'laws.FnExactIsMachine', WHERE WHAT IT READS IS OF BULK AT MOST 1048576: true; the input reads as it did. -/
def fnExactIsMachineUptoRow : OpenClaim := { program := "ytcinecbfkeefaaa", sum := "493317b774583d5b6470d22cfbc2ad752cf9445993ee127d4f5a5e5f4505a3eb", func := "loop.example/g00914/laws.FnExactIsMachine", spec := "fnExactIsMachine", apart := false, narrowed := true }
def FnExactIsMachineUptoSaid : Prop := fnExactIsMachineUptoRow.holds Try.pinned (OpenSpec.upto fnExactIsMachineSpec)

/-- 'laws.FnExactTakeBlend', WHERE WHAT IT READS IS OF BULK AT MOST 1048576: true; the input reads as it did. -/
def fnExactTakeBlendUptoRow : OpenClaim := { program := "ytcinecbfkeefaaa", sum := "493317b774583d5b6470d22cfbc2ad752cf9445993ee127d4f5a5e5f4505a3eb", func := "loop.example/g00914/laws.FnExactTakeBlend", spec := "fnExactTakeBlend", apart := false, narrowed := true }
def FnExactTakeBlendUptoSaid : Prop := fnExactTakeBlendUptoRow.holds Try.pinned (OpenSpec.upto fnExactTakeBlendSpec)

/-- 'laws.FnExactCountBlends', WHERE WHAT IT READS IS OF BULK AT MOST 1048576: true; the input reads as it did. -/
def fnExactCountBlendsUptoRow : OpenClaim := { program := "ytcinecbfkeefaaa", sum := "493317b774583d5b6470d22cfbc2ad752cf9445993ee127d4f5a5e5f4505a3eb", func := "loop.example/g00914/laws.FnExactCountBlends", spec := "fnExactCountBlends", unfollowed := true, recurses := true, apart := false, narrowed := true }
def FnExactCountBlendsUptoSaid : Prop := fnExactCountBlendsUptoRow.holds Try.pinned (OpenSpec.upto fnExactCountBlendsSpec)

/-- 'laws.FnExactRichestBlend', WHERE WHAT IT READS IS OF BULK AT MOST 1048576: true; the input reads as it did. -/
def fnExactRichestBlendUptoRow : OpenClaim := { program := "ytcinecbfkeefaaa", sum := "493317b774583d5b6470d22cfbc2ad752cf9445993ee127d4f5a5e5f4505a3eb", func := "loop.example/g00914/laws.FnExactRichestBlend", spec := "fnExactRichestBlend", unfollowed := true, recurses := true, apart := false, narrowed := true }
def FnExactRichestBlendUptoSaid : Prop := fnExactRichestBlendUptoRow.holds Try.pinned (OpenSpec.upto fnExactRichestBlendSpec)

/-- 'laws.FnExactCheapestBlend', WHERE WHAT IT READS IS OF BULK AT MOST 1048576: true; the input reads as it did. -/
def fnExactCheapestBlendUptoRow : OpenClaim := { program := "ytcinecbfkeefaaa", sum := "493317b774583d5b6470d22cfbc2ad752cf9445993ee127d4f5a5e5f4505a3eb", func := "loop.example/g00914/laws.FnExactCheapestBlend", spec := "fnExactCheapestBlend", unfollowed := true, recurses := true, apart := false, narrowed := true }
def FnExactCheapestBlendUptoSaid : Prop := fnExactCheapestBlendUptoRow.holds Try.pinned (OpenSpec.upto fnExactCheapestBlendSpec)

/-- 'laws.FnBins', WHERE WHAT IT READS IS OF BULK AT MOST 1048576: true; the input reads as it did. -/
def fnBinsUptoRow : OpenClaim := { program := "ytcinecbfkeefaaa", sum := "493317b774583d5b6470d22cfbc2ad752cf9445993ee127d4f5a5e5f4505a3eb", func := "loop.example/g00914/laws.FnBins", spec := "fnBins", unfollowed := true, recurses := true, apart := false, narrowed := true }
def FnBinsUptoSaid : Prop := fnBinsUptoRow.holds Try.pinned (OpenSpec.upto fnBinsSpec)

/-- 'laws.FnBlends', WHERE WHAT IT READS IS OF BULK AT MOST 1048576: true; the input reads as it did. -/
def fnBlendsUptoRow : OpenClaim := { program := "ytcinecbfkeefaaa", sum := "493317b774583d5b6470d22cfbc2ad752cf9445993ee127d4f5a5e5f4505a3eb", func := "loop.example/g00914/laws.FnBlends", spec := "fnBlends", unfollowed := true, recurses := true, apart := false, narrowed := true }
def FnBlendsUptoSaid : Prop := fnBlendsUptoRow.holds Try.pinned (OpenSpec.upto fnBlendsSpec)

end Rows
end Go.Proofs.Ytcinecbfkeefaaa
