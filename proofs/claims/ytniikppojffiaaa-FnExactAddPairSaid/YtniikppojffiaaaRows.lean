/-
  No cell of these rows narrows 'for every input' (looked for: loops, veiled, ifaces, maps, wideKeys, modest, calm, conditions, laid).
  DERIVED. THE GIVEN ROWS OF THIS SEAT. 14 by the template 'for every input the law returns true; each argument reads behind the call as it read before'; 0 by the template 'total and deterministic' (their statements: YtniikppojffiaaaTotals.lean).
  GIVEN WITH THE SEED: the statements are not yours to turn. If you find one false, say at which input.
  Laid BY PROGRAM, IN A SANDBOX (cutbox-rows.mjs): the forced cells as the released guide's own fill.sh prints them over the translation f40968c6dbe2527b… (all of the seat's roots in one cut). By AI agents, Wed Nov 11 2026. No macro, syntax, notation, axiom, sorry.
-/
import Derived.Test.YtniikppojffiaaaChecked
import GoSem.Claim
import GoSem.ClaimJoined
import GoSem.ClaimMapViews
import Derived.JoinedTies
import Derived.KernelRfl
namespace Go.Proofs.Ytniikppojffiaaa
/- THE CELL 'sum', in the pinned program and in every row, IS THE sha256 OF THE DUMP (.gsa) THAT YtniikppojffiaaaProg.lean LOADS. Nothing in Lean hashes anything: it is a label: what it is worth is what the hold of that sum in a sandbox is worth. -/
noncomputable def Try.pinned : Pinned := { name := "ytniikppojffiaaa", sum := "f40968c6dbe2527b7df0e5b51f68678c628e98a1a597e95235b479e568fe0c77", checked := Try.checked }
namespace Rows
def none {H : Type} : Left H := { results := [], args := [] }

/-- 'laws.FnExactIsPairing': WHATEVER THE INPUT: true; the input reads as it did. -/
def fnExactIsPairingSpec : ChangeSpec := { name := "fnExactIsPairing", fn := fun _ => fun
  | [d1, d2] => { results := [.lit (.bool true)], args := [d1, d2] }
  | _ => none }
def fnExactIsPairingRow : OpenClaim := { program := "ytniikppojffiaaa", sum := "f40968c6dbe2527b7df0e5b51f68678c628e98a1a597e95235b479e568fe0c77", func := "loop.example/g01348/laws.FnExactIsPairing", spec := "fnExactIsPairing", unfollowed := true, recurses := true, apart := false }
def FnExactIsPairingSaid : Prop := fnExactIsPairingRow.holds Try.pinned (OpenSpec.ofChange fnExactIsPairingSpec)

/-- ITS FALSE NEIGHBOUR: 'it returns false'. Refute it at one input. -/
def fnExactIsPairingWrong : ChangeSpec := { name := "fnExactIsPairing", fn := fun _ => fun
  | [d1, d2] => { results := [.lit (.bool false)], args := [d1, d2] }
  | _ => none }
def FnExactIsPairingWrongFalsely : Prop := fnExactIsPairingRow.holds Try.pinned (OpenSpec.ofChange fnExactIsPairingWrong)

/-- 'laws.FnExactCriticalFaces': WHATEVER THE INPUT: true; the input reads as it did. -/
def fnExactCriticalFacesSpec : ChangeSpec := { name := "fnExactCriticalFaces", fn := fun _ => fun
  | [d1, d2] => { results := [.lit (.bool true)], args := [d1, d2] }
  | _ => none }
def fnExactCriticalFacesRow : OpenClaim := { program := "ytniikppojffiaaa", sum := "f40968c6dbe2527b7df0e5b51f68678c628e98a1a597e95235b479e568fe0c77", func := "loop.example/g01348/laws.FnExactCriticalFaces", spec := "fnExactCriticalFaces", unfollowed := true, recurses := true, apart := false }
def FnExactCriticalFacesSaid : Prop := fnExactCriticalFacesRow.holds Try.pinned (OpenSpec.ofChange fnExactCriticalFacesSpec)

/-- ITS FALSE NEIGHBOUR: 'it returns false'. Refute it at one input. -/
def fnExactCriticalFacesWrong : ChangeSpec := { name := "fnExactCriticalFaces", fn := fun _ => fun
  | [d1, d2] => { results := [.lit (.bool false)], args := [d1, d2] }
  | _ => none }
def FnExactCriticalFacesWrongFalsely : Prop := fnExactCriticalFacesRow.holds Try.pinned (OpenSpec.ofChange fnExactCriticalFacesWrong)

/-- 'laws.FnExactCriticalNumbers': WHATEVER THE INPUT: true; the input reads as it did. -/
def fnExactCriticalNumbersSpec : ChangeSpec := { name := "fnExactCriticalNumbers", fn := fun _ => fun
  | [d1, d2] => { results := [.lit (.bool true)], args := [d1, d2] }
  | _ => none }
def fnExactCriticalNumbersRow : OpenClaim := { program := "ytniikppojffiaaa", sum := "f40968c6dbe2527b7df0e5b51f68678c628e98a1a597e95235b479e568fe0c77", func := "loop.example/g01348/laws.FnExactCriticalNumbers", spec := "fnExactCriticalNumbers", unfollowed := true, recurses := true, apart := false }
def FnExactCriticalNumbersSaid : Prop := fnExactCriticalNumbersRow.holds Try.pinned (OpenSpec.ofChange fnExactCriticalNumbersSpec)

/-- ITS FALSE NEIGHBOUR: 'it returns false'. Refute it at one input. -/
def fnExactCriticalNumbersWrong : ChangeSpec := { name := "fnExactCriticalNumbers", fn := fun _ => fun
  | [d1, d2] => { results := [.lit (.bool false)], args := [d1, d2] }
  | _ => none }
def FnExactCriticalNumbersWrongFalsely : Prop := fnExactCriticalNumbersRow.holds Try.pinned (OpenSpec.ofChange fnExactCriticalNumbersWrong)

/-- 'laws.FnExactIsAcyclicPairing': WHATEVER THE INPUT: true; the input reads as it did. -/
def fnExactIsAcyclicPairingSpec : ChangeSpec := { name := "fnExactIsAcyclicPairing", fn := fun _ => fun
  | [d1, d2] => { results := [.lit (.bool true)], args := [d1, d2] }
  | _ => none }
def fnExactIsAcyclicPairingRow : OpenClaim := { program := "ytniikppojffiaaa", sum := "f40968c6dbe2527b7df0e5b51f68678c628e98a1a597e95235b479e568fe0c77", func := "loop.example/g01348/laws.FnExactIsAcyclicPairing", spec := "fnExactIsAcyclicPairing", unfollowed := true, recurses := true, apart := false }
def FnExactIsAcyclicPairingSaid : Prop := fnExactIsAcyclicPairingRow.holds Try.pinned (OpenSpec.ofChange fnExactIsAcyclicPairingSpec)

/-- ITS FALSE NEIGHBOUR: 'it returns false'. Refute it at one input. -/
def fnExactIsAcyclicPairingWrong : ChangeSpec := { name := "fnExactIsAcyclicPairing", fn := fun _ => fun
  | [d1, d2] => { results := [.lit (.bool false)], args := [d1, d2] }
  | _ => none }
def FnExactIsAcyclicPairingWrongFalsely : Prop := fnExactIsAcyclicPairingRow.holds Try.pinned (OpenSpec.ofChange fnExactIsAcyclicPairingWrong)

/-- 'laws.FnExactFacesOnCycles': WHATEVER THE INPUT: true; the input reads as it did. -/
def fnExactFacesOnCyclesSpec : ChangeSpec := { name := "fnExactFacesOnCycles", fn := fun _ => fun
  | [d1, d2] => { results := [.lit (.bool true)], args := [d1, d2] }
  | _ => none }
def fnExactFacesOnCyclesRow : OpenClaim := { program := "ytniikppojffiaaa", sum := "f40968c6dbe2527b7df0e5b51f68678c628e98a1a597e95235b479e568fe0c77", func := "loop.example/g01348/laws.FnExactFacesOnCycles", spec := "fnExactFacesOnCycles", unfollowed := true, recurses := true, apart := false }
def FnExactFacesOnCyclesSaid : Prop := fnExactFacesOnCyclesRow.holds Try.pinned (OpenSpec.ofChange fnExactFacesOnCyclesSpec)

/-- ITS FALSE NEIGHBOUR: 'it returns false'. Refute it at one input. -/
def fnExactFacesOnCyclesWrong : ChangeSpec := { name := "fnExactFacesOnCycles", fn := fun _ => fun
  | [d1, d2] => { results := [.lit (.bool false)], args := [d1, d2] }
  | _ => none }
def FnExactFacesOnCyclesWrongFalsely : Prop := fnExactFacesOnCyclesRow.holds Try.pinned (OpenSpec.ofChange fnExactFacesOnCyclesWrong)

/-- 'laws.FnExactFacesReached': WHATEVER THE INPUT: true; the input reads as it did. -/
def fnExactFacesReachedSpec : ChangeSpec := { name := "fnExactFacesReached", fn := fun _ => fun
  | [d1, d2, d3] => { results := [.lit (.bool true)], args := [d1, d2, d3] }
  | _ => none }
def fnExactFacesReachedRow : OpenClaim := { program := "ytniikppojffiaaa", sum := "f40968c6dbe2527b7df0e5b51f68678c628e98a1a597e95235b479e568fe0c77", func := "loop.example/g01348/laws.FnExactFacesReached", spec := "fnExactFacesReached", unfollowed := true, recurses := true, apart := false }
def FnExactFacesReachedSaid : Prop := fnExactFacesReachedRow.holds Try.pinned (OpenSpec.ofChange fnExactFacesReachedSpec)

/-- ITS FALSE NEIGHBOUR: 'it returns false'. Refute it at one input. -/
def fnExactFacesReachedWrong : ChangeSpec := { name := "fnExactFacesReached", fn := fun _ => fun
  | [d1, d2, d3] => { results := [.lit (.bool false)], args := [d1, d2, d3] }
  | _ => none }
def FnExactFacesReachedWrongFalsely : Prop := fnExactFacesReachedRow.holds Try.pinned (OpenSpec.ofChange fnExactFacesReachedWrong)

/-- 'laws.FnExactCountGradientWays': WHATEVER THE INPUT: true; the input reads as it did. -/
def fnExactCountGradientWaysSpec : ChangeSpec := { name := "fnExactCountGradientWays", fn := fun _ => fun
  | [d1, d2, d3, d4] => { results := [.lit (.bool true)], args := [d1, d2, d3, d4] }
  | _ => none }
def fnExactCountGradientWaysRow : OpenClaim := { program := "ytniikppojffiaaa", sum := "f40968c6dbe2527b7df0e5b51f68678c628e98a1a597e95235b479e568fe0c77", func := "loop.example/g01348/laws.FnExactCountGradientWays", spec := "fnExactCountGradientWays", unfollowed := true, recurses := true, apart := false }
def FnExactCountGradientWaysSaid : Prop := fnExactCountGradientWaysRow.holds Try.pinned (OpenSpec.ofChange fnExactCountGradientWaysSpec)

/-- ITS FALSE NEIGHBOUR: 'it returns false'. Refute it at one input. -/
def fnExactCountGradientWaysWrong : ChangeSpec := { name := "fnExactCountGradientWays", fn := fun _ => fun
  | [d1, d2, d3, d4] => { results := [.lit (.bool false)], args := [d1, d2, d3, d4] }
  | _ => none }
def FnExactCountGradientWaysWrongFalsely : Prop := fnExactCountGradientWaysRow.holds Try.pinned (OpenSpec.ofChange fnExactCountGradientWaysWrong)

/-- 'laws.FnExactGreedyPairing': WHATEVER THE INPUT: true; the input reads as it did. -/
def fnExactGreedyPairingSpec : ChangeSpec := { name := "fnExactGreedyPairing", fn := fun _ => fun
  | [d] => { results := [.lit (.bool true)], args := [d] }
  | _ => none }
def fnExactGreedyPairingRow : OpenClaim := { program := "ytniikppojffiaaa", sum := "f40968c6dbe2527b7df0e5b51f68678c628e98a1a597e95235b479e568fe0c77", func := "loop.example/g01348/laws.FnExactGreedyPairing", spec := "fnExactGreedyPairing", inPlace := ["slices.overlaps[loop.example/g01348/impl.Pair]"], unfollowed := true, recurses := true, apart := false }
def FnExactGreedyPairingSaid : Prop := fnExactGreedyPairingRow.holds Try.pinned (OpenSpec.ofChange fnExactGreedyPairingSpec)

/-- ITS FALSE NEIGHBOUR: 'it returns false'. Refute it at one input. -/
def fnExactGreedyPairingWrong : ChangeSpec := { name := "fnExactGreedyPairing", fn := fun _ => fun
  | [d] => { results := [.lit (.bool false)], args := [d] }
  | _ => none }
def FnExactGreedyPairingWrongFalsely : Prop := fnExactGreedyPairingRow.holds Try.pinned (OpenSpec.ofChange fnExactGreedyPairingWrong)

/-- 'laws.FnExactAddPair': WHATEVER THE INPUT: true; the input reads as it did. -/
def fnExactAddPairSpec : ChangeSpec := { name := "fnExactAddPair", fn := fun _ => fun
  | [d1, d2, d3] => { results := [.lit (.bool true)], args := [d1, d2, d3] }
  | _ => none }
def fnExactAddPairRow : OpenClaim := { program := "ytniikppojffiaaa", sum := "f40968c6dbe2527b7df0e5b51f68678c628e98a1a597e95235b479e568fe0c77", func := "loop.example/g01348/laws.FnExactAddPair", spec := "fnExactAddPair", inPlace := ["slices.overlaps[loop.example/g01348/impl.Pair]"], unfollowed := true, recurses := true, apart := false }
def FnExactAddPairSaid : Prop := fnExactAddPairRow.holds Try.pinned (OpenSpec.ofChange fnExactAddPairSpec)

/-- ITS FALSE NEIGHBOUR: 'it returns false'. Refute it at one input. -/
def fnExactAddPairWrong : ChangeSpec := { name := "fnExactAddPair", fn := fun _ => fun
  | [d1, d2, d3] => { results := [.lit (.bool false)], args := [d1, d2, d3] }
  | _ => none }
def FnExactAddPairWrongFalsely : Prop := fnExactAddPairRow.holds Try.pinned (OpenSpec.ofChange fnExactAddPairWrong)

/-- 'laws.FnExactIsMorseFunction': WHATEVER THE INPUT: true; the input reads as it did. -/
def fnExactIsMorseFunctionSpec : ChangeSpec := { name := "fnExactIsMorseFunction", fn := fun _ => fun
  | [d1, d2] => { results := [.lit (.bool true)], args := [d1, d2] }
  | _ => none }
def fnExactIsMorseFunctionRow : OpenClaim := { program := "ytniikppojffiaaa", sum := "f40968c6dbe2527b7df0e5b51f68678c628e98a1a597e95235b479e568fe0c77", func := "loop.example/g01348/laws.FnExactIsMorseFunction", spec := "fnExactIsMorseFunction", unfollowed := true, recurses := true, apart := false }
def FnExactIsMorseFunctionSaid : Prop := fnExactIsMorseFunctionRow.holds Try.pinned (OpenSpec.ofChange fnExactIsMorseFunctionSpec)

/-- ITS FALSE NEIGHBOUR: 'it returns false'. Refute it at one input. -/
def fnExactIsMorseFunctionWrong : ChangeSpec := { name := "fnExactIsMorseFunction", fn := fun _ => fun
  | [d1, d2] => { results := [.lit (.bool false)], args := [d1, d2] }
  | _ => none }
def FnExactIsMorseFunctionWrongFalsely : Prop := fnExactIsMorseFunctionRow.holds Try.pinned (OpenSpec.ofChange fnExactIsMorseFunctionWrong)

/-- 'laws.FnExactPairingOfFunction': WHATEVER THE INPUT: true; the input reads as it did. -/
def fnExactPairingOfFunctionSpec : ChangeSpec := { name := "fnExactPairingOfFunction", fn := fun _ => fun
  | [d1, d2] => { results := [.lit (.bool true)], args := [d1, d2] }
  | _ => none }
def fnExactPairingOfFunctionRow : OpenClaim := { program := "ytniikppojffiaaa", sum := "f40968c6dbe2527b7df0e5b51f68678c628e98a1a597e95235b479e568fe0c77", func := "loop.example/g01348/laws.FnExactPairingOfFunction", spec := "fnExactPairingOfFunction", unfollowed := true, recurses := true, apart := false }
def FnExactPairingOfFunctionSaid : Prop := fnExactPairingOfFunctionRow.holds Try.pinned (OpenSpec.ofChange fnExactPairingOfFunctionSpec)

/-- ITS FALSE NEIGHBOUR: 'it returns false'. Refute it at one input. -/
def fnExactPairingOfFunctionWrong : ChangeSpec := { name := "fnExactPairingOfFunction", fn := fun _ => fun
  | [d1, d2] => { results := [.lit (.bool false)], args := [d1, d2] }
  | _ => none }
def FnExactPairingOfFunctionWrongFalsely : Prop := fnExactPairingOfFunctionRow.holds Try.pinned (OpenSpec.ofChange fnExactPairingOfFunctionWrong)

/-- 'laws.FnExactAreEquivalent': WHATEVER THE INPUT: true; the input reads as it did. -/
def fnExactAreEquivalentSpec : ChangeSpec := { name := "fnExactAreEquivalent", fn := fun _ => fun
  | [d1, d2, d3] => { results := [.lit (.bool true)], args := [d1, d2, d3] }
  | _ => none }
def fnExactAreEquivalentRow : OpenClaim := { program := "ytniikppojffiaaa", sum := "f40968c6dbe2527b7df0e5b51f68678c628e98a1a597e95235b479e568fe0c77", func := "loop.example/g01348/laws.FnExactAreEquivalent", spec := "fnExactAreEquivalent", unfollowed := true, recurses := true, apart := false }
def FnExactAreEquivalentSaid : Prop := fnExactAreEquivalentRow.holds Try.pinned (OpenSpec.ofChange fnExactAreEquivalentSpec)

/-- ITS FALSE NEIGHBOUR: 'it returns false'. Refute it at one input. -/
def fnExactAreEquivalentWrong : ChangeSpec := { name := "fnExactAreEquivalent", fn := fun _ => fun
  | [d1, d2, d3] => { results := [.lit (.bool false)], args := [d1, d2, d3] }
  | _ => none }
def FnExactAreEquivalentWrongFalsely : Prop := fnExactAreEquivalentRow.holds Try.pinned (OpenSpec.ofChange fnExactAreEquivalentWrong)

/-- 'laws.FnExactIsFlat': WHATEVER THE INPUT: true; the input reads as it did. -/
def fnExactIsFlatSpec : ChangeSpec := { name := "fnExactIsFlat", fn := fun _ => fun
  | [d1, d2] => { results := [.lit (.bool true)], args := [d1, d2] }
  | _ => none }
def fnExactIsFlatRow : OpenClaim := { program := "ytniikppojffiaaa", sum := "f40968c6dbe2527b7df0e5b51f68678c628e98a1a597e95235b479e568fe0c77", func := "loop.example/g01348/laws.FnExactIsFlat", spec := "fnExactIsFlat", unfollowed := true, recurses := true, apart := false }
def FnExactIsFlatSaid : Prop := fnExactIsFlatRow.holds Try.pinned (OpenSpec.ofChange fnExactIsFlatSpec)

/-- ITS FALSE NEIGHBOUR: 'it returns false'. Refute it at one input. -/
def fnExactIsFlatWrong : ChangeSpec := { name := "fnExactIsFlat", fn := fun _ => fun
  | [d1, d2] => { results := [.lit (.bool false)], args := [d1, d2] }
  | _ => none }
def FnExactIsFlatWrongFalsely : Prop := fnExactIsFlatRow.holds Try.pinned (OpenSpec.ofChange fnExactIsFlatWrong)

/-- 'laws.FnExactCriticalValues': WHATEVER THE INPUT: true; the input reads as it did. -/
def fnExactCriticalValuesSpec : ChangeSpec := { name := "fnExactCriticalValues", fn := fun _ => fun
  | [d1, d2] => { results := [.lit (.bool true)], args := [d1, d2] }
  | _ => none }
def fnExactCriticalValuesRow : OpenClaim := { program := "ytniikppojffiaaa", sum := "f40968c6dbe2527b7df0e5b51f68678c628e98a1a597e95235b479e568fe0c77", func := "loop.example/g01348/laws.FnExactCriticalValues", spec := "fnExactCriticalValues", unfollowed := true, recurses := true, apart := false }
def FnExactCriticalValuesSaid : Prop := fnExactCriticalValuesRow.holds Try.pinned (OpenSpec.ofChange fnExactCriticalValuesSpec)

/-- ITS FALSE NEIGHBOUR: 'it returns false'. Refute it at one input. -/
def fnExactCriticalValuesWrong : ChangeSpec := { name := "fnExactCriticalValues", fn := fun _ => fun
  | [d1, d2] => { results := [.lit (.bool false)], args := [d1, d2] }
  | _ => none }
def FnExactCriticalValuesWrongFalsely : Prop := fnExactCriticalValuesRow.holds Try.pinned (OpenSpec.ofChange fnExactCriticalValuesWrong)

/- THE SECOND FORM. 'bulk': how many values and letters a reading holds, each counted each time it is reached (what is shared counts as often as it is met; a slice's spare places count too). A statement '..UptoSaid' is the law's where the arguments, and the package variables that the reading takes, are together of bulk at most 1048576: NARROWER than '..Said'. Prove '..Said' where nothing that the law and all that it calls make is longer than what came in: it says more and counts as full. Else prove '..UptoSaid'. A law counts once. -/
mutual
def uptoBulk {H : Type} : DataW H → Nat
  | .lit (.string bytes) => bytes.length + 1
  | .lit _ => 1
  | .nil => 1
  | .ptr d => uptoBulk d + 1
  | .slice elems spare => uptoBulkAll elems + uptoBulkAll spare + 1
  | .agg parts => uptoBulkAll parts + 1
  | .iface _ d => uptoBulk d + 1
  | .map entries => uptoBulkEntries entries + 1
  | .held _ => 1
def uptoBulkAll {H : Type} : List (DataW H) → Nat
  | [] => 0
  | d :: r => uptoBulk d + uptoBulkAll r
def uptoBulkEntries {H : Type} : List (Lit × DataW H) → Nat
  | [] => 0
  | x :: r => uptoBulkEntry x + uptoBulkEntries r
def uptoBulkEntry {H : Type} : Lit × DataW H → Nat
  | (.string bytes, d) => bytes.length + uptoBulk d + 1
  | (_, d) => uptoBulk d + 1
 end
def uptoSmall : (H : Type) → List (DataW H) → Bool := fun _ ds => decide (uptoBulkAll ds ≤ 1048576)
def OpenSpec.upto (s : _root_.Go.ChangeSpec) : _root_.Go.OpenSpec := { _root_.Go.OpenSpec.ofChange s with cond := some uptoSmall }

/-- 'laws.FnExactIsPairing', WHERE WHAT IT READS IS OF BULK AT MOST 1048576: true; the input reads as it did. -/
def fnExactIsPairingUptoRow : OpenClaim := { program := "ytniikppojffiaaa", sum := "f40968c6dbe2527b7df0e5b51f68678c628e98a1a597e95235b479e568fe0c77", func := "loop.example/g01348/laws.FnExactIsPairing", spec := "fnExactIsPairing", unfollowed := true, recurses := true, apart := false, narrowed := true }
def FnExactIsPairingUptoSaid : Prop := fnExactIsPairingUptoRow.holds Try.pinned (OpenSpec.upto fnExactIsPairingSpec)

/-- 'laws.FnExactCriticalFaces', WHERE WHAT IT READS IS OF BULK AT MOST 1048576: true; the input reads as it did. -/
def fnExactCriticalFacesUptoRow : OpenClaim := { program := "ytniikppojffiaaa", sum := "f40968c6dbe2527b7df0e5b51f68678c628e98a1a597e95235b479e568fe0c77", func := "loop.example/g01348/laws.FnExactCriticalFaces", spec := "fnExactCriticalFaces", unfollowed := true, recurses := true, apart := false, narrowed := true }
def FnExactCriticalFacesUptoSaid : Prop := fnExactCriticalFacesUptoRow.holds Try.pinned (OpenSpec.upto fnExactCriticalFacesSpec)

/-- 'laws.FnExactCriticalNumbers', WHERE WHAT IT READS IS OF BULK AT MOST 1048576: true; the input reads as it did. -/
def fnExactCriticalNumbersUptoRow : OpenClaim := { program := "ytniikppojffiaaa", sum := "f40968c6dbe2527b7df0e5b51f68678c628e98a1a597e95235b479e568fe0c77", func := "loop.example/g01348/laws.FnExactCriticalNumbers", spec := "fnExactCriticalNumbers", unfollowed := true, recurses := true, apart := false, narrowed := true }
def FnExactCriticalNumbersUptoSaid : Prop := fnExactCriticalNumbersUptoRow.holds Try.pinned (OpenSpec.upto fnExactCriticalNumbersSpec)

/-- 'laws.FnExactIsAcyclicPairing', WHERE WHAT IT READS IS OF BULK AT MOST 1048576: true; the input reads as it did. -/
def fnExactIsAcyclicPairingUptoRow : OpenClaim := { program := "ytniikppojffiaaa", sum := "f40968c6dbe2527b7df0e5b51f68678c628e98a1a597e95235b479e568fe0c77", func := "loop.example/g01348/laws.FnExactIsAcyclicPairing", spec := "fnExactIsAcyclicPairing", unfollowed := true, recurses := true, apart := false, narrowed := true }
def FnExactIsAcyclicPairingUptoSaid : Prop := fnExactIsAcyclicPairingUptoRow.holds Try.pinned (OpenSpec.upto fnExactIsAcyclicPairingSpec)

/-- 'laws.FnExactFacesOnCycles', WHERE WHAT IT READS IS OF BULK AT MOST 1048576: true; the input reads as it did. -/
def fnExactFacesOnCyclesUptoRow : OpenClaim := { program := "ytniikppojffiaaa", sum := "f40968c6dbe2527b7df0e5b51f68678c628e98a1a597e95235b479e568fe0c77", func := "loop.example/g01348/laws.FnExactFacesOnCycles", spec := "fnExactFacesOnCycles", unfollowed := true, recurses := true, apart := false, narrowed := true }
def FnExactFacesOnCyclesUptoSaid : Prop := fnExactFacesOnCyclesUptoRow.holds Try.pinned (OpenSpec.upto fnExactFacesOnCyclesSpec)

/-- 'laws.FnExactFacesReached', WHERE WHAT IT READS IS OF BULK AT MOST 1048576: true; the input reads as it did. -/
def fnExactFacesReachedUptoRow : OpenClaim := { program := "ytniikppojffiaaa", sum := "f40968c6dbe2527b7df0e5b51f68678c628e98a1a597e95235b479e568fe0c77", func := "loop.example/g01348/laws.FnExactFacesReached", spec := "fnExactFacesReached", unfollowed := true, recurses := true, apart := false, narrowed := true }
def FnExactFacesReachedUptoSaid : Prop := fnExactFacesReachedUptoRow.holds Try.pinned (OpenSpec.upto fnExactFacesReachedSpec)

/-- 'laws.FnExactCountGradientWays', WHERE WHAT IT READS IS OF BULK AT MOST 1048576: true; the input reads as it did. -/
def fnExactCountGradientWaysUptoRow : OpenClaim := { program := "ytniikppojffiaaa", sum := "f40968c6dbe2527b7df0e5b51f68678c628e98a1a597e95235b479e568fe0c77", func := "loop.example/g01348/laws.FnExactCountGradientWays", spec := "fnExactCountGradientWays", unfollowed := true, recurses := true, apart := false, narrowed := true }
def FnExactCountGradientWaysUptoSaid : Prop := fnExactCountGradientWaysUptoRow.holds Try.pinned (OpenSpec.upto fnExactCountGradientWaysSpec)

/-- 'laws.FnExactGreedyPairing', WHERE WHAT IT READS IS OF BULK AT MOST 1048576: true; the input reads as it did. -/
def fnExactGreedyPairingUptoRow : OpenClaim := { program := "ytniikppojffiaaa", sum := "f40968c6dbe2527b7df0e5b51f68678c628e98a1a597e95235b479e568fe0c77", func := "loop.example/g01348/laws.FnExactGreedyPairing", spec := "fnExactGreedyPairing", inPlace := ["slices.overlaps[loop.example/g01348/impl.Pair]"], unfollowed := true, recurses := true, apart := false, narrowed := true }
def FnExactGreedyPairingUptoSaid : Prop := fnExactGreedyPairingUptoRow.holds Try.pinned (OpenSpec.upto fnExactGreedyPairingSpec)

/-- 'laws.FnExactAddPair', WHERE WHAT IT READS IS OF BULK AT MOST 1048576: true; the input reads as it did. -/
def fnExactAddPairUptoRow : OpenClaim := { program := "ytniikppojffiaaa", sum := "f40968c6dbe2527b7df0e5b51f68678c628e98a1a597e95235b479e568fe0c77", func := "loop.example/g01348/laws.FnExactAddPair", spec := "fnExactAddPair", inPlace := ["slices.overlaps[loop.example/g01348/impl.Pair]"], unfollowed := true, recurses := true, apart := false, narrowed := true }
def FnExactAddPairUptoSaid : Prop := fnExactAddPairUptoRow.holds Try.pinned (OpenSpec.upto fnExactAddPairSpec)

/-- 'laws.FnExactIsMorseFunction', WHERE WHAT IT READS IS OF BULK AT MOST 1048576: true; the input reads as it did. -/
def fnExactIsMorseFunctionUptoRow : OpenClaim := { program := "ytniikppojffiaaa", sum := "f40968c6dbe2527b7df0e5b51f68678c628e98a1a597e95235b479e568fe0c77", func := "loop.example/g01348/laws.FnExactIsMorseFunction", spec := "fnExactIsMorseFunction", unfollowed := true, recurses := true, apart := false, narrowed := true }
def FnExactIsMorseFunctionUptoSaid : Prop := fnExactIsMorseFunctionUptoRow.holds Try.pinned (OpenSpec.upto fnExactIsMorseFunctionSpec)

/-- 'laws.FnExactPairingOfFunction', WHERE WHAT IT READS IS OF BULK AT MOST 1048576: true; the input reads as it did. -/
def fnExactPairingOfFunctionUptoRow : OpenClaim := { program := "ytniikppojffiaaa", sum := "f40968c6dbe2527b7df0e5b51f68678c628e98a1a597e95235b479e568fe0c77", func := "loop.example/g01348/laws.FnExactPairingOfFunction", spec := "fnExactPairingOfFunction", unfollowed := true, recurses := true, apart := false, narrowed := true }
def FnExactPairingOfFunctionUptoSaid : Prop := fnExactPairingOfFunctionUptoRow.holds Try.pinned (OpenSpec.upto fnExactPairingOfFunctionSpec)

/-- 'laws.FnExactAreEquivalent', WHERE WHAT IT READS IS OF BULK AT MOST 1048576: true; the input reads as it did. -/
def fnExactAreEquivalentUptoRow : OpenClaim := { program := "ytniikppojffiaaa", sum := "f40968c6dbe2527b7df0e5b51f68678c628e98a1a597e95235b479e568fe0c77", func := "loop.example/g01348/laws.FnExactAreEquivalent", spec := "fnExactAreEquivalent", unfollowed := true, recurses := true, apart := false, narrowed := true }
def FnExactAreEquivalentUptoSaid : Prop := fnExactAreEquivalentUptoRow.holds Try.pinned (OpenSpec.upto fnExactAreEquivalentSpec)

/-- 'laws.FnExactIsFlat', WHERE WHAT IT READS IS OF BULK AT MOST 1048576: true; the input reads as it did. -/
def fnExactIsFlatUptoRow : OpenClaim := { program := "ytniikppojffiaaa", sum := "f40968c6dbe2527b7df0e5b51f68678c628e98a1a597e95235b479e568fe0c77", func := "loop.example/g01348/laws.FnExactIsFlat", spec := "fnExactIsFlat", unfollowed := true, recurses := true, apart := false, narrowed := true }
def FnExactIsFlatUptoSaid : Prop := fnExactIsFlatUptoRow.holds Try.pinned (OpenSpec.upto fnExactIsFlatSpec)

/-- 'laws.FnExactCriticalValues', WHERE WHAT IT READS IS OF BULK AT MOST 1048576: true; the input reads as it did. -/
def fnExactCriticalValuesUptoRow : OpenClaim := { program := "ytniikppojffiaaa", sum := "f40968c6dbe2527b7df0e5b51f68678c628e98a1a597e95235b479e568fe0c77", func := "loop.example/g01348/laws.FnExactCriticalValues", spec := "fnExactCriticalValues", unfollowed := true, recurses := true, apart := false, narrowed := true }
def FnExactCriticalValuesUptoSaid : Prop := fnExactCriticalValuesUptoRow.holds Try.pinned (OpenSpec.upto fnExactCriticalValuesSpec)

end Rows
end Go.Proofs.Ytniikppojffiaaa
