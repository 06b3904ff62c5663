/-
  No cell of these rows narrows 'for every input' (looked for: loops, veiled, ifaces, maps, wideKeys, modest, calm, conditions, laid).
  DERIVED. THE GIVEN ROWS OF THIS SEAT. 11 by the template 'for every input the law returns true; each argument reads behind the call as it read before'; 0 by the template 'total and deterministic' (their statements: YthganpmmhfoodaaTotals.lean).
  GIVEN WITH THE SEED: the statements are not yours to turn. If you find one false, say at which input.
  Laid BY PROGRAM, IN A SANDBOX (cutbox-rows.mjs): the forced cells as the released guide's own fill.sh prints them over the translation 9422f3e650477878… (all of the seat's roots in one cut). By AI agents, Wed Nov 11 2026. No macro, syntax, notation, axiom, sorry.
-/
import Derived.Test.YthganpmmhfoodaaChecked
import GoSem.Claim
import GoSem.ClaimJoined
import GoSem.ClaimMapViews
import Derived.JoinedTies
import Derived.KernelRfl
namespace Go.Proofs.Ythganpmmhfoodaa
/- THE CELL 'sum', in the pinned program and in every row, IS THE sha256 OF THE DUMP (.gsa) THAT YthganpmmhfoodaaProg.lean LOADS. Nothing in Lean hashes anything: it is a label: what it is worth is what the hold of that sum in a sandbox is worth. -/
noncomputable def Try.pinned : Pinned := { name := "ythganpmmhfoodaa", sum := "9422f3e650477878e353cfe69dfe079680c9eddb960a7762787c38e33ca7a642", checked := Try.checked }
namespace Rows
def none {H : Type} : Left H := { results := [], args := [] }

/-- 'laws.FnExactSignsOf': WHATEVER THE INPUT: true; the input reads as it did. -/
def fnExactSignsOfSpec : ChangeSpec := { name := "fnExactSignsOf", fn := fun _ => fun
  | [d1, d2] => { results := [.lit (.bool true)], args := [d1, d2] }
  | _ => none }
def fnExactSignsOfRow : OpenClaim := { program := "ythganpmmhfoodaa", sum := "9422f3e650477878e353cfe69dfe079680c9eddb960a7762787c38e33ca7a642", func := "loop.example/g01348/laws.FnExactSignsOf", spec := "fnExactSignsOf", unfollowed := true, recurses := true, apart := false }
def FnExactSignsOfSaid : Prop := fnExactSignsOfRow.holds Try.pinned (OpenSpec.ofChange fnExactSignsOfSpec)

/-- ITS FALSE NEIGHBOUR: 'it returns false'. Refute it at one input. -/
def fnExactSignsOfWrong : ChangeSpec := { name := "fnExactSignsOf", fn := fun _ => fun
  | [d1, d2] => { results := [.lit (.bool false)], args := [d1, d2] }
  | _ => none }
def FnExactSignsOfWrongFalsely : Prop := fnExactSignsOfRow.holds Try.pinned (OpenSpec.ofChange fnExactSignsOfWrong)

/-- 'laws.FnExactSkeletonOf': WHATEVER THE INPUT: true; the input reads as it did. -/
def fnExactSkeletonOfSpec : ChangeSpec := { name := "fnExactSkeletonOf", fn := fun _ => fun
  | [d1, d2] => { results := [.lit (.bool true)], args := [d1, d2] }
  | _ => none }
def fnExactSkeletonOfRow : OpenClaim := { program := "ythganpmmhfoodaa", sum := "9422f3e650477878e353cfe69dfe079680c9eddb960a7762787c38e33ca7a642", func := "loop.example/g01348/laws.FnExactSkeletonOf", spec := "fnExactSkeletonOf", unfollowed := true, recurses := true, apart := false }
def FnExactSkeletonOfSaid : Prop := fnExactSkeletonOfRow.holds Try.pinned (OpenSpec.ofChange fnExactSkeletonOfSpec)

/-- ITS FALSE NEIGHBOUR: 'it returns false'. Refute it at one input. -/
def fnExactSkeletonOfWrong : ChangeSpec := { name := "fnExactSkeletonOf", fn := fun _ => fun
  | [d1, d2] => { results := [.lit (.bool false)], args := [d1, d2] }
  | _ => none }
def FnExactSkeletonOfWrongFalsely : Prop := fnExactSkeletonOfRow.holds Try.pinned (OpenSpec.ofChange fnExactSkeletonOfWrong)

/-- 'laws.FnExactCountFaces': WHATEVER THE INPUT: true; the input reads as it did. -/
def fnExactCountFacesSpec : ChangeSpec := { name := "fnExactCountFaces", fn := fun _ => fun
  | [d] => { results := [.lit (.bool true)], args := [d] }
  | _ => none }
def fnExactCountFacesRow : OpenClaim := { program := "ythganpmmhfoodaa", sum := "9422f3e650477878e353cfe69dfe079680c9eddb960a7762787c38e33ca7a642", func := "loop.example/g01348/laws.FnExactCountFaces", spec := "fnExactCountFaces", unfollowed := true, recurses := true, apart := false }
def FnExactCountFacesSaid : Prop := fnExactCountFacesRow.holds Try.pinned (OpenSpec.ofChange fnExactCountFacesSpec)

/-- ITS FALSE NEIGHBOUR: 'it returns false'. Refute it at one input. -/
def fnExactCountFacesWrong : ChangeSpec := { name := "fnExactCountFaces", fn := fun _ => fun
  | [d] => { results := [.lit (.bool false)], args := [d] }
  | _ => none }
def FnExactCountFacesWrongFalsely : Prop := fnExactCountFacesRow.holds Try.pinned (OpenSpec.ofChange fnExactCountFacesWrong)

/-- 'laws.FnExactFacesOf': WHATEVER THE INPUT: true; the input reads as it did. -/
def fnExactFacesOfSpec : ChangeSpec := { name := "fnExactFacesOf", fn := fun _ => fun
  | [d1, d2] => { results := [.lit (.bool true)], args := [d1, d2] }
  | _ => none }
def fnExactFacesOfRow : OpenClaim := { program := "ythganpmmhfoodaa", sum := "9422f3e650477878e353cfe69dfe079680c9eddb960a7762787c38e33ca7a642", func := "loop.example/g01348/laws.FnExactFacesOf", spec := "fnExactFacesOf", unfollowed := true, recurses := true, apart := false }
def FnExactFacesOfSaid : Prop := fnExactFacesOfRow.holds Try.pinned (OpenSpec.ofChange fnExactFacesOfSpec)

/-- ITS FALSE NEIGHBOUR: 'it returns false'. Refute it at one input. -/
def fnExactFacesOfWrong : ChangeSpec := { name := "fnExactFacesOf", fn := fun _ => fun
  | [d1, d2] => { results := [.lit (.bool false)], args := [d1, d2] }
  | _ => none }
def FnExactFacesOfWrongFalsely : Prop := fnExactFacesOfRow.holds Try.pinned (OpenSpec.ofChange fnExactFacesOfWrong)

/-- 'laws.FnExactComponentsOf': WHATEVER THE INPUT: true; the input reads as it did. -/
def fnExactComponentsOfSpec : ChangeSpec := { name := "fnExactComponentsOf", fn := fun _ => fun
  | [d] => { results := [.lit (.bool true)], args := [d] }
  | _ => none }
def fnExactComponentsOfRow : OpenClaim := { program := "ythganpmmhfoodaa", sum := "9422f3e650477878e353cfe69dfe079680c9eddb960a7762787c38e33ca7a642", func := "loop.example/g01348/laws.FnExactComponentsOf", spec := "fnExactComponentsOf", unfollowed := true, recurses := true, apart := false }
def FnExactComponentsOfSaid : Prop := fnExactComponentsOfRow.holds Try.pinned (OpenSpec.ofChange fnExactComponentsOfSpec)

/-- ITS FALSE NEIGHBOUR: 'it returns false'. Refute it at one input. -/
def fnExactComponentsOfWrong : ChangeSpec := { name := "fnExactComponentsOf", fn := fun _ => fun
  | [d] => { results := [.lit (.bool false)], args := [d] }
  | _ => none }
def FnExactComponentsOfWrongFalsely : Prop := fnExactComponentsOfRow.holds Try.pinned (OpenSpec.ofChange fnExactComponentsOfWrong)

/-- 'laws.FnExactRankOf': WHATEVER THE INPUT: true; the input reads as it did. -/
def fnExactRankOfSpec : ChangeSpec := { name := "fnExactRankOf", fn := fun _ => fun
  | [d1, d2, d3] => { results := [.lit (.bool true)], args := [d1, d2, d3] }
  | _ => none }
def fnExactRankOfRow : OpenClaim := { program := "ythganpmmhfoodaa", sum := "9422f3e650477878e353cfe69dfe079680c9eddb960a7762787c38e33ca7a642", func := "loop.example/g01348/laws.FnExactRankOf", spec := "fnExactRankOf", unfollowed := true, recurses := true, apart := false }
def FnExactRankOfSaid : Prop := fnExactRankOfRow.holds Try.pinned (OpenSpec.ofChange fnExactRankOfSpec)

/-- ITS FALSE NEIGHBOUR: 'it returns false'. Refute it at one input. -/
def fnExactRankOfWrong : ChangeSpec := { name := "fnExactRankOf", fn := fun _ => fun
  | [d1, d2, d3] => { results := [.lit (.bool false)], args := [d1, d2, d3] }
  | _ => none }
def FnExactRankOfWrongFalsely : Prop := fnExactRankOfRow.holds Try.pinned (OpenSpec.ofChange fnExactRankOfWrong)

/-- 'laws.FnExactCountCycles': WHATEVER THE INPUT: true; the input reads as it did. -/
def fnExactCountCyclesSpec : ChangeSpec := { name := "fnExactCountCycles", fn := fun _ => fun
  | [d1, d2] => { results := [.lit (.bool true)], args := [d1, d2] }
  | _ => none }
def fnExactCountCyclesRow : OpenClaim := { program := "ythganpmmhfoodaa", sum := "9422f3e650477878e353cfe69dfe079680c9eddb960a7762787c38e33ca7a642", func := "loop.example/g01348/laws.FnExactCountCycles", spec := "fnExactCountCycles", unfollowed := true, recurses := true, apart := false }
def FnExactCountCyclesSaid : Prop := fnExactCountCyclesRow.holds Try.pinned (OpenSpec.ofChange fnExactCountCyclesSpec)

/-- ITS FALSE NEIGHBOUR: 'it returns false'. Refute it at one input. -/
def fnExactCountCyclesWrong : ChangeSpec := { name := "fnExactCountCycles", fn := fun _ => fun
  | [d1, d2] => { results := [.lit (.bool false)], args := [d1, d2] }
  | _ => none }
def FnExactCountCyclesWrongFalsely : Prop := fnExactCountCyclesRow.holds Try.pinned (OpenSpec.ofChange fnExactCountCyclesWrong)

/-- 'laws.FnExactBettiNumbers': WHATEVER THE INPUT: true; the input reads as it did. -/
def fnExactBettiNumbersSpec : ChangeSpec := { name := "fnExactBettiNumbers", fn := fun _ => fun
  | [d1, d2] => { results := [.lit (.bool true)], args := [d1, d2] }
  | _ => none }
def fnExactBettiNumbersRow : OpenClaim := { program := "ythganpmmhfoodaa", sum := "9422f3e650477878e353cfe69dfe079680c9eddb960a7762787c38e33ca7a642", func := "loop.example/g01348/laws.FnExactBettiNumbers", spec := "fnExactBettiNumbers", unfollowed := true, recurses := true, apart := false }
def FnExactBettiNumbersSaid : Prop := fnExactBettiNumbersRow.holds Try.pinned (OpenSpec.ofChange fnExactBettiNumbersSpec)

/-- ITS FALSE NEIGHBOUR: 'it returns false'. Refute it at one input. -/
def fnExactBettiNumbersWrong : ChangeSpec := { name := "fnExactBettiNumbers", fn := fun _ => fun
  | [d1, d2] => { results := [.lit (.bool false)], args := [d1, d2] }
  | _ => none }
def FnExactBettiNumbersWrongFalsely : Prop := fnExactBettiNumbersRow.holds Try.pinned (OpenSpec.ofChange fnExactBettiNumbersWrong)

/-- 'laws.FnExactIsAcyclicComplex': WHATEVER THE INPUT: true; the input reads as it did. -/
def fnExactIsAcyclicComplexSpec : ChangeSpec := { name := "fnExactIsAcyclicComplex", fn := fun _ => fun
  | [d1, d2] => { results := [.lit (.bool true)], args := [d1, d2] }
  | _ => none }
def fnExactIsAcyclicComplexRow : OpenClaim := { program := "ythganpmmhfoodaa", sum := "9422f3e650477878e353cfe69dfe079680c9eddb960a7762787c38e33ca7a642", func := "loop.example/g01348/laws.FnExactIsAcyclicComplex", spec := "fnExactIsAcyclicComplex", unfollowed := true, recurses := true, apart := false }
def FnExactIsAcyclicComplexSaid : Prop := fnExactIsAcyclicComplexRow.holds Try.pinned (OpenSpec.ofChange fnExactIsAcyclicComplexSpec)

/-- ITS FALSE NEIGHBOUR: 'it returns false'. Refute it at one input. -/
def fnExactIsAcyclicComplexWrong : ChangeSpec := { name := "fnExactIsAcyclicComplex", fn := fun _ => fun
  | [d1, d2] => { results := [.lit (.bool false)], args := [d1, d2] }
  | _ => none }
def FnExactIsAcyclicComplexWrongFalsely : Prop := fnExactIsAcyclicComplexRow.holds Try.pinned (OpenSpec.ofChange fnExactIsAcyclicComplexWrong)

/-- 'laws.FnExactBounds': WHATEVER THE INPUT: true; the input reads as it did. -/
def fnExactBoundsSpec : ChangeSpec := { name := "fnExactBounds", fn := fun _ => fun
  | [d1, d2] => { results := [.lit (.bool true)], args := [d1, d2] }
  | _ => none }
def fnExactBoundsRow : OpenClaim := { program := "ythganpmmhfoodaa", sum := "9422f3e650477878e353cfe69dfe079680c9eddb960a7762787c38e33ca7a642", func := "loop.example/g01348/laws.FnExactBounds", spec := "fnExactBounds", unfollowed := true, recurses := true, apart := false }
def FnExactBoundsSaid : Prop := fnExactBoundsRow.holds Try.pinned (OpenSpec.ofChange fnExactBoundsSpec)

/-- ITS FALSE NEIGHBOUR: 'it returns false'. Refute it at one input. -/
def fnExactBoundsWrong : ChangeSpec := { name := "fnExactBounds", fn := fun _ => fun
  | [d1, d2] => { results := [.lit (.bool false)], args := [d1, d2] }
  | _ => none }
def FnExactBoundsWrongFalsely : Prop := fnExactBoundsRow.holds Try.pinned (OpenSpec.ofChange fnExactBoundsWrong)

/-- 'laws.FnExactAreHomologous': WHATEVER THE INPUT: true; the input reads as it did. -/
def fnExactAreHomologousSpec : ChangeSpec := { name := "fnExactAreHomologous", fn := fun _ => fun
  | [d1, d2, d3] => { results := [.lit (.bool true)], args := [d1, d2, d3] }
  | _ => none }
def fnExactAreHomologousRow : OpenClaim := { program := "ythganpmmhfoodaa", sum := "9422f3e650477878e353cfe69dfe079680c9eddb960a7762787c38e33ca7a642", func := "loop.example/g01348/laws.FnExactAreHomologous", spec := "fnExactAreHomologous", unfollowed := true, recurses := true, apart := false }
def FnExactAreHomologousSaid : Prop := fnExactAreHomologousRow.holds Try.pinned (OpenSpec.ofChange fnExactAreHomologousSpec)

/-- ITS FALSE NEIGHBOUR: 'it returns false'. Refute it at one input. -/
def fnExactAreHomologousWrong : ChangeSpec := { name := "fnExactAreHomologous", fn := fun _ => fun
  | [d1, d2, d3] => { results := [.lit (.bool false)], args := [d1, d2, d3] }
  | _ => none }
def FnExactAreHomologousWrongFalsely : Prop := fnExactAreHomologousRow.holds Try.pinned (OpenSpec.ofChange fnExactAreHomologousWrong)

/- THE SECOND FORM. 'bulk': how many values and letters a reading holds, each counted each time it is reached (what is shared counts as often as it is met; a slice's spare places count too). A statement '..UptoSaid' is the law's where the arguments, and the package variables that the reading takes, are together of bulk at most 1048576: NARROWER than '..Said'. Prove '..Said' where nothing that the law and all that it calls make is longer than what came in: it says more and counts as full. Else prove '..UptoSaid'. A law counts once. -/
mutual
def uptoBulk {H : Type} : DataW H → Nat
  | .lit (.string bytes) => bytes.length + 1
  | .lit _ => 1
  | .nil => 1
  | .ptr d => uptoBulk d + 1
  | .slice elems spare => uptoBulkAll elems + uptoBulkAll spare + 1
  | .agg parts => uptoBulkAll parts + 1
  | .iface _ d => uptoBulk d + 1
  | .map entries => uptoBulkEntries entries + 1
  | .held _ => 1
def uptoBulkAll {H : Type} : List (DataW H) → Nat
  | [] => 0
  | d :: r => uptoBulk d + uptoBulkAll r
def uptoBulkEntries {H : Type} : List (Lit × DataW H) → Nat
  | [] => 0
  | x :: r => uptoBulkEntry x + uptoBulkEntries r
def uptoBulkEntry {H : Type} : Lit × DataW H → Nat
  | (.string bytes, d) => bytes.length + uptoBulk d + 1
  | (_, d) => uptoBulk d + 1
 end
def uptoSmall : (H : Type) → List (DataW H) → Bool := fun _ ds => decide (uptoBulkAll ds ≤ 1048576)
def OpenSpec.upto (s : _root_.Go.ChangeSpec) : _root_.Go.OpenSpec := { _root_.Go.OpenSpec.ofChange s with cond := some uptoSmall }

/-- 'laws.FnExactSignsOf', WHERE WHAT IT READS IS OF BULK AT MOST 1048576: true; the input reads as it did. -/
def fnExactSignsOfUptoRow : OpenClaim := { program := "ythganpmmhfoodaa", sum := "9422f3e650477878e353cfe69dfe079680c9eddb960a7762787c38e33ca7a642", func := "loop.example/g01348/laws.FnExactSignsOf", spec := "fnExactSignsOf", unfollowed := true, recurses := true, apart := false, narrowed := true }
def FnExactSignsOfUptoSaid : Prop := fnExactSignsOfUptoRow.holds Try.pinned (OpenSpec.upto fnExactSignsOfSpec)

/-- 'laws.FnExactSkeletonOf', WHERE WHAT IT READS IS OF BULK AT MOST 1048576: true; the input reads as it did. -/
def fnExactSkeletonOfUptoRow : OpenClaim := { program := "ythganpmmhfoodaa", sum := "9422f3e650477878e353cfe69dfe079680c9eddb960a7762787c38e33ca7a642", func := "loop.example/g01348/laws.FnExactSkeletonOf", spec := "fnExactSkeletonOf", unfollowed := true, recurses := true, apart := false, narrowed := true }
def FnExactSkeletonOfUptoSaid : Prop := fnExactSkeletonOfUptoRow.holds Try.pinned (OpenSpec.upto fnExactSkeletonOfSpec)

/-- 'laws.FnExactCountFaces', WHERE WHAT IT READS IS OF BULK AT MOST 1048576: true; the input reads as it did. -/
def fnExactCountFacesUptoRow : OpenClaim := { program := "ythganpmmhfoodaa", sum := "9422f3e650477878e353cfe69dfe079680c9eddb960a7762787c38e33ca7a642", func := "loop.example/g01348/laws.FnExactCountFaces", spec := "fnExactCountFaces", unfollowed := true, recurses := true, apart := false, narrowed := true }
def FnExactCountFacesUptoSaid : Prop := fnExactCountFacesUptoRow.holds Try.pinned (OpenSpec.upto fnExactCountFacesSpec)

/-- 'laws.FnExactFacesOf', WHERE WHAT IT READS IS OF BULK AT MOST 1048576: true; the input reads as it did. -/
def fnExactFacesOfUptoRow : OpenClaim := { program := "ythganpmmhfoodaa", sum := "9422f3e650477878e353cfe69dfe079680c9eddb960a7762787c38e33ca7a642", func := "loop.example/g01348/laws.FnExactFacesOf", spec := "fnExactFacesOf", unfollowed := true, recurses := true, apart := false, narrowed := true }
def FnExactFacesOfUptoSaid : Prop := fnExactFacesOfUptoRow.holds Try.pinned (OpenSpec.upto fnExactFacesOfSpec)

/-- 'laws.FnExactComponentsOf', WHERE WHAT IT READS IS OF BULK AT MOST 1048576: true; the input reads as it did. -/
def fnExactComponentsOfUptoRow : OpenClaim := { program := "ythganpmmhfoodaa", sum := "9422f3e650477878e353cfe69dfe079680c9eddb960a7762787c38e33ca7a642", func := "loop.example/g01348/laws.FnExactComponentsOf", spec := "fnExactComponentsOf", unfollowed := true, recurses := true, apart := false, narrowed := true }
def FnExactComponentsOfUptoSaid : Prop := fnExactComponentsOfUptoRow.holds Try.pinned (OpenSpec.upto fnExactComponentsOfSpec)

/-- 'laws.FnExactRankOf', WHERE WHAT IT READS IS OF BULK AT MOST 1048576: true; the input reads as it did. -/
def fnExactRankOfUptoRow : OpenClaim := { program := "ythganpmmhfoodaa", sum := "9422f3e650477878e353cfe69dfe079680c9eddb960a7762787c38e33ca7a642", func := "loop.example/g01348/laws.FnExactRankOf", spec := "fnExactRankOf", unfollowed := true, recurses := true, apart := false, narrowed := true }
def FnExactRankOfUptoSaid : Prop := fnExactRankOfUptoRow.holds Try.pinned (OpenSpec.upto fnExactRankOfSpec)

/-- 'laws.FnExactCountCycles', WHERE WHAT IT READS IS OF BULK AT MOST 1048576: true; the input reads as it did. -/
def fnExactCountCyclesUptoRow : OpenClaim := { program := "ythganpmmhfoodaa", sum := "9422f3e650477878e353cfe69dfe079680c9eddb960a7762787c38e33ca7a642", func := "loop.example/g01348/laws.FnExactCountCycles", spec := "fnExactCountCycles", unfollowed := true, recurses := true, apart := false, narrowed := true }
def FnExactCountCyclesUptoSaid : Prop := fnExactCountCyclesUptoRow.holds Try.pinned (OpenSpec.upto fnExactCountCyclesSpec)

/-- 'laws.FnExactBettiNumbers', WHERE WHAT IT READS IS OF BULK AT MOST 1048576: true; the input reads as it did. -/
def fnExactBettiNumbersUptoRow : OpenClaim := { program := "ythganpmmhfoodaa", sum := "9422f3e650477878e353cfe69dfe079680c9eddb960a7762787c38e33ca7a642", func := "loop.example/g01348/laws.FnExactBettiNumbers", spec := "fnExactBettiNumbers", unfollowed := true, recurses := true, apart := false, narrowed := true }
def FnExactBettiNumbersUptoSaid : Prop := fnExactBettiNumbersUptoRow.holds Try.pinned (OpenSpec.upto fnExactBettiNumbersSpec)

/-- 'laws.FnExactIsAcyclicComplex', WHERE WHAT IT READS IS OF BULK AT MOST 1048576: true; the input reads as it did. -/
def fnExactIsAcyclicComplexUptoRow : OpenClaim := { program := "ythganpmmhfoodaa", sum := "9422f3e650477878e353cfe69dfe079680c9eddb960a7762787c38e33ca7a642", func := "loop.example/g01348/laws.FnExactIsAcyclicComplex", spec := "fnExactIsAcyclicComplex", unfollowed := true, recurses := true, apart := false, narrowed := true }
def FnExactIsAcyclicComplexUptoSaid : Prop := fnExactIsAcyclicComplexUptoRow.holds Try.pinned (OpenSpec.upto fnExactIsAcyclicComplexSpec)

/-- 'laws.FnExactBounds', WHERE WHAT IT READS IS OF BULK AT MOST 1048576: true; the input reads as it did. -/
def fnExactBoundsUptoRow : OpenClaim := { program := "ythganpmmhfoodaa", sum := "9422f3e650477878e353cfe69dfe079680c9eddb960a7762787c38e33ca7a642", func := "loop.example/g01348/laws.FnExactBounds", spec := "fnExactBounds", unfollowed := true, recurses := true, apart := false, narrowed := true }
def FnExactBoundsUptoSaid : Prop := fnExactBoundsUptoRow.holds Try.pinned (OpenSpec.upto fnExactBoundsSpec)

/-- 'laws.FnExactAreHomologous', WHERE WHAT IT READS IS OF BULK AT MOST 1048576: true; the input reads as it did. -/
def fnExactAreHomologousUptoRow : OpenClaim := { program := "ythganpmmhfoodaa", sum := "9422f3e650477878e353cfe69dfe079680c9eddb960a7762787c38e33ca7a642", func := "loop.example/g01348/laws.FnExactAreHomologous", spec := "fnExactAreHomologous", unfollowed := true, recurses := true, apart := false, narrowed := true }
def FnExactAreHomologousUptoSaid : Prop := fnExactAreHomologousUptoRow.holds Try.pinned (OpenSpec.upto fnExactAreHomologousSpec)

end Rows
end Go.Proofs.Ythganpmmhfoodaa
