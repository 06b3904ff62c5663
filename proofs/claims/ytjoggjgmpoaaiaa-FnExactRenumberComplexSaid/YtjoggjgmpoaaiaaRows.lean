/-
  No cell of these rows narrows 'for every input' (looked for: loops, veiled, ifaces, maps, wideKeys, modest, calm, conditions, laid).
  DERIVED. THE GIVEN ROWS OF THIS SEAT. 4 by the template 'for every input the law returns true; each argument reads behind the call as it read before'; 0 by the template 'total and deterministic' (their statements: YtjoggjgmpoaaiaaTotals.lean).
  GIVEN WITH THE SEED: the statements are not yours to turn. If you find one false, say at which input.
  Laid BY PROGRAM, IN A SANDBOX (cutbox-rows.mjs): the forced cells as the released guide's own fill.sh prints them over the translation 0fc1f819e18c88a6… (all of the seat's roots in one cut). By AI agents, Wed Nov 11 2026. No macro, syntax, notation, axiom, sorry.
-/
import Derived.Test.YtjoggjgmpoaaiaaChecked
import GoSem.Claim
import GoSem.ClaimJoined
import GoSem.ClaimMapViews
import Derived.JoinedTies
import Derived.KernelRfl
namespace Go.Proofs.Ytjoggjgmpoaaiaa
/- THE CELL 'sum', in the pinned program and in every row, IS THE sha256 OF THE DUMP (.gsa) THAT YtjoggjgmpoaaiaaProg.lean LOADS. Nothing in Lean hashes anything: it is a label: what it is worth is what the hold of that sum in a sandbox is worth. -/
noncomputable def Try.pinned : Pinned := { name := "ytjoggjgmpoaaiaa", sum := "0fc1f819e18c88a6331e977a785f1f61739800411dae504f21d0351e20f8c8c3", checked := Try.checked }
namespace Rows
def none {H : Type} : Left H := { results := [], args := [] }

/-- 'laws.FnExactRenumberComplex': WHATEVER THE INPUT: true; the input reads as it did. -/
def fnExactRenumberComplexSpec : ChangeSpec := { name := "fnExactRenumberComplex", fn := fun _ => fun
  | [d1, d2] => { results := [.lit (.bool true)], args := [d1, d2] }
  | _ => none }
def fnExactRenumberComplexRow : OpenClaim := { program := "ytjoggjgmpoaaiaa", sum := "0fc1f819e18c88a6331e977a785f1f61739800411dae504f21d0351e20f8c8c3", func := "loop.example/g01348/laws.FnExactRenumberComplex", spec := "fnExactRenumberComplex", unfollowed := true, recurses := true, apart := false }
def FnExactRenumberComplexSaid : Prop := fnExactRenumberComplexRow.holds Try.pinned (OpenSpec.ofChange fnExactRenumberComplexSpec)

/-- ITS FALSE NEIGHBOUR: 'it returns false'. Refute it at one input. -/
def fnExactRenumberComplexWrong : ChangeSpec := { name := "fnExactRenumberComplex", fn := fun _ => fun
  | [d1, d2] => { results := [.lit (.bool false)], args := [d1, d2] }
  | _ => none }
def FnExactRenumberComplexWrongFalsely : Prop := fnExactRenumberComplexRow.holds Try.pinned (OpenSpec.ofChange fnExactRenumberComplexWrong)

/-- 'laws.FnExactJoinOf': WHATEVER THE INPUT: true; the input reads as it did. -/
def fnExactJoinOfSpec : ChangeSpec := { name := "fnExactJoinOf", fn := fun _ => fun
  | [d1, d2] => { results := [.lit (.bool true)], args := [d1, d2] }
  | _ => none }
def fnExactJoinOfRow : OpenClaim := { program := "ytjoggjgmpoaaiaa", sum := "0fc1f819e18c88a6331e977a785f1f61739800411dae504f21d0351e20f8c8c3", func := "loop.example/g01348/laws.FnExactJoinOf", spec := "fnExactJoinOf", unfollowed := true, recurses := true, apart := false }
def FnExactJoinOfSaid : Prop := fnExactJoinOfRow.holds Try.pinned (OpenSpec.ofChange fnExactJoinOfSpec)

/-- ITS FALSE NEIGHBOUR: 'it returns false'. Refute it at one input. -/
def fnExactJoinOfWrong : ChangeSpec := { name := "fnExactJoinOf", fn := fun _ => fun
  | [d1, d2] => { results := [.lit (.bool false)], args := [d1, d2] }
  | _ => none }
def FnExactJoinOfWrongFalsely : Prop := fnExactJoinOfRow.holds Try.pinned (OpenSpec.ofChange fnExactJoinOfWrong)

/-- 'laws.FnExactBounds': WHATEVER THE INPUT: true; the input reads as it did. -/
def fnExactBoundsSpec : ChangeSpec := { name := "fnExactBounds", fn := fun _ => fun
  | [d1, d2] => { results := [.lit (.bool true)], args := [d1, d2] }
  | _ => none }
def fnExactBoundsRow : OpenClaim := { program := "ytjoggjgmpoaaiaa", sum := "0fc1f819e18c88a6331e977a785f1f61739800411dae504f21d0351e20f8c8c3", func := "loop.example/g01348/laws.FnExactBounds", spec := "fnExactBounds", unfollowed := true, recurses := true, apart := false }
def FnExactBoundsSaid : Prop := fnExactBoundsRow.holds Try.pinned (OpenSpec.ofChange fnExactBoundsSpec)

/-- ITS FALSE NEIGHBOUR: 'it returns false'. Refute it at one input. -/
def fnExactBoundsWrong : ChangeSpec := { name := "fnExactBounds", fn := fun _ => fun
  | [d1, d2] => { results := [.lit (.bool false)], args := [d1, d2] }
  | _ => none }
def FnExactBoundsWrongFalsely : Prop := fnExactBoundsRow.holds Try.pinned (OpenSpec.ofChange fnExactBoundsWrong)

/-- 'laws.FnExactAreHomologous': WHATEVER THE INPUT: true; the input reads as it did. -/
def fnExactAreHomologousSpec : ChangeSpec := { name := "fnExactAreHomologous", fn := fun _ => fun
  | [d1, d2, d3] => { results := [.lit (.bool true)], args := [d1, d2, d3] }
  | _ => none }
def fnExactAreHomologousRow : OpenClaim := { program := "ytjoggjgmpoaaiaa", sum := "0fc1f819e18c88a6331e977a785f1f61739800411dae504f21d0351e20f8c8c3", func := "loop.example/g01348/laws.FnExactAreHomologous", spec := "fnExactAreHomologous", unfollowed := true, recurses := true, apart := false }
def FnExactAreHomologousSaid : Prop := fnExactAreHomologousRow.holds Try.pinned (OpenSpec.ofChange fnExactAreHomologousSpec)

/-- ITS FALSE NEIGHBOUR: 'it returns false'. Refute it at one input. -/
def fnExactAreHomologousWrong : ChangeSpec := { name := "fnExactAreHomologous", fn := fun _ => fun
  | [d1, d2, d3] => { results := [.lit (.bool false)], args := [d1, d2, d3] }
  | _ => none }
def FnExactAreHomologousWrongFalsely : Prop := fnExactAreHomologousRow.holds Try.pinned (OpenSpec.ofChange fnExactAreHomologousWrong)

/- THE SECOND FORM. 'bulk': how many values and letters a reading holds, each counted each time it is reached (what is shared counts as often as it is met; a slice's spare places count too). A statement '..UptoSaid' is the law's where the arguments, and the package variables that the reading takes, are together of bulk at most 1048576: NARROWER than '..Said'. Prove '..Said' where nothing that the law and all that it calls make is longer than what came in: it says more and counts as full. Else prove '..UptoSaid'. A law counts once. -/
mutual
def uptoBulk {H : Type} : DataW H → Nat
  | .lit (.string bytes) => bytes.length + 1
  | .lit _ => 1
  | .nil => 1
  | .ptr d => uptoBulk d + 1
  | .slice elems spare => uptoBulkAll elems + uptoBulkAll spare + 1
  | .agg parts => uptoBulkAll parts + 1
  | .iface _ d => uptoBulk d + 1
  | .map entries => uptoBulkEntries entries + 1
  | .held _ => 1
def uptoBulkAll {H : Type} : List (DataW H) → Nat
  | [] => 0
  | d :: r => uptoBulk d + uptoBulkAll r
def uptoBulkEntries {H : Type} : List (Lit × DataW H) → Nat
  | [] => 0
  | x :: r => uptoBulkEntry x + uptoBulkEntries r
def uptoBulkEntry {H : Type} : Lit × DataW H → Nat
  | (.string bytes, d) => bytes.length + uptoBulk d + 1
  | (_, d) => uptoBulk d + 1
 end
def uptoSmall : (H : Type) → List (DataW H) → Bool := fun _ ds => decide (uptoBulkAll ds ≤ 1048576)
def OpenSpec.upto (s : _root_.Go.ChangeSpec) : _root_.Go.OpenSpec := { _root_.Go.OpenSpec.ofChange s with cond := some uptoSmall }

/-- 'laws.FnExactRenumberComplex', WHERE WHAT IT READS IS OF BULK AT MOST 1048576: true; the input reads as it did. -/
def fnExactRenumberComplexUptoRow : OpenClaim := { program := "ytjoggjgmpoaaiaa", sum := "0fc1f819e18c88a6331e977a785f1f61739800411dae504f21d0351e20f8c8c3", func := "loop.example/g01348/laws.FnExactRenumberComplex", spec := "fnExactRenumberComplex", unfollowed := true, recurses := true, apart := false, narrowed := true }
def FnExactRenumberComplexUptoSaid : Prop := fnExactRenumberComplexUptoRow.holds Try.pinned (OpenSpec.upto fnExactRenumberComplexSpec)

/-- 'laws.FnExactJoinOf', WHERE WHAT IT READS IS OF BULK AT MOST 1048576: true; the input reads as it did. -/
def fnExactJoinOfUptoRow : OpenClaim := { program := "ytjoggjgmpoaaiaa", sum := "0fc1f819e18c88a6331e977a785f1f61739800411dae504f21d0351e20f8c8c3", func := "loop.example/g01348/laws.FnExactJoinOf", spec := "fnExactJoinOf", unfollowed := true, recurses := true, apart := false, narrowed := true }
def FnExactJoinOfUptoSaid : Prop := fnExactJoinOfUptoRow.holds Try.pinned (OpenSpec.upto fnExactJoinOfSpec)

/-- 'laws.FnExactBounds', WHERE WHAT IT READS IS OF BULK AT MOST 1048576: true; the input reads as it did. -/
def fnExactBoundsUptoRow : OpenClaim := { program := "ytjoggjgmpoaaiaa", sum := "0fc1f819e18c88a6331e977a785f1f61739800411dae504f21d0351e20f8c8c3", func := "loop.example/g01348/laws.FnExactBounds", spec := "fnExactBounds", unfollowed := true, recurses := true, apart := false, narrowed := true }
def FnExactBoundsUptoSaid : Prop := fnExactBoundsUptoRow.holds Try.pinned (OpenSpec.upto fnExactBoundsSpec)

/-- 'laws.FnExactAreHomologous', WHERE WHAT IT READS IS OF BULK AT MOST 1048576: true; the input reads as it did. -/
def fnExactAreHomologousUptoRow : OpenClaim := { program := "ytjoggjgmpoaaiaa", sum := "0fc1f819e18c88a6331e977a785f1f61739800411dae504f21d0351e20f8c8c3", func := "loop.example/g01348/laws.FnExactAreHomologous", spec := "fnExactAreHomologous", unfollowed := true, recurses := true, apart := false, narrowed := true }
def FnExactAreHomologousUptoSaid : Prop := fnExactAreHomologousUptoRow.holds Try.pinned (OpenSpec.upto fnExactAreHomologousSpec)

end Rows
end Go.Proofs.Ytjoggjgmpoaaiaa
