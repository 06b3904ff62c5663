/-
  No cell of these rows narrows 'for every input' (looked for: loops, veiled, ifaces, maps, wideKeys, modest, calm, conditions, laid).
  DERIVED. THE GIVEN ROWS OF THIS SEAT. 12 by the template 'for every input the law returns true; each argument reads behind the call as it read before'; 0 by the template 'total and deterministic' (their statements: YtoeapnempdgagaaTotals.lean).
  GIVEN WITH THE SEED: the statements are not yours to turn. If you find one false, say at which input.
  Laid BY PROGRAM, IN A SANDBOX (cutbox-rows.mjs): the forced cells as the released guide's own fill.sh prints them over the translation b1ee017aaddaa4dc… (all of the seat's roots in one cut). By AI agents, Wed Nov 11 2026. No macro, syntax, notation, axiom, sorry.
-/
import Derived.Test.YtoeapnempdgagaaChecked
import GoSem.Claim
import GoSem.ClaimJoined
import GoSem.ClaimMapViews
import Derived.JoinedTies
import Derived.KernelRfl
namespace Go.Proofs.Ytoeapnempdgagaa
/- THE CELL 'sum', in the pinned program and in every row, IS THE sha256 OF THE DUMP (.gsa) THAT YtoeapnempdgagaaProg.lean LOADS. Nothing in Lean hashes anything: it is a label: what it is worth is what the hold of that sum in a sandbox is worth. -/
noncomputable def Try.pinned : Pinned := { name := "ytoeapnempdgagaa", sum := "b1ee017aaddaa4dcf14ff92f2478499dff17fae4497a7ad65d7b3ea169741261", checked := Try.checked }
namespace Rows
def none {H : Type} : Left H := { results := [], args := [] }

/-- 'laws.FnExactConstants': WHATEVER THE INPUT: true; the input reads as it did. -/
def fnExactConstantsSpec : ChangeSpec := { name := "fnExactConstants", fn := fun _ => fun
  | [] => { results := [.lit (.bool true)], args := [] }
  | _ => none }
def fnExactConstantsRow : OpenClaim := { program := "ytoeapnempdgagaa", sum := "b1ee017aaddaa4dcf14ff92f2478499dff17fae4497a7ad65d7b3ea169741261", func := "loop.example/g01348/laws.FnExactConstants", spec := "fnExactConstants", apart := false }
def FnExactConstantsSaid : Prop := fnExactConstantsRow.holds Try.pinned (OpenSpec.ofChange fnExactConstantsSpec)

/-- ITS FALSE NEIGHBOUR: 'it returns false'. Refute it at one input. -/
def fnExactConstantsWrong : ChangeSpec := { name := "fnExactConstants", fn := fun _ => fun
  | [] => { results := [.lit (.bool false)], args := [] }
  | _ => none }
def FnExactConstantsWrongFalsely : Prop := fnExactConstantsRow.holds Try.pinned (OpenSpec.ofChange fnExactConstantsWrong)

/-- 'laws.FnExactComplexOf': WHATEVER THE INPUT: true; the input reads as it did. -/
def fnExactComplexOfSpec : ChangeSpec := { name := "fnExactComplexOf", fn := fun _ => fun
  | [d1, d2] => { results := [.lit (.bool true)], args := [d1, d2] }
  | _ => none }
def fnExactComplexOfRow : OpenClaim := { program := "ytoeapnempdgagaa", sum := "b1ee017aaddaa4dcf14ff92f2478499dff17fae4497a7ad65d7b3ea169741261", func := "loop.example/g01348/laws.FnExactComplexOf", spec := "fnExactComplexOf", unfollowed := true, recurses := true, apart := false }
def FnExactComplexOfSaid : Prop := fnExactComplexOfRow.holds Try.pinned (OpenSpec.ofChange fnExactComplexOfSpec)

/-- ITS FALSE NEIGHBOUR: 'it returns false'. Refute it at one input. -/
def fnExactComplexOfWrong : ChangeSpec := { name := "fnExactComplexOf", fn := fun _ => fun
  | [d1, d2] => { results := [.lit (.bool false)], args := [d1, d2] }
  | _ => none }
def FnExactComplexOfWrongFalsely : Prop := fnExactComplexOfRow.holds Try.pinned (OpenSpec.ofChange fnExactComplexOfWrong)

/-- 'laws.FnExactIsComplex': WHATEVER THE INPUT: true; the input reads as it did. -/
def fnExactIsComplexSpec : ChangeSpec := { name := "fnExactIsComplex", fn := fun _ => fun
  | [d] => { results := [.lit (.bool true)], args := [d] }
  | _ => none }
def fnExactIsComplexRow : OpenClaim := { program := "ytoeapnempdgagaa", sum := "b1ee017aaddaa4dcf14ff92f2478499dff17fae4497a7ad65d7b3ea169741261", func := "loop.example/g01348/laws.FnExactIsComplex", spec := "fnExactIsComplex", unfollowed := true, recurses := true, apart := false }
def FnExactIsComplexSaid : Prop := fnExactIsComplexRow.holds Try.pinned (OpenSpec.ofChange fnExactIsComplexSpec)

/-- ITS FALSE NEIGHBOUR: 'it returns false'. Refute it at one input. -/
def fnExactIsComplexWrong : ChangeSpec := { name := "fnExactIsComplex", fn := fun _ => fun
  | [d] => { results := [.lit (.bool false)], args := [d] }
  | _ => none }
def FnExactIsComplexWrongFalsely : Prop := fnExactIsComplexRow.holds Try.pinned (OpenSpec.ofChange fnExactIsComplexWrong)

/-- 'laws.FnExactJoinOf': WHATEVER THE INPUT: true; the input reads as it did. -/
def fnExactJoinOfSpec : ChangeSpec := { name := "fnExactJoinOf", fn := fun _ => fun
  | [d1, d2] => { results := [.lit (.bool true)], args := [d1, d2] }
  | _ => none }
def fnExactJoinOfRow : OpenClaim := { program := "ytoeapnempdgagaa", sum := "b1ee017aaddaa4dcf14ff92f2478499dff17fae4497a7ad65d7b3ea169741261", func := "loop.example/g01348/laws.FnExactJoinOf", spec := "fnExactJoinOf", unfollowed := true, recurses := true, apart := false }
def FnExactJoinOfSaid : Prop := fnExactJoinOfRow.holds Try.pinned (OpenSpec.ofChange fnExactJoinOfSpec)

/-- ITS FALSE NEIGHBOUR: 'it returns false'. Refute it at one input. -/
def fnExactJoinOfWrong : ChangeSpec := { name := "fnExactJoinOf", fn := fun _ => fun
  | [d1, d2] => { results := [.lit (.bool false)], args := [d1, d2] }
  | _ => none }
def FnExactJoinOfWrongFalsely : Prop := fnExactJoinOfRow.holds Try.pinned (OpenSpec.ofChange fnExactJoinOfWrong)

/-- 'laws.FnExactConeOf': WHATEVER THE INPUT: true; the input reads as it did. -/
def fnExactConeOfSpec : ChangeSpec := { name := "fnExactConeOf", fn := fun _ => fun
  | [d] => { results := [.lit (.bool true)], args := [d] }
  | _ => none }
def fnExactConeOfRow : OpenClaim := { program := "ytoeapnempdgagaa", sum := "b1ee017aaddaa4dcf14ff92f2478499dff17fae4497a7ad65d7b3ea169741261", func := "loop.example/g01348/laws.FnExactConeOf", spec := "fnExactConeOf", unfollowed := true, recurses := true, apart := false }
def FnExactConeOfSaid : Prop := fnExactConeOfRow.holds Try.pinned (OpenSpec.ofChange fnExactConeOfSpec)

/-- ITS FALSE NEIGHBOUR: 'it returns false'. Refute it at one input. -/
def fnExactConeOfWrong : ChangeSpec := { name := "fnExactConeOf", fn := fun _ => fun
  | [d] => { results := [.lit (.bool false)], args := [d] }
  | _ => none }
def FnExactConeOfWrongFalsely : Prop := fnExactConeOfRow.holds Try.pinned (OpenSpec.ofChange fnExactConeOfWrong)

/-- 'laws.FnExactPartOn': WHATEVER THE INPUT: true; the input reads as it did. -/
def fnExactPartOnSpec : ChangeSpec := { name := "fnExactPartOn", fn := fun _ => fun
  | [d1, d2] => { results := [.lit (.bool true)], args := [d1, d2] }
  | _ => none }
def fnExactPartOnRow : OpenClaim := { program := "ytoeapnempdgagaa", sum := "b1ee017aaddaa4dcf14ff92f2478499dff17fae4497a7ad65d7b3ea169741261", func := "loop.example/g01348/laws.FnExactPartOn", spec := "fnExactPartOn", unfollowed := true, recurses := true, apart := false }
def FnExactPartOnSaid : Prop := fnExactPartOnRow.holds Try.pinned (OpenSpec.ofChange fnExactPartOnSpec)

/-- ITS FALSE NEIGHBOUR: 'it returns false'. Refute it at one input. -/
def fnExactPartOnWrong : ChangeSpec := { name := "fnExactPartOn", fn := fun _ => fun
  | [d1, d2] => { results := [.lit (.bool false)], args := [d1, d2] }
  | _ => none }
def FnExactPartOnWrongFalsely : Prop := fnExactPartOnRow.holds Try.pinned (OpenSpec.ofChange fnExactPartOnWrong)

/-- 'laws.FnExactEulerNumber': WHATEVER THE INPUT: true; the input reads as it did. -/
def fnExactEulerNumberSpec : ChangeSpec := { name := "fnExactEulerNumber", fn := fun _ => fun
  | [d] => { results := [.lit (.bool true)], args := [d] }
  | _ => none }
def fnExactEulerNumberRow : OpenClaim := { program := "ytoeapnempdgagaa", sum := "b1ee017aaddaa4dcf14ff92f2478499dff17fae4497a7ad65d7b3ea169741261", func := "loop.example/g01348/laws.FnExactEulerNumber", spec := "fnExactEulerNumber", unfollowed := true, recurses := true, apart := false }
def FnExactEulerNumberSaid : Prop := fnExactEulerNumberRow.holds Try.pinned (OpenSpec.ofChange fnExactEulerNumberSpec)

/-- ITS FALSE NEIGHBOUR: 'it returns false'. Refute it at one input. -/
def fnExactEulerNumberWrong : ChangeSpec := { name := "fnExactEulerNumber", fn := fun _ => fun
  | [d] => { results := [.lit (.bool false)], args := [d] }
  | _ => none }
def FnExactEulerNumberWrongFalsely : Prop := fnExactEulerNumberRow.holds Try.pinned (OpenSpec.ofChange fnExactEulerNumberWrong)

/-- 'laws.FnExactStarOf': WHATEVER THE INPUT: true; the input reads as it did. -/
def fnExactStarOfSpec : ChangeSpec := { name := "fnExactStarOf", fn := fun _ => fun
  | [d1, d2] => { results := [.lit (.bool true)], args := [d1, d2] }
  | _ => none }
def fnExactStarOfRow : OpenClaim := { program := "ytoeapnempdgagaa", sum := "b1ee017aaddaa4dcf14ff92f2478499dff17fae4497a7ad65d7b3ea169741261", func := "loop.example/g01348/laws.FnExactStarOf", spec := "fnExactStarOf", unfollowed := true, recurses := true, apart := false }
def FnExactStarOfSaid : Prop := fnExactStarOfRow.holds Try.pinned (OpenSpec.ofChange fnExactStarOfSpec)

/-- ITS FALSE NEIGHBOUR: 'it returns false'. Refute it at one input. -/
def fnExactStarOfWrong : ChangeSpec := { name := "fnExactStarOf", fn := fun _ => fun
  | [d1, d2] => { results := [.lit (.bool false)], args := [d1, d2] }
  | _ => none }
def FnExactStarOfWrongFalsely : Prop := fnExactStarOfRow.holds Try.pinned (OpenSpec.ofChange fnExactStarOfWrong)

/-- 'laws.FnExactLinkOf': WHATEVER THE INPUT: true; the input reads as it did. -/
def fnExactLinkOfSpec : ChangeSpec := { name := "fnExactLinkOf", fn := fun _ => fun
  | [d1, d2] => { results := [.lit (.bool true)], args := [d1, d2] }
  | _ => none }
def fnExactLinkOfRow : OpenClaim := { program := "ytoeapnempdgagaa", sum := "b1ee017aaddaa4dcf14ff92f2478499dff17fae4497a7ad65d7b3ea169741261", func := "loop.example/g01348/laws.FnExactLinkOf", spec := "fnExactLinkOf", unfollowed := true, recurses := true, apart := false }
def FnExactLinkOfSaid : Prop := fnExactLinkOfRow.holds Try.pinned (OpenSpec.ofChange fnExactLinkOfSpec)

/-- ITS FALSE NEIGHBOUR: 'it returns false'. Refute it at one input. -/
def fnExactLinkOfWrong : ChangeSpec := { name := "fnExactLinkOf", fn := fun _ => fun
  | [d1, d2] => { results := [.lit (.bool false)], args := [d1, d2] }
  | _ => none }
def FnExactLinkOfWrongFalsely : Prop := fnExactLinkOfRow.holds Try.pinned (OpenSpec.ofChange fnExactLinkOfWrong)

/-- 'laws.FnExactTakeFace': WHATEVER THE INPUT: true; the input reads as it did. -/
def fnExactTakeFaceSpec : ChangeSpec := { name := "fnExactTakeFace", fn := fun _ => fun
  | [d1, d2] => { results := [.lit (.bool true)], args := [d1, d2] }
  | _ => none }
def fnExactTakeFaceRow : OpenClaim := { program := "ytoeapnempdgagaa", sum := "b1ee017aaddaa4dcf14ff92f2478499dff17fae4497a7ad65d7b3ea169741261", func := "loop.example/g01348/laws.FnExactTakeFace", spec := "fnExactTakeFace", unfollowed := true, recurses := true, apart := false }
def FnExactTakeFaceSaid : Prop := fnExactTakeFaceRow.holds Try.pinned (OpenSpec.ofChange fnExactTakeFaceSpec)

/-- ITS FALSE NEIGHBOUR: 'it returns false'. Refute it at one input. -/
def fnExactTakeFaceWrong : ChangeSpec := { name := "fnExactTakeFace", fn := fun _ => fun
  | [d1, d2] => { results := [.lit (.bool false)], args := [d1, d2] }
  | _ => none }
def FnExactTakeFaceWrongFalsely : Prop := fnExactTakeFaceRow.holds Try.pinned (OpenSpec.ofChange fnExactTakeFaceWrong)

/-- 'laws.FnExactDimensionFunction': WHATEVER THE INPUT: true; the input reads as it did. -/
def fnExactDimensionFunctionSpec : ChangeSpec := { name := "fnExactDimensionFunction", fn := fun _ => fun
  | [d] => { results := [.lit (.bool true)], args := [d] }
  | _ => none }
def fnExactDimensionFunctionRow : OpenClaim := { program := "ytoeapnempdgagaa", sum := "b1ee017aaddaa4dcf14ff92f2478499dff17fae4497a7ad65d7b3ea169741261", func := "loop.example/g01348/laws.FnExactDimensionFunction", spec := "fnExactDimensionFunction", unfollowed := true, recurses := true, apart := false }
def FnExactDimensionFunctionSaid : Prop := fnExactDimensionFunctionRow.holds Try.pinned (OpenSpec.ofChange fnExactDimensionFunctionSpec)

/-- ITS FALSE NEIGHBOUR: 'it returns false'. Refute it at one input. -/
def fnExactDimensionFunctionWrong : ChangeSpec := { name := "fnExactDimensionFunction", fn := fun _ => fun
  | [d] => { results := [.lit (.bool false)], args := [d] }
  | _ => none }
def FnExactDimensionFunctionWrongFalsely : Prop := fnExactDimensionFunctionRow.holds Try.pinned (OpenSpec.ofChange fnExactDimensionFunctionWrong)

/-- 'laws.FnExactFacetsOf': WHATEVER THE INPUT: true; the input reads as it did. -/
def fnExactFacetsOfSpec : ChangeSpec := { name := "fnExactFacetsOf", fn := fun _ => fun
  | [d] => { results := [.lit (.bool true)], args := [d] }
  | _ => none }
def fnExactFacetsOfRow : OpenClaim := { program := "ytoeapnempdgagaa", sum := "b1ee017aaddaa4dcf14ff92f2478499dff17fae4497a7ad65d7b3ea169741261", func := "loop.example/g01348/laws.FnExactFacetsOf", spec := "fnExactFacetsOf", unfollowed := true, recurses := true, apart := false }
def FnExactFacetsOfSaid : Prop := fnExactFacetsOfRow.holds Try.pinned (OpenSpec.ofChange fnExactFacetsOfSpec)

/-- ITS FALSE NEIGHBOUR: 'it returns false'. Refute it at one input. -/
def fnExactFacetsOfWrong : ChangeSpec := { name := "fnExactFacetsOf", fn := fun _ => fun
  | [d] => { results := [.lit (.bool false)], args := [d] }
  | _ => none }
def FnExactFacetsOfWrongFalsely : Prop := fnExactFacetsOfRow.holds Try.pinned (OpenSpec.ofChange fnExactFacetsOfWrong)

/- THE SECOND FORM. 'bulk': how many values and letters a reading holds, each counted each time it is reached (what is shared counts as often as it is met; a slice's spare places count too). A statement '..UptoSaid' is the law's where the arguments, and the package variables that the reading takes, are together of bulk at most 1048576: NARROWER than '..Said'. Prove '..Said' where nothing that the law and all that it calls make is longer than what came in: it says more and counts as full. Else prove '..UptoSaid'. A law counts once. -/
mutual
def uptoBulk {H : Type} : DataW H → Nat
  | .lit (.string bytes) => bytes.length + 1
  | .lit _ => 1
  | .nil => 1
  | .ptr d => uptoBulk d + 1
  | .slice elems spare => uptoBulkAll elems + uptoBulkAll spare + 1
  | .agg parts => uptoBulkAll parts + 1
  | .iface _ d => uptoBulk d + 1
  | .map entries => uptoBulkEntries entries + 1
  | .held _ => 1
def uptoBulkAll {H : Type} : List (DataW H) → Nat
  | [] => 0
  | d :: r => uptoBulk d + uptoBulkAll r
def uptoBulkEntries {H : Type} : List (Lit × DataW H) → Nat
  | [] => 0
  | x :: r => uptoBulkEntry x + uptoBulkEntries r
def uptoBulkEntry {H : Type} : Lit × DataW H → Nat
  | (.string bytes, d) => bytes.length + uptoBulk d + 1
  | (_, d) => uptoBulk d + 1
 end
def uptoSmall : (H : Type) → List (DataW H) → Bool := fun _ ds => decide (uptoBulkAll ds ≤ 1048576)
def OpenSpec.upto (s : _root_.Go.ChangeSpec) : _root_.Go.OpenSpec := { _root_.Go.OpenSpec.ofChange s with cond := some uptoSmall }

/-- 'laws.FnExactConstants', WHERE WHAT IT READS IS OF BULK AT MOST 1048576: true; the input reads as it did. -/
def fnExactConstantsUptoRow : OpenClaim := { program := "ytoeapnempdgagaa", sum := "b1ee017aaddaa4dcf14ff92f2478499dff17fae4497a7ad65d7b3ea169741261", func := "loop.example/g01348/laws.FnExactConstants", spec := "fnExactConstants", apart := false, narrowed := true }
def FnExactConstantsUptoSaid : Prop := fnExactConstantsUptoRow.holds Try.pinned (OpenSpec.upto fnExactConstantsSpec)

/-- 'laws.FnExactComplexOf', WHERE WHAT IT READS IS OF BULK AT MOST 1048576: true; the input reads as it did. -/
def fnExactComplexOfUptoRow : OpenClaim := { program := "ytoeapnempdgagaa", sum := "b1ee017aaddaa4dcf14ff92f2478499dff17fae4497a7ad65d7b3ea169741261", func := "loop.example/g01348/laws.FnExactComplexOf", spec := "fnExactComplexOf", unfollowed := true, recurses := true, apart := false, narrowed := true }
def FnExactComplexOfUptoSaid : Prop := fnExactComplexOfUptoRow.holds Try.pinned (OpenSpec.upto fnExactComplexOfSpec)

/-- 'laws.FnExactIsComplex', WHERE WHAT IT READS IS OF BULK AT MOST 1048576: true; the input reads as it did. -/
def fnExactIsComplexUptoRow : OpenClaim := { program := "ytoeapnempdgagaa", sum := "b1ee017aaddaa4dcf14ff92f2478499dff17fae4497a7ad65d7b3ea169741261", func := "loop.example/g01348/laws.FnExactIsComplex", spec := "fnExactIsComplex", unfollowed := true, recurses := true, apart := false, narrowed := true }
def FnExactIsComplexUptoSaid : Prop := fnExactIsComplexUptoRow.holds Try.pinned (OpenSpec.upto fnExactIsComplexSpec)

/-- 'laws.FnExactJoinOf', WHERE WHAT IT READS IS OF BULK AT MOST 1048576: true; the input reads as it did. -/
def fnExactJoinOfUptoRow : OpenClaim := { program := "ytoeapnempdgagaa", sum := "b1ee017aaddaa4dcf14ff92f2478499dff17fae4497a7ad65d7b3ea169741261", func := "loop.example/g01348/laws.FnExactJoinOf", spec := "fnExactJoinOf", unfollowed := true, recurses := true, apart := false, narrowed := true }
def FnExactJoinOfUptoSaid : Prop := fnExactJoinOfUptoRow.holds Try.pinned (OpenSpec.upto fnExactJoinOfSpec)

/-- 'laws.FnExactConeOf', WHERE WHAT IT READS IS OF BULK AT MOST 1048576: true; the input reads as it did. -/
def fnExactConeOfUptoRow : OpenClaim := { program := "ytoeapnempdgagaa", sum := "b1ee017aaddaa4dcf14ff92f2478499dff17fae4497a7ad65d7b3ea169741261", func := "loop.example/g01348/laws.FnExactConeOf", spec := "fnExactConeOf", unfollowed := true, recurses := true, apart := false, narrowed := true }
def FnExactConeOfUptoSaid : Prop := fnExactConeOfUptoRow.holds Try.pinned (OpenSpec.upto fnExactConeOfSpec)

/-- 'laws.FnExactPartOn', WHERE WHAT IT READS IS OF BULK AT MOST 1048576: true; the input reads as it did. -/
def fnExactPartOnUptoRow : OpenClaim := { program := "ytoeapnempdgagaa", sum := "b1ee017aaddaa4dcf14ff92f2478499dff17fae4497a7ad65d7b3ea169741261", func := "loop.example/g01348/laws.FnExactPartOn", spec := "fnExactPartOn", unfollowed := true, recurses := true, apart := false, narrowed := true }
def FnExactPartOnUptoSaid : Prop := fnExactPartOnUptoRow.holds Try.pinned (OpenSpec.upto fnExactPartOnSpec)

/-- 'laws.FnExactEulerNumber', WHERE WHAT IT READS IS OF BULK AT MOST 1048576: true; the input reads as it did. -/
def fnExactEulerNumberUptoRow : OpenClaim := { program := "ytoeapnempdgagaa", sum := "b1ee017aaddaa4dcf14ff92f2478499dff17fae4497a7ad65d7b3ea169741261", func := "loop.example/g01348/laws.FnExactEulerNumber", spec := "fnExactEulerNumber", unfollowed := true, recurses := true, apart := false, narrowed := true }
def FnExactEulerNumberUptoSaid : Prop := fnExactEulerNumberUptoRow.holds Try.pinned (OpenSpec.upto fnExactEulerNumberSpec)

/-- 'laws.FnExactStarOf', WHERE WHAT IT READS IS OF BULK AT MOST 1048576: true; the input reads as it did. -/
def fnExactStarOfUptoRow : OpenClaim := { program := "ytoeapnempdgagaa", sum := "b1ee017aaddaa4dcf14ff92f2478499dff17fae4497a7ad65d7b3ea169741261", func := "loop.example/g01348/laws.FnExactStarOf", spec := "fnExactStarOf", unfollowed := true, recurses := true, apart := false, narrowed := true }
def FnExactStarOfUptoSaid : Prop := fnExactStarOfUptoRow.holds Try.pinned (OpenSpec.upto fnExactStarOfSpec)

/-- 'laws.FnExactLinkOf', WHERE WHAT IT READS IS OF BULK AT MOST 1048576: true; the input reads as it did. -/
def fnExactLinkOfUptoRow : OpenClaim := { program := "ytoeapnempdgagaa", sum := "b1ee017aaddaa4dcf14ff92f2478499dff17fae4497a7ad65d7b3ea169741261", func := "loop.example/g01348/laws.FnExactLinkOf", spec := "fnExactLinkOf", unfollowed := true, recurses := true, apart := false, narrowed := true }
def FnExactLinkOfUptoSaid : Prop := fnExactLinkOfUptoRow.holds Try.pinned (OpenSpec.upto fnExactLinkOfSpec)

/-- 'laws.FnExactTakeFace', WHERE WHAT IT READS IS OF BULK AT MOST 1048576: true; the input reads as it did. -/
def fnExactTakeFaceUptoRow : OpenClaim := { program := "ytoeapnempdgagaa", sum := "b1ee017aaddaa4dcf14ff92f2478499dff17fae4497a7ad65d7b3ea169741261", func := "loop.example/g01348/laws.FnExactTakeFace", spec := "fnExactTakeFace", unfollowed := true, recurses := true, apart := false, narrowed := true }
def FnExactTakeFaceUptoSaid : Prop := fnExactTakeFaceUptoRow.holds Try.pinned (OpenSpec.upto fnExactTakeFaceSpec)

/-- 'laws.FnExactDimensionFunction', WHERE WHAT IT READS IS OF BULK AT MOST 1048576: true; the input reads as it did. -/
def fnExactDimensionFunctionUptoRow : OpenClaim := { program := "ytoeapnempdgagaa", sum := "b1ee017aaddaa4dcf14ff92f2478499dff17fae4497a7ad65d7b3ea169741261", func := "loop.example/g01348/laws.FnExactDimensionFunction", spec := "fnExactDimensionFunction", unfollowed := true, recurses := true, apart := false, narrowed := true }
def FnExactDimensionFunctionUptoSaid : Prop := fnExactDimensionFunctionUptoRow.holds Try.pinned (OpenSpec.upto fnExactDimensionFunctionSpec)

/-- 'laws.FnExactFacetsOf', WHERE WHAT IT READS IS OF BULK AT MOST 1048576: true; the input reads as it did. -/
def fnExactFacetsOfUptoRow : OpenClaim := { program := "ytoeapnempdgagaa", sum := "b1ee017aaddaa4dcf14ff92f2478499dff17fae4497a7ad65d7b3ea169741261", func := "loop.example/g01348/laws.FnExactFacetsOf", spec := "fnExactFacetsOf", unfollowed := true, recurses := true, apart := false, narrowed := true }
def FnExactFacetsOfUptoSaid : Prop := fnExactFacetsOfUptoRow.holds Try.pinned (OpenSpec.upto fnExactFacetsOfSpec)

end Rows
end Go.Proofs.Ytoeapnempdgagaa
