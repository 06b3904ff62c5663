/-
  DERIVED. GIVEN WITH THE SEED: THE CARDS: each row of YtaeabbackmnioaaDoorRows.lean that lists a variable, with what it lists TIED to the program's text (the seventh form; the later family's looks); each row that meets fmt, with fmt's text TOLD by the authors' own Lean function (tested against real Go, not proved from fmt's source: count such statements apart). THE CARD IS WHAT COUNTS. Prove the row's statement (the work); the ties are given (YtaeabbackmnioaaDoorTie.lean); close each card by the builder's one call (the guide's Derived/Test/ToyasCard.lean, 'card_holds'). Laid BY PROGRAM, IN A SANDBOX (cutbox-door.mjs). By AI agents, Wed Nov 11 2026. No macro, syntax, notation, axiom, sorry.
-/
import Derived.Test.YtaeabbackmnioaaDoorRows
import GoSem.ClaimSeven
namespace Go.Proofs.YtaeabbackmnioaaDoor
namespace Rows

/-- THE TIED CARD OF 'laws.FnExactParseComplex'. -/
def fnExactParseComplexCard : Claim7 := { stood := { row := fnExactParseComplexRow, standIns := [], harness := (true, "023d4715f29fe387ed6fd4a9caf20bc03ad98bbafaf158969a1b75aeccffe5e7"), looks := true }, kinds := [], alts := [], laidByText := true, laidKinds := [.data, .data, .data, .data, .sentinel, .sentinel, .pinned], laidTests := true, laidLooks := .later }
def FnExactParseComplexCardSaid : Prop := Claim7.holds Tryd.pinned (.plain (OpenSpec.ofChange fnExactParseComplexSpec)) fnExactParseComplexCard

/-- THE TIED CARD OF 'laws.FnExactNamedComplex'. -/
def fnExactNamedComplexCard : Claim7 := { stood := { row := fnExactNamedComplexRow, standIns := [], harness := (true, "023d4715f29fe387ed6fd4a9caf20bc03ad98bbafaf158969a1b75aeccffe5e7"), looks := true }, kinds := [], alts := [], laidByText := true, laidKinds := [.data, .pinned], laidTests := true, laidLooks := .later }
def FnExactNamedComplexCardSaid : Prop := Claim7.holds Tryd.pinned (.plain (OpenSpec.ofChange fnExactNamedComplexSpec)) fnExactNamedComplexCard

/-- THE TIED CARD OF 'laws.FnExactComplexText'. -/
def fnExactComplexTextCard : Claim7 := { stood := { row := fnExactComplexTextRow, standIns := [], harness := (true, "023d4715f29fe387ed6fd4a9caf20bc03ad98bbafaf158969a1b75aeccffe5e7"), looks := true }, kinds := [], alts := [], laidByText := true, laidKinds := [.data, .data, .data], laidTests := true, laidLooks := .later }
def FnExactComplexTextCardSaid : Prop := Claim7.holds Tryd.pinned (.plain (OpenSpec.ofChange fnExactComplexTextSpec)) fnExactComplexTextCard

/-- THE SECOND FORM's CARD OF 'laws.FnExactParseComplex'. -/
def fnExactParseComplexUptoCard : Claim7 := { stood := { row := fnExactParseComplexUptoRow, standIns := [], harness := (true, "023d4715f29fe387ed6fd4a9caf20bc03ad98bbafaf158969a1b75aeccffe5e7"), looks := true }, kinds := [], alts := [], laidByText := true, laidKinds := [.data, .data, .data, .data, .sentinel, .sentinel, .pinned], laidTests := true, laidLooks := .later }
def FnExactParseComplexUptoCardSaid : Prop := Claim7.holds Tryd.pinned (.plain (OpenSpec.upto fnExactParseComplexSpec)) fnExactParseComplexUptoCard

/-- THE SECOND FORM's CARD OF 'laws.FnExactNamedComplex'. -/
def fnExactNamedComplexUptoCard : Claim7 := { stood := { row := fnExactNamedComplexUptoRow, standIns := [], harness := (true, "023d4715f29fe387ed6fd4a9caf20bc03ad98bbafaf158969a1b75aeccffe5e7"), looks := true }, kinds := [], alts := [], laidByText := true, laidKinds := [.data, .pinned], laidTests := true, laidLooks := .later }
def FnExactNamedComplexUptoCardSaid : Prop := Claim7.holds Tryd.pinned (.plain (OpenSpec.upto fnExactNamedComplexSpec)) fnExactNamedComplexUptoCard

/-- THE SECOND FORM's CARD OF 'laws.FnExactComplexText'. -/
def fnExactComplexTextUptoCard : Claim7 := { stood := { row := fnExactComplexTextUptoRow, standIns := [], harness := (true, "023d4715f29fe387ed6fd4a9caf20bc03ad98bbafaf158969a1b75aeccffe5e7"), looks := true }, kinds := [], alts := [], laidByText := true, laidKinds := [.data, .data, .data], laidTests := true, laidLooks := .later }
def FnExactComplexTextUptoCardSaid : Prop := Claim7.holds Tryd.pinned (.plain (OpenSpec.upto fnExactComplexTextSpec)) fnExactComplexTextUptoCard
end Rows
end Go.Proofs.YtaeabbackmnioaaDoor
