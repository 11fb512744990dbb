/-
  DERIVED. GIVEN WITH THE SEED: THE CARDS: each row of YticjbpkgdbacpaaDoorRows.lean that lists a variable, with what it lists TIED to the program's text (the seventh form; the later family's looks); each row that meets fmt, with fmt's text TOLD by the authors' own Lean function (tested against real Go, not proved from fmt's source: count such statements apart). THE CARD IS WHAT COUNTS. Prove the row's statement (the work); the ties are given (YticjbpkgdbacpaaDoorTie.lean); close each card by the builder's one call (the guide's Derived/Test/ToyasCard.lean, 'card_holds'). Laid BY PROGRAM, IN A SANDBOX (cutbox-door.mjs). By AI agents, Wed Nov 11 2026. No macro, syntax, notation, axiom, sorry.
-/
import Derived.Test.YticjbpkgdbacpaaDoorRows
import GoSem.ClaimSeven
namespace Go.Proofs.YticjbpkgdbacpaaDoor
namespace Rows

/-- THE TIED CARD OF 'laws.FnExactRequestText'. -/
def fnExactRequestTextCard : Claim7 := { stood := { row := fnExactRequestTextRow, standIns := [], harness := (true, "81cf06ccbdb762c3223c6c0a9cd263cdc3c68277790afb6634e8554602d3795f"), looks := true }, kinds := [], alts := [], laidByText := true, laidKinds := [.data, .data, .data], laidTests := true, laidLooks := .later }
def FnExactRequestTextCardSaid : Prop := Claim7.holds Tryd.pinned (.plain (OpenSpec.ofChange fnExactRequestTextSpec)) fnExactRequestTextCard

/-- THE TIED CARD OF 'laws.FnExactPageText'. -/
def fnExactPageTextCard : Claim7 := { stood := { row := fnExactPageTextRow, standIns := [], harness := (true, "81cf06ccbdb762c3223c6c0a9cd263cdc3c68277790afb6634e8554602d3795f"), looks := true }, kinds := [], alts := [], laidByText := true, laidKinds := [.data, .data, .data], laidTests := true, laidLooks := .later }
def FnExactPageTextCardSaid : Prop := Claim7.holds Tryd.pinned (.plain (OpenSpec.ofChange fnExactPageTextSpec)) fnExactPageTextCard

/-- THE TIED CARD OF 'laws.FnExactReadForm'. -/
def fnExactReadFormCard : Claim7 := { stood := { row := fnExactReadFormRow, standIns := [], harness := (true, "81cf06ccbdb762c3223c6c0a9cd263cdc3c68277790afb6634e8554602d3795f"), looks := true }, kinds := [], alts := [], laidByText := true, laidKinds := [.data, .pinned], laidTests := true, laidLooks := .later }
def FnExactReadFormCardSaid : Prop := Claim7.holds Tryd.pinned (.plain (OpenSpec.ofChange fnExactReadFormSpec)) fnExactReadFormCard

/-- THE TIED CARD OF 'laws.FnForms'. -/
def fnFormsCard : Claim7 := { stood := { row := fnFormsRow, standIns := [], harness := (true, "81cf06ccbdb762c3223c6c0a9cd263cdc3c68277790afb6634e8554602d3795f"), looks := true }, kinds := [], alts := [], laidByText := true, laidKinds := [.data, .data, .data, .data, .pinned], laidTests := true, laidLooks := .later }
def FnFormsCardSaid : Prop := Claim7.holds Tryd.pinned (.plain (OpenSpec.ofChange fnFormsSpec)) fnFormsCard

/-- THE TIED CARD OF 'laws.FnExactReadRequest'. -/
def fnExactReadRequestCard : Claim7 := { stood := { row := fnExactReadRequestRow, standIns := [], harness := (true, "81cf06ccbdb762c3223c6c0a9cd263cdc3c68277790afb6634e8554602d3795f"), looks := true }, kinds := [], alts := [], laidByText := true, laidKinds := [.data, .data, .data, .data, .sentinel, .sentinel, .pinned], laidTests := true, laidLooks := .later }
def FnExactReadRequestCardSaid : Prop := Claim7.holds Tryd.pinned (.plain (OpenSpec.ofChange fnExactReadRequestSpec)) fnExactReadRequestCard

/-- THE SECOND FORM's CARD OF 'laws.FnExactRequestText'. -/
def fnExactRequestTextUptoCard : Claim7 := { stood := { row := fnExactRequestTextUptoRow, standIns := [], harness := (true, "81cf06ccbdb762c3223c6c0a9cd263cdc3c68277790afb6634e8554602d3795f"), looks := true }, kinds := [], alts := [], laidByText := true, laidKinds := [.data, .data, .data], laidTests := true, laidLooks := .later }
def FnExactRequestTextUptoCardSaid : Prop := Claim7.holds Tryd.pinned (.plain (OpenSpec.upto fnExactRequestTextSpec)) fnExactRequestTextUptoCard

/-- THE SECOND FORM's CARD OF 'laws.FnExactPageText'. -/
def fnExactPageTextUptoCard : Claim7 := { stood := { row := fnExactPageTextUptoRow, standIns := [], harness := (true, "81cf06ccbdb762c3223c6c0a9cd263cdc3c68277790afb6634e8554602d3795f"), looks := true }, kinds := [], alts := [], laidByText := true, laidKinds := [.data, .data, .data], laidTests := true, laidLooks := .later }
def FnExactPageTextUptoCardSaid : Prop := Claim7.holds Tryd.pinned (.plain (OpenSpec.upto fnExactPageTextSpec)) fnExactPageTextUptoCard

/-- THE SECOND FORM's CARD OF 'laws.FnExactReadForm'. -/
def fnExactReadFormUptoCard : Claim7 := { stood := { row := fnExactReadFormUptoRow, standIns := [], harness := (true, "81cf06ccbdb762c3223c6c0a9cd263cdc3c68277790afb6634e8554602d3795f"), looks := true }, kinds := [], alts := [], laidByText := true, laidKinds := [.data, .pinned], laidTests := true, laidLooks := .later }
def FnExactReadFormUptoCardSaid : Prop := Claim7.holds Tryd.pinned (.plain (OpenSpec.upto fnExactReadFormSpec)) fnExactReadFormUptoCard

/-- THE SECOND FORM's CARD OF 'laws.FnForms'. -/
def fnFormsUptoCard : Claim7 := { stood := { row := fnFormsUptoRow, standIns := [], harness := (true, "81cf06ccbdb762c3223c6c0a9cd263cdc3c68277790afb6634e8554602d3795f"), looks := true }, kinds := [], alts := [], laidByText := true, laidKinds := [.data, .data, .data, .data, .pinned], laidTests := true, laidLooks := .later }
def FnFormsUptoCardSaid : Prop := Claim7.holds Tryd.pinned (.plain (OpenSpec.upto fnFormsSpec)) fnFormsUptoCard

/-- THE SECOND FORM's CARD OF 'laws.FnExactReadRequest'. -/
def fnExactReadRequestUptoCard : Claim7 := { stood := { row := fnExactReadRequestUptoRow, standIns := [], harness := (true, "81cf06ccbdb762c3223c6c0a9cd263cdc3c68277790afb6634e8554602d3795f"), looks := true }, kinds := [], alts := [], laidByText := true, laidKinds := [.data, .data, .data, .data, .sentinel, .sentinel, .pinned], laidTests := true, laidLooks := .later }
def FnExactReadRequestUptoCardSaid : Prop := Claim7.holds Tryd.pinned (.plain (OpenSpec.upto fnExactReadRequestSpec)) fnExactReadRequestUptoCard
end Rows
end Go.Proofs.YticjbpkgdbacpaaDoor
