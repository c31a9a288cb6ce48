/-
  DERIVED. GIVEN WITH THE SEED: THE CARDS: each row of YtjnmamghadpedaaGreatDoorRows.lean that lists a variable, with what it lists TIED to the program's text (the seventh form; the later family's looks); each row that meets fmt, with fmt's text TOLD by the authors' own Lean function (tested against real Go, not proved from fmt's source: count such statements apart). THE CARD IS WHAT COUNTS. Prove the row's statement (the work); the ties are given (YtjnmamghadpedaaGreatDoorTie.lean); close each card by the builder's one call (the guide's Derived/Test/ToyasCard.lean, 'card_holds'). Laid BY PROGRAM, IN A SANDBOX (cutbox-door.mjs). By AI agents, Wed Nov 11 2026. No macro, syntax, notation, axiom, sorry.
-/
import Derived.Test.YtjnmamghadpedaaGreatDoorRows
import GoSem.ClaimSeven
namespace Go.Proofs.YtjnmamghadpedaaGreatDoor
namespace Rows

/-- THE TIED CARD OF 'posthouselaw4.ClientStartMatchesSpec'. -/
def clientStartMatchesSpecCard : Claim7 := { stood := { row := clientStartMatchesSpecRow, standIns := [], harness := (true, "757b52ff8d638f6a6fd023b1fce585dcbabb8776cdfd507db08a279649185813"), looks := true }, kinds := [], alts := [], laidByText := true, laidKinds := [.data, .data, .data, .sentinel, .sentinel], laidTests := true, laidLooks := .later }
def ClientStartMatchesSpecCardSaid : Prop := Claim7.holds Tryz.pinned (.plain (OpenSpec.ofChange clientStartMatchesSpecSpec)) clientStartMatchesSpecCard

/-- THE TIED CARD OF 'posthouselaw4.ClientMatchesSpec'. -/
def clientMatchesSpecCard : Claim7 := { stood := { row := clientMatchesSpecRow, standIns := [], harness := (true, "757b52ff8d638f6a6fd023b1fce585dcbabb8776cdfd507db08a279649185813"), looks := true }, kinds := [], alts := [], laidByText := true, laidKinds := [.data, .data, .data, .sentinel, .sentinel], laidTests := true, laidLooks := .later }
def ClientMatchesSpecCardSaid : Prop := Claim7.holds Tryz.pinned (.plain (OpenSpec.ofChange clientMatchesSpecSpec)) clientMatchesSpecCard

/-- THE TIED CARD OF 'posthouselaw4.ClientCutsDoNotMatter'. -/
def clientCutsDoNotMatterCard : Claim7 := { stood := { row := clientCutsDoNotMatterRow, standIns := [], harness := (true, "757b52ff8d638f6a6fd023b1fce585dcbabb8776cdfd507db08a279649185813"), looks := true }, kinds := [], alts := [], laidByText := true, laidKinds := [.data, .data, .data, .sentinel, .sentinel], laidTests := true, laidLooks := .later }
def ClientCutsDoNotMatterCardSaid : Prop := Claim7.holds Tryz.pinned (.plain (OpenSpec.ofChange clientCutsDoNotMatterSpec)) clientCutsDoNotMatterCard

/-- THE TIED CARD OF 'posthouselaw4.ClientResultsStay'. -/
def clientResultsStayCard : Claim7 := { stood := { row := clientResultsStayRow, standIns := [], harness := (true, "757b52ff8d638f6a6fd023b1fce585dcbabb8776cdfd507db08a279649185813"), looks := true }, kinds := [], alts := [], laidByText := true, laidKinds := [.data, .data, .data, .sentinel, .sentinel], laidTests := true, laidLooks := .later }
def ClientResultsStayCardSaid : Prop := Claim7.holds Tryz.pinned (.plain (OpenSpec.ofChange clientResultsStaySpec)) clientResultsStayCard

/-- THE SECOND FORM's CARD OF 'posthouselaw4.ClientStartMatchesSpec'. -/
def clientStartMatchesSpecUptoCard : Claim7 := { stood := { row := clientStartMatchesSpecUptoRow, standIns := [], harness := (true, "757b52ff8d638f6a6fd023b1fce585dcbabb8776cdfd507db08a279649185813"), looks := true }, kinds := [], alts := [], laidByText := true, laidKinds := [.data, .data, .data, .sentinel, .sentinel], laidTests := true, laidLooks := .later }
def ClientStartMatchesSpecUptoCardSaid : Prop := Claim7.holds Tryz.pinned (.plain (OpenSpec.upto clientStartMatchesSpecSpec)) clientStartMatchesSpecUptoCard

/-- THE SECOND FORM's CARD OF 'posthouselaw4.ClientMatchesSpec'. -/
def clientMatchesSpecUptoCard : Claim7 := { stood := { row := clientMatchesSpecUptoRow, standIns := [], harness := (true, "757b52ff8d638f6a6fd023b1fce585dcbabb8776cdfd507db08a279649185813"), looks := true }, kinds := [], alts := [], laidByText := true, laidKinds := [.data, .data, .data, .sentinel, .sentinel], laidTests := true, laidLooks := .later }
def ClientMatchesSpecUptoCardSaid : Prop := Claim7.holds Tryz.pinned (.plain (OpenSpec.upto clientMatchesSpecSpec)) clientMatchesSpecUptoCard

/-- THE SECOND FORM's CARD OF 'posthouselaw4.ClientCutsDoNotMatter'. -/
def clientCutsDoNotMatterUptoCard : Claim7 := { stood := { row := clientCutsDoNotMatterUptoRow, standIns := [], harness := (true, "757b52ff8d638f6a6fd023b1fce585dcbabb8776cdfd507db08a279649185813"), looks := true }, kinds := [], alts := [], laidByText := true, laidKinds := [.data, .data, .data, .sentinel, .sentinel], laidTests := true, laidLooks := .later }
def ClientCutsDoNotMatterUptoCardSaid : Prop := Claim7.holds Tryz.pinned (.plain (OpenSpec.upto clientCutsDoNotMatterSpec)) clientCutsDoNotMatterUptoCard

/-- THE SECOND FORM's CARD OF 'posthouselaw4.ClientResultsStay'. -/
def clientResultsStayUptoCard : Claim7 := { stood := { row := clientResultsStayUptoRow, standIns := [], harness := (true, "757b52ff8d638f6a6fd023b1fce585dcbabb8776cdfd507db08a279649185813"), looks := true }, kinds := [], alts := [], laidByText := true, laidKinds := [.data, .data, .data, .sentinel, .sentinel], laidTests := true, laidLooks := .later }
def ClientResultsStayUptoCardSaid : Prop := Claim7.holds Tryz.pinned (.plain (OpenSpec.upto clientResultsStaySpec)) clientResultsStayUptoCard
end Rows
end Go.Proofs.YtjnmamghadpedaaGreatDoor
