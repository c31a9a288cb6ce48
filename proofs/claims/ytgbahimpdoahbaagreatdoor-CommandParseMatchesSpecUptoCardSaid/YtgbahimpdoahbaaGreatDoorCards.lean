/-
  DERIVED. GIVEN WITH THE SEED: THE CARDS: each row of YtgbahimpdoahbaaGreatDoorRows.lean that lists a variable, with what it lists TIED to the program's text (the seventh form; the later family's looks); each row that meets fmt, with fmt's text TOLD by the authors' own Lean function (tested against real Go, not proved from fmt's source: count such statements apart). THE CARD IS WHAT COUNTS. Prove the row's statement (the work); the ties are given (YtgbahimpdoahbaaGreatDoorTie.lean); close each card by the builder's one call (the guide's Derived/Test/ToyasCard.lean, 'card_holds'). Laid BY PROGRAM, IN A SANDBOX (cutbox-door.mjs). By AI agents, Wed Nov 11 2026. No macro, syntax, notation, axiom, sorry.
-/
import Derived.Test.YtgbahimpdoahbaaGreatDoorRows
import GoSem.ClaimSeven
namespace Go.Proofs.YtgbahimpdoahbaaGreatDoor
namespace Rows

/-- THE TIED CARD OF 'posthouselaw3.CommandMatchesSpec'. -/
def commandMatchesSpecCard : Claim7 := { stood := { row := commandMatchesSpecRow, standIns := [], harness := (true, "464930d919c939b0998e21fbb3fdd887684a03da78763653843b8906418ffde0"), looks := true }, kinds := [], alts := [], laidByText := true, laidKinds := [.data, .data, .data, .sentinel, .sentinel], laidTests := true, laidLooks := .later }
def CommandMatchesSpecCardSaid : Prop := Claim7.holds Tryz.pinned (.plain (OpenSpec.ofChange commandMatchesSpecSpec)) commandMatchesSpecCard

/-- THE TIED CARD OF 'posthouselaw3.CommandParseMatchesSpec'. -/
def commandParseMatchesSpecCard : Claim7 := { stood := { row := commandParseMatchesSpecRow, standIns := [], harness := (true, "464930d919c939b0998e21fbb3fdd887684a03da78763653843b8906418ffde0"), looks := true }, kinds := [], alts := [], laidByText := true, laidKinds := [.data, .data, .data, .sentinel, .sentinel], laidTests := true, laidLooks := .later }
def CommandParseMatchesSpecCardSaid : Prop := Claim7.holds Tryz.pinned (.plain (OpenSpec.ofChange commandParseMatchesSpecSpec)) commandParseMatchesSpecCard

/-- THE SECOND FORM's CARD OF 'posthouselaw3.CommandMatchesSpec'. -/
def commandMatchesSpecUptoCard : Claim7 := { stood := { row := commandMatchesSpecUptoRow, standIns := [], harness := (true, "464930d919c939b0998e21fbb3fdd887684a03da78763653843b8906418ffde0"), looks := true }, kinds := [], alts := [], laidByText := true, laidKinds := [.data, .data, .data, .sentinel, .sentinel], laidTests := true, laidLooks := .later }
def CommandMatchesSpecUptoCardSaid : Prop := Claim7.holds Tryz.pinned (.plain (OpenSpec.upto commandMatchesSpecSpec)) commandMatchesSpecUptoCard

/-- THE SECOND FORM's CARD OF 'posthouselaw3.CommandParseMatchesSpec'. -/
def commandParseMatchesSpecUptoCard : Claim7 := { stood := { row := commandParseMatchesSpecUptoRow, standIns := [], harness := (true, "464930d919c939b0998e21fbb3fdd887684a03da78763653843b8906418ffde0"), looks := true }, kinds := [], alts := [], laidByText := true, laidKinds := [.data, .data, .data, .sentinel, .sentinel], laidTests := true, laidLooks := .later }
def CommandParseMatchesSpecUptoCardSaid : Prop := Claim7.holds Tryz.pinned (.plain (OpenSpec.upto commandParseMatchesSpecSpec)) commandParseMatchesSpecUptoCard
end Rows
end Go.Proofs.YtgbahimpdoahbaaGreatDoor
