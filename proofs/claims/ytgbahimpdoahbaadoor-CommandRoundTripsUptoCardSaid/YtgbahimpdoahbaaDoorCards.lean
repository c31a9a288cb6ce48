/-
  DERIVED. GIVEN WITH THE SEED: THE CARDS: each row of YtgbahimpdoahbaaDoorRows.lean that lists a variable, with what it lists TIED to the program's text (the seventh form; the later family's looks); each row that meets fmt, with fmt's text TOLD by the authors' own Lean function (tested against real Go, not proved from fmt's source: count such statements apart). THE CARD IS WHAT COUNTS. Prove the row's statement (the work); the ties are given (YtgbahimpdoahbaaDoorTie.lean); close each card by the builder's one call (the guide's Derived/Test/ToyasCard.lean, 'card_holds'). Laid BY PROGRAM, IN A SANDBOX (cutbox-door.mjs). By AI agents, Wed Nov 11 2026. No macro, syntax, notation, axiom, sorry.
-/
import Derived.Test.YtgbahimpdoahbaaDoorRows
import GoSem.ClaimSeven
namespace Go.Proofs.YtgbahimpdoahbaaDoor
namespace Rows

/-- THE TIED CARD OF 'posthouselaw3.CommandRoundTrips'. -/
def commandRoundTripsCard : Claim7 := { stood := { row := commandRoundTripsRow, standIns := [], harness := (true, "f6a20eed814434d942625c551f21fb36e3c1067dabc935d1e36e532263692529"), looks := true }, kinds := [], alts := [], laidByText := true, laidKinds := [.data, .data, .data, .sentinel, .sentinel], laidTests := true, laidLooks := .later }
def CommandRoundTripsCardSaid : Prop := Claim7.holds Tryd.pinned (.plain (OpenSpec.ofChange commandRoundTripsSpec)) commandRoundTripsCard

/-- THE SECOND FORM's CARD OF 'posthouselaw3.CommandRoundTrips'. -/
def commandRoundTripsUptoCard : Claim7 := { stood := { row := commandRoundTripsUptoRow, standIns := [], harness := (true, "f6a20eed814434d942625c551f21fb36e3c1067dabc935d1e36e532263692529"), looks := true }, kinds := [], alts := [], laidByText := true, laidKinds := [.data, .data, .data, .sentinel, .sentinel], laidTests := true, laidLooks := .later }
def CommandRoundTripsUptoCardSaid : Prop := Claim7.holds Tryd.pinned (.plain (OpenSpec.upto commandRoundTripsSpec)) commandRoundTripsUptoCard
end Rows
end Go.Proofs.YtgbahimpdoahbaaDoor
