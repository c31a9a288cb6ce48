/-
  DERIVED. GIVEN WITH THE SEED: THE CARDS: each row of YtkoijpogjobgjaaDoorRows.lean that lists a variable, with what it lists TIED to the program's text (the seventh form; the later family's looks); each row that meets fmt, with fmt's text TOLD by the authors' own Lean function (tested against real Go, not proved from fmt's source: count such statements apart). THE CARD IS WHAT COUNTS. Prove the row's statement (the work); the ties are given (YtkoijpogjobgjaaDoorTie.lean); close each card by the builder's one call (the guide's Derived/Test/ToyasCard.lean, 'card_holds'). Laid BY PROGRAM, IN A SANDBOX (cutbox-door.mjs). By AI agents, Wed Nov 11 2026. No macro, syntax, notation, axiom, sorry.
-/
import Derived.Test.YtkoijpogjobgjaaDoorRows
import GoSem.ClaimSeven
namespace Go.Proofs.YtkoijpogjobgjaaDoor
namespace Rows

/-- THE TIED CARD OF 'posthouselaw3.ReplyMatchesSpec'. -/
def replyMatchesSpecCard : Claim7 := { stood := { row := replyMatchesSpecRow, standIns := [], harness := (true, "3d16716f940a1c08d012e01c851852bdf2447919d6f716cddf59fe5db3810b51"), looks := true }, kinds := [], alts := [], laidByText := true, laidKinds := [.data, .data, .data, .sentinel, .sentinel], laidTests := true, laidLooks := .later }
def ReplyMatchesSpecCardSaid : Prop := Claim7.holds Tryd.pinned (.plain (OpenSpec.ofChange replyMatchesSpecSpec)) replyMatchesSpecCard

/-- THE TIED CARD OF 'posthouselaw3.ReplyParseMatchesSpec'. -/
def replyParseMatchesSpecCard : Claim7 := { stood := { row := replyParseMatchesSpecRow, standIns := [], harness := (true, "3d16716f940a1c08d012e01c851852bdf2447919d6f716cddf59fe5db3810b51"), looks := true }, kinds := [], alts := [], laidByText := true, laidKinds := [.data, .data, .data, .sentinel, .sentinel], laidTests := true, laidLooks := .later }
def ReplyParseMatchesSpecCardSaid : Prop := Claim7.holds Tryd.pinned (.plain (OpenSpec.ofChange replyParseMatchesSpecSpec)) replyParseMatchesSpecCard

/-- THE TIED CARD OF 'posthouselaw3.ReplyRoundTrips'. -/
def replyRoundTripsCard : Claim7 := { stood := { row := replyRoundTripsRow, standIns := [], harness := (true, "3d16716f940a1c08d012e01c851852bdf2447919d6f716cddf59fe5db3810b51"), looks := true }, kinds := [], alts := [], laidByText := true, laidKinds := [.data, .data, .data, .sentinel, .sentinel], laidTests := true, laidLooks := .later }
def ReplyRoundTripsCardSaid : Prop := Claim7.holds Tryd.pinned (.plain (OpenSpec.ofChange replyRoundTripsSpec)) replyRoundTripsCard

/-- THE SECOND FORM's CARD OF 'posthouselaw3.ReplyMatchesSpec'. -/
def replyMatchesSpecUptoCard : Claim7 := { stood := { row := replyMatchesSpecUptoRow, standIns := [], harness := (true, "3d16716f940a1c08d012e01c851852bdf2447919d6f716cddf59fe5db3810b51"), looks := true }, kinds := [], alts := [], laidByText := true, laidKinds := [.data, .data, .data, .sentinel, .sentinel], laidTests := true, laidLooks := .later }
def ReplyMatchesSpecUptoCardSaid : Prop := Claim7.holds Tryd.pinned (.plain (OpenSpec.upto replyMatchesSpecSpec)) replyMatchesSpecUptoCard

/-- THE SECOND FORM's CARD OF 'posthouselaw3.ReplyParseMatchesSpec'. -/
def replyParseMatchesSpecUptoCard : Claim7 := { stood := { row := replyParseMatchesSpecUptoRow, standIns := [], harness := (true, "3d16716f940a1c08d012e01c851852bdf2447919d6f716cddf59fe5db3810b51"), looks := true }, kinds := [], alts := [], laidByText := true, laidKinds := [.data, .data, .data, .sentinel, .sentinel], laidTests := true, laidLooks := .later }
def ReplyParseMatchesSpecUptoCardSaid : Prop := Claim7.holds Tryd.pinned (.plain (OpenSpec.upto replyParseMatchesSpecSpec)) replyParseMatchesSpecUptoCard

/-- THE SECOND FORM's CARD OF 'posthouselaw3.ReplyRoundTrips'. -/
def replyRoundTripsUptoCard : Claim7 := { stood := { row := replyRoundTripsUptoRow, standIns := [], harness := (true, "3d16716f940a1c08d012e01c851852bdf2447919d6f716cddf59fe5db3810b51"), looks := true }, kinds := [], alts := [], laidByText := true, laidKinds := [.data, .data, .data, .sentinel, .sentinel], laidTests := true, laidLooks := .later }
def ReplyRoundTripsUptoCardSaid : Prop := Claim7.holds Tryd.pinned (.plain (OpenSpec.upto replyRoundTripsSpec)) replyRoundTripsUptoCard
end Rows
end Go.Proofs.YtkoijpogjobgjaaDoor
