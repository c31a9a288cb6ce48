/-
  DERIVED. GIVEN WITH THE SEED: THE CARDS: each row of YtpbanomkkkongaaGreatDoorRows.lean that lists a variable, with what it lists TIED to the program's text (the seventh form; the later family's looks); each row that meets fmt, with fmt's text TOLD by the authors' own Lean function (tested against real Go, not proved from fmt's source: count such statements apart). THE CARD IS WHAT COUNTS. Prove the row's statement (the work); the ties are given (YtpbanomkkkongaaGreatDoorTie.lean); close each card by the builder's one call (the guide's Derived/Test/ToyasCard.lean, 'card_holds'). Laid BY PROGRAM, IN A SANDBOX (cutbox-door.mjs). By AI agents, Wed Nov 11 2026. No macro, syntax, notation, axiom, sorry.
-/
import Derived.Test.YtpbanomkkkongaaGreatDoorRows
import GoSem.ClaimSeven
namespace Go.Proofs.YtpbanomkkkongaaGreatDoor
namespace Rows

/-- THE TIED CARD OF 'posthouselaw3.TraceMatchesSpec'. -/
def traceMatchesSpecCard : Claim7 := { stood := { row := traceMatchesSpecRow, standIns := [], harness := (true, "932039078086f21dbb37d004a11ccd779c9be40ac65dce4b1c0f1ebe56a66b4c"), looks := false }, kinds := [], alts := [], laidByText := true, laidKinds := [.data, .data, .data, .data, .pinned], laidTests := true, laidLooks := .later }
def TraceMatchesSpecCardSaid : Prop := Claim7.holds Tryz.pinned (.plain (OpenSpec.ofChange traceMatchesSpecSpec)) traceMatchesSpecCard

/-- THE TIED CARD OF 'posthouselaw3.TraceHopsMatchSpec'. -/
def traceHopsMatchSpecCard : Claim7 := { stood := { row := traceHopsMatchSpecRow, standIns := [], harness := (true, "932039078086f21dbb37d004a11ccd779c9be40ac65dce4b1c0f1ebe56a66b4c"), looks := false }, kinds := [], alts := [], laidByText := true, laidKinds := [.data, .data, .data, .data, .pinned], laidTests := true, laidLooks := .later }
def TraceHopsMatchSpecCardSaid : Prop := Claim7.holds Tryz.pinned (.plain (OpenSpec.ofChange traceHopsMatchSpecSpec)) traceHopsMatchSpecCard

/-- THE TIED CARD OF 'posthouselaw3.TraceLoopsEnd'. -/
def traceLoopsEndCard : Claim7 := { stood := { row := traceLoopsEndRow, standIns := [], harness := (true, "932039078086f21dbb37d004a11ccd779c9be40ac65dce4b1c0f1ebe56a66b4c"), looks := false }, kinds := [], alts := [], laidByText := true, laidKinds := [.data, .data, .data, .data, .pinned], laidTests := true, laidLooks := .later }
def TraceLoopsEndCardSaid : Prop := Claim7.holds Tryz.pinned (.plain (OpenSpec.ofChange traceLoopsEndSpec)) traceLoopsEndCard

/-- THE SECOND FORM's CARD OF 'posthouselaw3.TraceMatchesSpec'. -/
def traceMatchesSpecUptoCard : Claim7 := { stood := { row := traceMatchesSpecUptoRow, standIns := [], harness := (true, "932039078086f21dbb37d004a11ccd779c9be40ac65dce4b1c0f1ebe56a66b4c"), looks := false }, kinds := [], alts := [], laidByText := true, laidKinds := [.data, .data, .data, .data, .pinned], laidTests := true, laidLooks := .later }
def TraceMatchesSpecUptoCardSaid : Prop := Claim7.holds Tryz.pinned (.plain (OpenSpec.upto traceMatchesSpecSpec)) traceMatchesSpecUptoCard

/-- THE SECOND FORM's CARD OF 'posthouselaw3.TraceHopsMatchSpec'. -/
def traceHopsMatchSpecUptoCard : Claim7 := { stood := { row := traceHopsMatchSpecUptoRow, standIns := [], harness := (true, "932039078086f21dbb37d004a11ccd779c9be40ac65dce4b1c0f1ebe56a66b4c"), looks := false }, kinds := [], alts := [], laidByText := true, laidKinds := [.data, .data, .data, .data, .pinned], laidTests := true, laidLooks := .later }
def TraceHopsMatchSpecUptoCardSaid : Prop := Claim7.holds Tryz.pinned (.plain (OpenSpec.upto traceHopsMatchSpecSpec)) traceHopsMatchSpecUptoCard

/-- THE SECOND FORM's CARD OF 'posthouselaw3.TraceLoopsEnd'. -/
def traceLoopsEndUptoCard : Claim7 := { stood := { row := traceLoopsEndUptoRow, standIns := [], harness := (true, "932039078086f21dbb37d004a11ccd779c9be40ac65dce4b1c0f1ebe56a66b4c"), looks := false }, kinds := [], alts := [], laidByText := true, laidKinds := [.data, .data, .data, .data, .pinned], laidTests := true, laidLooks := .later }
def TraceLoopsEndUptoCardSaid : Prop := Claim7.holds Tryz.pinned (.plain (OpenSpec.upto traceLoopsEndSpec)) traceLoopsEndUptoCard
end Rows
end Go.Proofs.YtpbanomkkkongaaGreatDoor
