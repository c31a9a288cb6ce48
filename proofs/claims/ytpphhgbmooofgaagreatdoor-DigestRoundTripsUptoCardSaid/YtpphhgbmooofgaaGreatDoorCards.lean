/-
  DERIVED. GIVEN WITH THE SEED: THE CARDS: each row of YtpphhgbmooofgaaGreatDoorRows.lean that lists a variable, with what it lists TIED to the program's text (the seventh form; the later family's looks); each row that meets fmt, with fmt's text TOLD by the authors' own Lean function (tested against real Go, not proved from fmt's source: count such statements apart). THE CARD IS WHAT COUNTS. Prove the row's statement (the work); the ties are given (YtpphhgbmooofgaaGreatDoorTie.lean); close each card by the builder's one call (the guide's Derived/Test/ToyasCard.lean, 'card_holds'). Laid BY PROGRAM, IN A SANDBOX (cutbox-door.mjs). By AI agents, Wed Nov 11 2026. No macro, syntax, notation, axiom, sorry.
-/
import Derived.Test.YtpphhgbmooofgaaGreatDoorRows
import GoSem.ClaimSeven
namespace Go.Proofs.YtpphhgbmooofgaaGreatDoor
namespace Rows

/-- THE TIED CARD OF 'posthouselaw4.DigestMatchesSpec'. -/
def digestMatchesSpecCard : Claim7 := { stood := { row := digestMatchesSpecRow, standIns := [], harness := (true, "a9079cb3aea3ca59547a3883b7aa141353a97051ad7e49e1266cb3107900fc48"), looks := true }, kinds := [], alts := [], laidByText := true, laidKinds := [.data, .data, .data, .data, .sentinel, .sentinel, .pinned], laidTests := true, laidLooks := .later }
def DigestMatchesSpecCardSaid : Prop := Claim7.holds Tryz.pinned (.plain (OpenSpec.ofChange digestMatchesSpecSpec)) digestMatchesSpecCard

/-- THE TIED CARD OF 'posthouselaw4.DigestReadMatchesSpec'. -/
def digestReadMatchesSpecCard : Claim7 := { stood := { row := digestReadMatchesSpecRow, standIns := [], harness := (true, "a9079cb3aea3ca59547a3883b7aa141353a97051ad7e49e1266cb3107900fc48"), looks := true }, kinds := [], alts := [], laidByText := true, laidKinds := [.data, .data, .data, .data, .sentinel, .sentinel, .pinned], laidTests := true, laidLooks := .later }
def DigestReadMatchesSpecCardSaid : Prop := Claim7.holds Tryz.pinned (.plain (OpenSpec.ofChange digestReadMatchesSpecSpec)) digestReadMatchesSpecCard

/-- THE TIED CARD OF 'posthouselaw4.DigestBatchesMatchSpec'. -/
def digestBatchesMatchSpecCard : Claim7 := { stood := { row := digestBatchesMatchSpecRow, standIns := [], harness := (true, "a9079cb3aea3ca59547a3883b7aa141353a97051ad7e49e1266cb3107900fc48"), looks := true }, kinds := [], alts := [], laidByText := true, laidKinds := [.data, .data, .data, .data, .sentinel, .sentinel, .pinned], laidTests := true, laidLooks := .later }
def DigestBatchesMatchSpecCardSaid : Prop := Claim7.holds Tryz.pinned (.plain (OpenSpec.ofChange digestBatchesMatchSpecSpec)) digestBatchesMatchSpecCard

/-- THE TIED CARD OF 'posthouselaw4.DigestRoundTrips'. -/
def digestRoundTripsCard : Claim7 := { stood := { row := digestRoundTripsRow, standIns := [], harness := (true, "a9079cb3aea3ca59547a3883b7aa141353a97051ad7e49e1266cb3107900fc48"), looks := true }, kinds := [], alts := [], laidByText := true, laidKinds := [.data, .data, .data, .data, .sentinel, .sentinel, .pinned], laidTests := true, laidLooks := .later }
def DigestRoundTripsCardSaid : Prop := Claim7.holds Tryz.pinned (.plain (OpenSpec.ofChange digestRoundTripsSpec)) digestRoundTripsCard

/-- THE SECOND FORM's CARD OF 'posthouselaw4.DigestMatchesSpec'. -/
def digestMatchesSpecUptoCard : Claim7 := { stood := { row := digestMatchesSpecUptoRow, standIns := [], harness := (true, "a9079cb3aea3ca59547a3883b7aa141353a97051ad7e49e1266cb3107900fc48"), looks := true }, kinds := [], alts := [], laidByText := true, laidKinds := [.data, .data, .data, .data, .sentinel, .sentinel, .pinned], laidTests := true, laidLooks := .later }
def DigestMatchesSpecUptoCardSaid : Prop := Claim7.holds Tryz.pinned (.plain (OpenSpec.upto digestMatchesSpecSpec)) digestMatchesSpecUptoCard

/-- THE SECOND FORM's CARD OF 'posthouselaw4.DigestReadMatchesSpec'. -/
def digestReadMatchesSpecUptoCard : Claim7 := { stood := { row := digestReadMatchesSpecUptoRow, standIns := [], harness := (true, "a9079cb3aea3ca59547a3883b7aa141353a97051ad7e49e1266cb3107900fc48"), looks := true }, kinds := [], alts := [], laidByText := true, laidKinds := [.data, .data, .data, .data, .sentinel, .sentinel, .pinned], laidTests := true, laidLooks := .later }
def DigestReadMatchesSpecUptoCardSaid : Prop := Claim7.holds Tryz.pinned (.plain (OpenSpec.upto digestReadMatchesSpecSpec)) digestReadMatchesSpecUptoCard

/-- THE SECOND FORM's CARD OF 'posthouselaw4.DigestBatchesMatchSpec'. -/
def digestBatchesMatchSpecUptoCard : Claim7 := { stood := { row := digestBatchesMatchSpecUptoRow, standIns := [], harness := (true, "a9079cb3aea3ca59547a3883b7aa141353a97051ad7e49e1266cb3107900fc48"), looks := true }, kinds := [], alts := [], laidByText := true, laidKinds := [.data, .data, .data, .data, .sentinel, .sentinel, .pinned], laidTests := true, laidLooks := .later }
def DigestBatchesMatchSpecUptoCardSaid : Prop := Claim7.holds Tryz.pinned (.plain (OpenSpec.upto digestBatchesMatchSpecSpec)) digestBatchesMatchSpecUptoCard

/-- THE SECOND FORM's CARD OF 'posthouselaw4.DigestRoundTrips'. -/
def digestRoundTripsUptoCard : Claim7 := { stood := { row := digestRoundTripsUptoRow, standIns := [], harness := (true, "a9079cb3aea3ca59547a3883b7aa141353a97051ad7e49e1266cb3107900fc48"), looks := true }, kinds := [], alts := [], laidByText := true, laidKinds := [.data, .data, .data, .data, .sentinel, .sentinel, .pinned], laidTests := true, laidLooks := .later }
def DigestRoundTripsUptoCardSaid : Prop := Claim7.holds Tryz.pinned (.plain (OpenSpec.upto digestRoundTripsSpec)) digestRoundTripsUptoCard
end Rows
end Go.Proofs.YtpphhgbmooofgaaGreatDoor
