/-
  DERIVED. GIVEN WITH THE SEED: THE CARDS: each row of YtjjgjalfelnclaaGreatDoorRows.lean that lists a variable, with what it lists TIED to the program's text (the seventh form; the later family's looks); each row that meets fmt, with fmt's text TOLD by the authors' own Lean function (tested against real Go, not proved from fmt's source: count such statements apart). THE CARD IS WHAT COUNTS. Prove the row's statement (the work); the ties are given (YtjjgjalfelnclaaGreatDoorTie.lean); close each card by the builder's one call (the guide's Derived/Test/ToyasCard.lean, 'card_holds'). Laid BY PROGRAM, IN A SANDBOX (cutbox-door.mjs). By AI agents, Wed Nov 11 2026. No macro, syntax, notation, axiom, sorry.
-/
import Derived.Test.YtjjgjalfelnclaaGreatDoorRows
import GoSem.ClaimSeven
namespace Go.Proofs.YtjjgjalfelnclaaGreatDoor
namespace Rows

/-- THE TIED CARD OF 'posthouselaw4.WireMatchesSpec'. -/
def wireMatchesSpecCard : Claim7 := { stood := { row := wireMatchesSpecRow, standIns := [], harness := (true, "355d3ee5b0e863d8c0aec8c06b071afc06ac115a0aad96c23234c29827f3f062"), looks := true }, kinds := [], alts := [], laidByText := true, laidKinds := [.data, .data, .data, .data, .sentinel, .sentinel, .pinned], laidTests := true, laidLooks := .later }
def WireMatchesSpecCardSaid : Prop := Claim7.holds Tryz.pinned (.plain (OpenSpec.ofChange wireMatchesSpecSpec)) wireMatchesSpecCard

/-- THE TIED CARD OF 'posthouselaw4.WireAcceptedAtMostOnce'. -/
def wireAcceptedAtMostOnceCard : Claim7 := { stood := { row := wireAcceptedAtMostOnceRow, standIns := [], harness := (true, "355d3ee5b0e863d8c0aec8c06b071afc06ac115a0aad96c23234c29827f3f062"), looks := true }, kinds := [], alts := [], laidByText := true, laidKinds := [.data, .data, .data, .data, .sentinel, .sentinel, .pinned], laidTests := true, laidLooks := .later }
def WireAcceptedAtMostOnceCardSaid : Prop := Claim7.holds Tryz.pinned (.plain (OpenSpec.ofChange wireAcceptedAtMostOnceSpec)) wireAcceptedAtMostOnceCard

/-- THE TIED CARD OF 'posthouselaw4.WireWithoutLossSends'. -/
def wireWithoutLossSendsCard : Claim7 := { stood := { row := wireWithoutLossSendsRow, standIns := [], harness := (true, "355d3ee5b0e863d8c0aec8c06b071afc06ac115a0aad96c23234c29827f3f062"), looks := true }, kinds := [], alts := [], laidByText := true, laidKinds := [.data, .data, .data, .data, .sentinel, .sentinel, .pinned], laidTests := true, laidLooks := .later }
def WireWithoutLossSendsCardSaid : Prop := Claim7.holds Tryz.pinned (.plain (OpenSpec.ofChange wireWithoutLossSendsSpec)) wireWithoutLossSendsCard

/-- THE TIED CARD OF 'posthouselaw4.WireCutsDoNotMatter'. -/
def wireCutsDoNotMatterCard : Claim7 := { stood := { row := wireCutsDoNotMatterRow, standIns := [], harness := (true, "355d3ee5b0e863d8c0aec8c06b071afc06ac115a0aad96c23234c29827f3f062"), looks := true }, kinds := [], alts := [], laidByText := true, laidKinds := [.data, .data, .data, .data, .sentinel, .sentinel, .pinned], laidTests := true, laidLooks := .later }
def WireCutsDoNotMatterCardSaid : Prop := Claim7.holds Tryz.pinned (.plain (OpenSpec.ofChange wireCutsDoNotMatterSpec)) wireCutsDoNotMatterCard

/-- THE SECOND FORM's CARD OF 'posthouselaw4.WireMatchesSpec'. -/
def wireMatchesSpecUptoCard : Claim7 := { stood := { row := wireMatchesSpecUptoRow, standIns := [], harness := (true, "355d3ee5b0e863d8c0aec8c06b071afc06ac115a0aad96c23234c29827f3f062"), looks := true }, kinds := [], alts := [], laidByText := true, laidKinds := [.data, .data, .data, .data, .sentinel, .sentinel, .pinned], laidTests := true, laidLooks := .later }
def WireMatchesSpecUptoCardSaid : Prop := Claim7.holds Tryz.pinned (.plain (OpenSpec.upto wireMatchesSpecSpec)) wireMatchesSpecUptoCard

/-- THE SECOND FORM's CARD OF 'posthouselaw4.WireAcceptedAtMostOnce'. -/
def wireAcceptedAtMostOnceUptoCard : Claim7 := { stood := { row := wireAcceptedAtMostOnceUptoRow, standIns := [], harness := (true, "355d3ee5b0e863d8c0aec8c06b071afc06ac115a0aad96c23234c29827f3f062"), looks := true }, kinds := [], alts := [], laidByText := true, laidKinds := [.data, .data, .data, .data, .sentinel, .sentinel, .pinned], laidTests := true, laidLooks := .later }
def WireAcceptedAtMostOnceUptoCardSaid : Prop := Claim7.holds Tryz.pinned (.plain (OpenSpec.upto wireAcceptedAtMostOnceSpec)) wireAcceptedAtMostOnceUptoCard

/-- THE SECOND FORM's CARD OF 'posthouselaw4.WireWithoutLossSends'. -/
def wireWithoutLossSendsUptoCard : Claim7 := { stood := { row := wireWithoutLossSendsUptoRow, standIns := [], harness := (true, "355d3ee5b0e863d8c0aec8c06b071afc06ac115a0aad96c23234c29827f3f062"), looks := true }, kinds := [], alts := [], laidByText := true, laidKinds := [.data, .data, .data, .data, .sentinel, .sentinel, .pinned], laidTests := true, laidLooks := .later }
def WireWithoutLossSendsUptoCardSaid : Prop := Claim7.holds Tryz.pinned (.plain (OpenSpec.upto wireWithoutLossSendsSpec)) wireWithoutLossSendsUptoCard

/-- THE SECOND FORM's CARD OF 'posthouselaw4.WireCutsDoNotMatter'. -/
def wireCutsDoNotMatterUptoCard : Claim7 := { stood := { row := wireCutsDoNotMatterUptoRow, standIns := [], harness := (true, "355d3ee5b0e863d8c0aec8c06b071afc06ac115a0aad96c23234c29827f3f062"), looks := true }, kinds := [], alts := [], laidByText := true, laidKinds := [.data, .data, .data, .data, .sentinel, .sentinel, .pinned], laidTests := true, laidLooks := .later }
def WireCutsDoNotMatterUptoCardSaid : Prop := Claim7.holds Tryz.pinned (.plain (OpenSpec.upto wireCutsDoNotMatterSpec)) wireCutsDoNotMatterUptoCard
end Rows
end Go.Proofs.YtjjgjalfelnclaaGreatDoor
