/-
  DERIVED. GIVEN WITH THE SEED: THE CARDS: each row of YtmmjihadplknjaaGreatDoorRows.lean that lists a variable, with what it lists TIED to the program's text (the seventh form; the later family's looks); each row that meets fmt, with fmt's text TOLD by the authors' own Lean function (tested against real Go, not proved from fmt's source: count such statements apart). THE CARD IS WHAT COUNTS. Prove the row's statement (the work); the ties are given (YtmmjihadplknjaaGreatDoorTie.lean); close each card by the builder's one call (the guide's Derived/Test/ToyasCard.lean, 'card_holds'). Laid BY PROGRAM, IN A SANDBOX (cutbox-door.mjs). By AI agents, Wed Nov 11 2026. No macro, syntax, notation, axiom, sorry.
-/
import Derived.Test.YtmmjihadplknjaaGreatDoorRows
import GoSem.ClaimSeven
namespace Go.Proofs.YtmmjihadplknjaaGreatDoor
namespace Rows

/-- THE TIED CARD OF 'posthouselaw4.ServerNewMatchesSpec'. -/
def serverNewMatchesSpecCard : Claim7 := { stood := { row := serverNewMatchesSpecRow, standIns := [], harness := (true, "c3a46058c619bbb990f2c9173292cb02f40d32a2fe963c44e06f5dfe2fbc90d3"), looks := true }, kinds := [], alts := [], laidByText := true, laidKinds := [.data, .data, .data, .data, .sentinel, .sentinel, .pinned], laidTests := true, laidLooks := .later }
def ServerNewMatchesSpecCardSaid : Prop := Claim7.holds Tryz.pinned (.plain (OpenSpec.ofChange serverNewMatchesSpecSpec)) serverNewMatchesSpecCard

/-- THE TIED CARD OF 'posthouselaw4.ServerMatchesSpec'. -/
def serverMatchesSpecCard : Claim7 := { stood := { row := serverMatchesSpecRow, standIns := [], harness := (true, "c3a46058c619bbb990f2c9173292cb02f40d32a2fe963c44e06f5dfe2fbc90d3"), looks := true }, kinds := [], alts := [], laidByText := true, laidKinds := [.data, .data, .data, .data, .sentinel, .sentinel, .pinned], laidTests := true, laidLooks := .later }
def ServerMatchesSpecCardSaid : Prop := Claim7.holds Tryz.pinned (.plain (OpenSpec.ofChange serverMatchesSpecSpec)) serverMatchesSpecCard

/-- THE TIED CARD OF 'posthouselaw4.ServerCutsDoNotMatter'. -/
def serverCutsDoNotMatterCard : Claim7 := { stood := { row := serverCutsDoNotMatterRow, standIns := [], harness := (true, "c3a46058c619bbb990f2c9173292cb02f40d32a2fe963c44e06f5dfe2fbc90d3"), looks := true }, kinds := [], alts := [], laidByText := true, laidKinds := [.data, .data, .data, .data, .sentinel, .sentinel, .pinned], laidTests := true, laidLooks := .later }
def ServerCutsDoNotMatterCardSaid : Prop := Claim7.holds Tryz.pinned (.plain (OpenSpec.ofChange serverCutsDoNotMatterSpec)) serverCutsDoNotMatterCard

/-- THE TIED CARD OF 'posthouselaw4.ServerTakesWhatIsSent'. -/
def serverTakesWhatIsSentCard : Claim7 := { stood := { row := serverTakesWhatIsSentRow, standIns := [], harness := (true, "c3a46058c619bbb990f2c9173292cb02f40d32a2fe963c44e06f5dfe2fbc90d3"), looks := true }, kinds := [], alts := [], laidByText := true, laidKinds := [.data, .data, .data, .data, .sentinel, .sentinel, .pinned], laidTests := true, laidLooks := .later }
def ServerTakesWhatIsSentCardSaid : Prop := Claim7.holds Tryz.pinned (.plain (OpenSpec.ofChange serverTakesWhatIsSentSpec)) serverTakesWhatIsSentCard

/-- THE TIED CARD OF 'posthouselaw4.ServerMailsAreValid'. -/
def serverMailsAreValidCard : Claim7 := { stood := { row := serverMailsAreValidRow, standIns := [], harness := (true, "c3a46058c619bbb990f2c9173292cb02f40d32a2fe963c44e06f5dfe2fbc90d3"), looks := true }, kinds := [], alts := [], laidByText := true, laidKinds := [.data, .data, .data, .data, .sentinel, .sentinel, .pinned], laidTests := true, laidLooks := .later }
def ServerMailsAreValidCardSaid : Prop := Claim7.holds Tryz.pinned (.plain (OpenSpec.ofChange serverMailsAreValidSpec)) serverMailsAreValidCard

/-- THE SECOND FORM's CARD OF 'posthouselaw4.ServerNewMatchesSpec'. -/
def serverNewMatchesSpecUptoCard : Claim7 := { stood := { row := serverNewMatchesSpecUptoRow, standIns := [], harness := (true, "c3a46058c619bbb990f2c9173292cb02f40d32a2fe963c44e06f5dfe2fbc90d3"), looks := true }, kinds := [], alts := [], laidByText := true, laidKinds := [.data, .data, .data, .data, .sentinel, .sentinel, .pinned], laidTests := true, laidLooks := .later }
def ServerNewMatchesSpecUptoCardSaid : Prop := Claim7.holds Tryz.pinned (.plain (OpenSpec.upto serverNewMatchesSpecSpec)) serverNewMatchesSpecUptoCard

/-- THE SECOND FORM's CARD OF 'posthouselaw4.ServerMatchesSpec'. -/
def serverMatchesSpecUptoCard : Claim7 := { stood := { row := serverMatchesSpecUptoRow, standIns := [], harness := (true, "c3a46058c619bbb990f2c9173292cb02f40d32a2fe963c44e06f5dfe2fbc90d3"), looks := true }, kinds := [], alts := [], laidByText := true, laidKinds := [.data, .data, .data, .data, .sentinel, .sentinel, .pinned], laidTests := true, laidLooks := .later }
def ServerMatchesSpecUptoCardSaid : Prop := Claim7.holds Tryz.pinned (.plain (OpenSpec.upto serverMatchesSpecSpec)) serverMatchesSpecUptoCard

/-- THE SECOND FORM's CARD OF 'posthouselaw4.ServerCutsDoNotMatter'. -/
def serverCutsDoNotMatterUptoCard : Claim7 := { stood := { row := serverCutsDoNotMatterUptoRow, standIns := [], harness := (true, "c3a46058c619bbb990f2c9173292cb02f40d32a2fe963c44e06f5dfe2fbc90d3"), looks := true }, kinds := [], alts := [], laidByText := true, laidKinds := [.data, .data, .data, .data, .sentinel, .sentinel, .pinned], laidTests := true, laidLooks := .later }
def ServerCutsDoNotMatterUptoCardSaid : Prop := Claim7.holds Tryz.pinned (.plain (OpenSpec.upto serverCutsDoNotMatterSpec)) serverCutsDoNotMatterUptoCard

/-- THE SECOND FORM's CARD OF 'posthouselaw4.ServerTakesWhatIsSent'. -/
def serverTakesWhatIsSentUptoCard : Claim7 := { stood := { row := serverTakesWhatIsSentUptoRow, standIns := [], harness := (true, "c3a46058c619bbb990f2c9173292cb02f40d32a2fe963c44e06f5dfe2fbc90d3"), looks := true }, kinds := [], alts := [], laidByText := true, laidKinds := [.data, .data, .data, .data, .sentinel, .sentinel, .pinned], laidTests := true, laidLooks := .later }
def ServerTakesWhatIsSentUptoCardSaid : Prop := Claim7.holds Tryz.pinned (.plain (OpenSpec.upto serverTakesWhatIsSentSpec)) serverTakesWhatIsSentUptoCard

/-- THE SECOND FORM's CARD OF 'posthouselaw4.ServerMailsAreValid'. -/
def serverMailsAreValidUptoCard : Claim7 := { stood := { row := serverMailsAreValidUptoRow, standIns := [], harness := (true, "c3a46058c619bbb990f2c9173292cb02f40d32a2fe963c44e06f5dfe2fbc90d3"), looks := true }, kinds := [], alts := [], laidByText := true, laidKinds := [.data, .data, .data, .data, .sentinel, .sentinel, .pinned], laidTests := true, laidLooks := .later }
def ServerMailsAreValidUptoCardSaid : Prop := Claim7.holds Tryz.pinned (.plain (OpenSpec.upto serverMailsAreValidSpec)) serverMailsAreValidUptoCard
end Rows
end Go.Proofs.YtmmjihadplknjaaGreatDoor
