/-
  DERIVED. GIVEN WITH THE SEED: THE CARDS: each row of YtpclhpncmlbccaaGreatDoorRows.lean that lists a variable, with what it lists TIED to the program's text (the seventh form; the later family's looks); each row that meets fmt, with fmt's text TOLD by the authors' own Lean function (tested against real Go, not proved from fmt's source: count such statements apart). THE CARD IS WHAT COUNTS. Prove the row's statement (the work); the ties are given (YtpclhpncmlbccaaGreatDoorTie.lean); close each card by the builder's one call (the guide's Derived/Test/ToyasCard.lean, 'card_holds'). Laid BY PROGRAM, IN A SANDBOX (cutbox-door.mjs). By AI agents, Wed Nov 11 2026. No macro, syntax, notation, axiom, sorry.
-/
import Derived.Test.YtpclhpncmlbccaaGreatDoorRows
import GoSem.ClaimSeven
namespace Go.Proofs.YtpclhpncmlbccaaGreatDoor
namespace Rows

/-- THE TIED CARD OF 'posthouselaw3.NoticeSurvivesTheWay'. -/
def noticeSurvivesTheWayCard : Claim7 := { stood := { row := noticeSurvivesTheWayRow, standIns := [], harness := (true, "0a2422133a1ba627daa1251ea00875d42400dc08013588dc98d97c84bc2186cf"), looks := true }, kinds := [], alts := [], laidByText := true, laidKinds := [.data, .data, .data, .data, .pinned], laidTests := true, laidLooks := .later }
def NoticeSurvivesTheWayCardSaid : Prop := Claim7.holds Tryz.pinned (.plain (OpenSpec.ofChange noticeSurvivesTheWaySpec)) noticeSurvivesTheWayCard

/-- THE SECOND FORM's CARD OF 'posthouselaw3.NoticeSurvivesTheWay'. -/
def noticeSurvivesTheWayUptoCard : Claim7 := { stood := { row := noticeSurvivesTheWayUptoRow, standIns := [], harness := (true, "0a2422133a1ba627daa1251ea00875d42400dc08013588dc98d97c84bc2186cf"), looks := true }, kinds := [], alts := [], laidByText := true, laidKinds := [.data, .data, .data, .data, .pinned], laidTests := true, laidLooks := .later }
def NoticeSurvivesTheWayUptoCardSaid : Prop := Claim7.holds Tryz.pinned (.plain (OpenSpec.upto noticeSurvivesTheWaySpec)) noticeSurvivesTheWayUptoCard
end Rows
end Go.Proofs.YtpclhpncmlbccaaGreatDoor
