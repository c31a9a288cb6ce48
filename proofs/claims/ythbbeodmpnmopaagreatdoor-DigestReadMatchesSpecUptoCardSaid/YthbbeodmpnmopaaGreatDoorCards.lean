/-
  DERIVED. GIVEN WITH THE SEED: THE CARDS: each row of YthbbeodmpnmopaaGreatDoorRows.lean that lists a variable, with what it lists TIED to the program's text (the seventh form; the later family's looks); each row that meets fmt, with fmt's text TOLD by the authors' own Lean function (tested against real Go, not proved from fmt's source: count such statements apart). THE CARD IS WHAT COUNTS. Prove the row's statement (the work); the ties are given (YthbbeodmpnmopaaGreatDoorTie.lean); close each card by the builder's one call (the guide's Derived/Test/ToyasCard.lean, 'card_holds'). Laid BY PROGRAM, IN A SANDBOX (cutbox-door.mjs). By AI agents, Wed Nov 11 2026. No macro, syntax, notation, axiom, sorry.
-/
import Derived.Test.YthbbeodmpnmopaaGreatDoorRows
import GoSem.ClaimSeven
namespace Go.Proofs.YthbbeodmpnmopaaGreatDoor
namespace Rows

/-- THE TIED CARD OF 'posthouselaw4.DigestReadMatchesSpec'. -/
def digestReadMatchesSpecCard : Claim7 := { stood := { row := digestReadMatchesSpecRow, standIns := [], harness := (true, "d59e5d7777073c9eb83883e077d4730e45fb4e634ce4fa037c26a89432b1c3ef"), looks := true }, kinds := [], alts := [], laidByText := true, laidKinds := [.data, .data, .data, .data, .sentinel, .sentinel, .pinned], laidTests := true, laidLooks := .later }
def DigestReadMatchesSpecCardSaid : Prop := Claim7.holds Tryz.pinned (.plain (OpenSpec.ofChange digestReadMatchesSpecSpec)) digestReadMatchesSpecCard

/-- THE SECOND FORM's CARD OF 'posthouselaw4.DigestReadMatchesSpec'. -/
def digestReadMatchesSpecUptoCard : Claim7 := { stood := { row := digestReadMatchesSpecUptoRow, standIns := [], harness := (true, "d59e5d7777073c9eb83883e077d4730e45fb4e634ce4fa037c26a89432b1c3ef"), looks := true }, kinds := [], alts := [], laidByText := true, laidKinds := [.data, .data, .data, .data, .sentinel, .sentinel, .pinned], laidTests := true, laidLooks := .later }
def DigestReadMatchesSpecUptoCardSaid : Prop := Claim7.holds Tryz.pinned (.plain (OpenSpec.upto digestReadMatchesSpecSpec)) digestReadMatchesSpecUptoCard
end Rows
end Go.Proofs.YthbbeodmpnmopaaGreatDoor
