/-
  DERIVED. GIVEN WITH THE SEED: THE CARDS: each row of YtfkgmcilaiblfaaGreatDoorRows.lean that lists a variable, with what it lists TIED to the program's text (the seventh form; the later family's looks); each row that meets fmt, with fmt's text TOLD by the authors' own Lean function (tested against real Go, not proved from fmt's source: count such statements apart). THE CARD IS WHAT COUNTS. Prove the row's statement (the work); the ties are given (YtfkgmcilaiblfaaGreatDoorTie.lean); close each card by the builder's one call (the guide's Derived/Test/ToyasCard.lean, 'card_holds'). Laid BY PROGRAM, IN A SANDBOX (cutbox-door.mjs). By AI agents, Wed Nov 11 2026. No macro, syntax, notation, axiom, sorry.
-/
import Derived.Test.YtfkgmcilaiblfaaGreatDoorRows
import GoSem.ClaimSeven
namespace Go.Proofs.YtfkgmcilaiblfaaGreatDoor
namespace Rows

/-- THE TIED CARD OF 'posthouselaw3.NoticeMatchesSpec'. -/
def noticeMatchesSpecCard : Claim7 := { stood := { row := noticeMatchesSpecRow, standIns := [], harness := (true, "0ccc71e2d32ed2e7d0a1fd821e761065392c117ef9f4cfac34cb7b39ec217f65"), looks := true }, kinds := [], alts := [], laidByText := true, laidKinds := [.data, .data, .data], laidTests := true, laidLooks := .later }
def NoticeMatchesSpecCardSaid : Prop := Claim7.holds Tryz.pinned (.plain (OpenSpec.ofChange noticeMatchesSpecSpec)) noticeMatchesSpecCard

/-- THE TIED CARD OF 'posthouselaw3.BounceNeverBounces'. -/
def bounceNeverBouncesCard : Claim7 := { stood := { row := bounceNeverBouncesRow, standIns := [], harness := (true, "0ccc71e2d32ed2e7d0a1fd821e761065392c117ef9f4cfac34cb7b39ec217f65"), looks := true }, kinds := [], alts := [], laidByText := true, laidKinds := [.data, .data, .data], laidTests := true, laidLooks := .later }
def BounceNeverBouncesCardSaid : Prop := Claim7.holds Tryz.pinned (.plain (OpenSpec.ofChange bounceNeverBouncesSpec)) bounceNeverBouncesCard

/-- THE TIED CARD OF 'posthouselaw3.BounceTellsEachOnce'. -/
def bounceTellsEachOnceCard : Claim7 := { stood := { row := bounceTellsEachOnceRow, standIns := [], harness := (true, "0ccc71e2d32ed2e7d0a1fd821e761065392c117ef9f4cfac34cb7b39ec217f65"), looks := true }, kinds := [], alts := [], laidByText := true, laidKinds := [.data, .data, .data], laidTests := true, laidLooks := .later }
def BounceTellsEachOnceCardSaid : Prop := Claim7.holds Tryz.pinned (.plain (OpenSpec.ofChange bounceTellsEachOnceSpec)) bounceTellsEachOnceCard

/-- THE TIED CARD OF 'posthouselaw3.NoticeSurvivesTheWay'. -/
def noticeSurvivesTheWayCard : Claim7 := { stood := { row := noticeSurvivesTheWayRow, standIns := [], harness := (true, "0ccc71e2d32ed2e7d0a1fd821e761065392c117ef9f4cfac34cb7b39ec217f65"), looks := true }, kinds := [], alts := [], laidByText := true, laidKinds := [.data, .data, .data, .data, .pinned], laidTests := true, laidLooks := .later }
def NoticeSurvivesTheWayCardSaid : Prop := Claim7.holds Tryz.pinned (.plain (OpenSpec.ofChange noticeSurvivesTheWaySpec)) noticeSurvivesTheWayCard

/-- THE SECOND FORM's CARD OF 'posthouselaw3.NoticeMatchesSpec'. -/
def noticeMatchesSpecUptoCard : Claim7 := { stood := { row := noticeMatchesSpecUptoRow, standIns := [], harness := (true, "0ccc71e2d32ed2e7d0a1fd821e761065392c117ef9f4cfac34cb7b39ec217f65"), looks := true }, kinds := [], alts := [], laidByText := true, laidKinds := [.data, .data, .data], laidTests := true, laidLooks := .later }
def NoticeMatchesSpecUptoCardSaid : Prop := Claim7.holds Tryz.pinned (.plain (OpenSpec.upto noticeMatchesSpecSpec)) noticeMatchesSpecUptoCard

/-- THE SECOND FORM's CARD OF 'posthouselaw3.BounceNeverBounces'. -/
def bounceNeverBouncesUptoCard : Claim7 := { stood := { row := bounceNeverBouncesUptoRow, standIns := [], harness := (true, "0ccc71e2d32ed2e7d0a1fd821e761065392c117ef9f4cfac34cb7b39ec217f65"), looks := true }, kinds := [], alts := [], laidByText := true, laidKinds := [.data, .data, .data], laidTests := true, laidLooks := .later }
def BounceNeverBouncesUptoCardSaid : Prop := Claim7.holds Tryz.pinned (.plain (OpenSpec.upto bounceNeverBouncesSpec)) bounceNeverBouncesUptoCard

/-- THE SECOND FORM's CARD OF 'posthouselaw3.BounceTellsEachOnce'. -/
def bounceTellsEachOnceUptoCard : Claim7 := { stood := { row := bounceTellsEachOnceUptoRow, standIns := [], harness := (true, "0ccc71e2d32ed2e7d0a1fd821e761065392c117ef9f4cfac34cb7b39ec217f65"), looks := true }, kinds := [], alts := [], laidByText := true, laidKinds := [.data, .data, .data], laidTests := true, laidLooks := .later }
def BounceTellsEachOnceUptoCardSaid : Prop := Claim7.holds Tryz.pinned (.plain (OpenSpec.upto bounceTellsEachOnceSpec)) bounceTellsEachOnceUptoCard

/-- THE SECOND FORM's CARD OF 'posthouselaw3.NoticeSurvivesTheWay'. -/
def noticeSurvivesTheWayUptoCard : Claim7 := { stood := { row := noticeSurvivesTheWayUptoRow, standIns := [], harness := (true, "0ccc71e2d32ed2e7d0a1fd821e761065392c117ef9f4cfac34cb7b39ec217f65"), looks := true }, kinds := [], alts := [], laidByText := true, laidKinds := [.data, .data, .data, .data, .pinned], laidTests := true, laidLooks := .later }
def NoticeSurvivesTheWayUptoCardSaid : Prop := Claim7.holds Tryz.pinned (.plain (OpenSpec.upto noticeSurvivesTheWaySpec)) noticeSurvivesTheWayUptoCard
end Rows
end Go.Proofs.YtfkgmcilaiblfaaGreatDoor
