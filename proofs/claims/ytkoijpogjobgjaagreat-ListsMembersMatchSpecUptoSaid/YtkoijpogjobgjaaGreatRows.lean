/-
  No cell of these rows narrows 'for every input' (looked for: loops, veiled, ifaces, maps, wideKeys, modest, calm, conditions, laid).
  DERIVED. THE GIVEN ROWS OF THIS SEAT. 3 by the template 'for every input the law returns true; each argument reads behind the call as it read before'; 0 by the template 'total and deterministic' (their statements: YtkoijpogjobgjaaGreatTotals.lean).
  GIVEN WITH THE SEED: the statements are not yours to turn. If you find one false, say at which input.
  Laid BY PROGRAM, IN A SANDBOX (cutbox-rows.mjs): the forced cells as the released guide's own fill.sh prints them over the translation 4c4026971c8090e0… (all of the seat's roots in one cut). By AI agents, Wed Nov 11 2026. No macro, syntax, notation, axiom, sorry.
-/
import Derived.Test.YtkoijpogjobgjaaGreatChecked
import GoSem.Claim
import GoSem.ClaimJoined
import GoSem.ClaimMapViews
import Derived.JoinedTies
import Derived.KernelRfl
namespace Go.Proofs.YtkoijpogjobgjaaGreat
/- THE CELL 'sum', in the pinned program and in every row, IS THE sha256 OF THE DUMP (.gsa) THAT YtkoijpogjobgjaaGreatProg.lean LOADS. Nothing in Lean hashes anything: it is a label: what it is worth is what the hold of that sum in a sandbox is worth. -/
noncomputable def Tryz.pinned : Pinned := { name := "ytkoijpogjobgjaagreat", sum := "4c4026971c8090e00180f79ed0150d170d9bd8c2cac0bf502517869a82a59a9a", checked := Tryz.checked }
namespace Rows
def none {H : Type} : Left H := { results := [], args := [] }

/-- 'posthouselaw3.ListsMatchSpec': WHATEVER THE INPUT: true; the input reads as it did. -/
def listsMatchSpecSpec : ChangeSpec := { name := "listsMatchSpec", fn := fun _ => fun
  | [d1, d2] => { results := [.lit (.bool true)], args := [d1, d2] }
  | _ => none }
def listsMatchSpecRow : OpenClaim := { program := "ytkoijpogjobgjaagreat", sum := "4c4026971c8090e00180f79ed0150d170d9bd8c2cac0bf502517869a82a59a9a", func := "posthouse/posthouselaw3.ListsMatchSpec", spec := "listsMatchSpec", inPlace := ["internal/bytealg.IndexByteString", "internal/bytealg.IndexString"], unfollowed := true, recurses := true, named := ["internal/bytealg.MaxLen"], apart := false }
def ListsMatchSpecSaid : Prop := listsMatchSpecRow.holds Tryz.pinned (OpenSpec.ofChange listsMatchSpecSpec)

/-- ITS FALSE NEIGHBOUR: 'it returns false'. Refute it at one input. -/
def listsMatchSpecWrong : ChangeSpec := { name := "listsMatchSpec", fn := fun _ => fun
  | [d1, d2] => { results := [.lit (.bool false)], args := [d1, d2] }
  | _ => none }
def ListsMatchSpecWrongFalsely : Prop := listsMatchSpecRow.holds Tryz.pinned (OpenSpec.ofChange listsMatchSpecWrong)

/-- 'posthouselaw3.ListsModerationMatchesSpec': WHATEVER THE INPUT: true; the input reads as it did. -/
def listsModerationMatchesSpecSpec : ChangeSpec := { name := "listsModerationMatchesSpec", fn := fun _ => fun
  | [d1, d2, d3] => { results := [.lit (.bool true)], args := [d1, d2, d3] }
  | _ => none }
def listsModerationMatchesSpecRow : OpenClaim := { program := "ytkoijpogjobgjaagreat", sum := "4c4026971c8090e00180f79ed0150d170d9bd8c2cac0bf502517869a82a59a9a", func := "posthouse/posthouselaw3.ListsModerationMatchesSpec", spec := "listsModerationMatchesSpec", inPlace := ["internal/bytealg.IndexByteString", "internal/bytealg.IndexString"], unfollowed := true, recurses := true, named := ["internal/bytealg.MaxLen"], apart := false }
def ListsModerationMatchesSpecSaid : Prop := listsModerationMatchesSpecRow.holds Tryz.pinned (OpenSpec.ofChange listsModerationMatchesSpecSpec)

/-- ITS FALSE NEIGHBOUR: 'it returns false'. Refute it at one input. -/
def listsModerationMatchesSpecWrong : ChangeSpec := { name := "listsModerationMatchesSpec", fn := fun _ => fun
  | [d1, d2, d3] => { results := [.lit (.bool false)], args := [d1, d2, d3] }
  | _ => none }
def ListsModerationMatchesSpecWrongFalsely : Prop := listsModerationMatchesSpecRow.holds Tryz.pinned (OpenSpec.ofChange listsModerationMatchesSpecWrong)

/-- 'posthouselaw3.ListsMembersMatchSpec': WHATEVER THE INPUT: true; the input reads as it did. -/
def listsMembersMatchSpecSpec : ChangeSpec := { name := "listsMembersMatchSpec", fn := fun _ => fun
  | [d1, d2] => { results := [.lit (.bool true)], args := [d1, d2] }
  | _ => none }
def listsMembersMatchSpecRow : OpenClaim := { program := "ytkoijpogjobgjaagreat", sum := "4c4026971c8090e00180f79ed0150d170d9bd8c2cac0bf502517869a82a59a9a", func := "posthouse/posthouselaw3.ListsMembersMatchSpec", spec := "listsMembersMatchSpec", inPlace := ["internal/bytealg.IndexByteString", "internal/bytealg.IndexString"], unfollowed := true, recurses := true, named := ["internal/bytealg.MaxLen"], apart := false }
def ListsMembersMatchSpecSaid : Prop := listsMembersMatchSpecRow.holds Tryz.pinned (OpenSpec.ofChange listsMembersMatchSpecSpec)

/-- ITS FALSE NEIGHBOUR: 'it returns false'. Refute it at one input. -/
def listsMembersMatchSpecWrong : ChangeSpec := { name := "listsMembersMatchSpec", fn := fun _ => fun
  | [d1, d2] => { results := [.lit (.bool false)], args := [d1, d2] }
  | _ => none }
def ListsMembersMatchSpecWrongFalsely : Prop := listsMembersMatchSpecRow.holds Tryz.pinned (OpenSpec.ofChange listsMembersMatchSpecWrong)

/- THE SECOND FORM. 'bulk': how many values and letters a reading holds, each counted each time it is reached (what is shared counts as often as it is met; a slice's spare places count too). A statement '..UptoSaid' is the law's where the arguments, and the package variables that the reading takes, are together of bulk at most 1048576: NARROWER than '..Said'. Prove '..Said' where nothing that the law and all that it calls make is longer than what came in: it says more and counts as full. Else prove '..UptoSaid'. A law counts once. -/
mutual
def uptoBulk {H : Type} : DataW H → Nat
  | .lit (.string bytes) => bytes.length + 1
  | .lit _ => 1
  | .nil => 1
  | .ptr d => uptoBulk d + 1
  | .slice elems spare => uptoBulkAll elems + uptoBulkAll spare + 1
  | .agg parts => uptoBulkAll parts + 1
  | .iface _ d => uptoBulk d + 1
  | .map entries => uptoBulkEntries entries + 1
  | .held _ => 1
def uptoBulkAll {H : Type} : List (DataW H) → Nat
  | [] => 0
  | d :: r => uptoBulk d + uptoBulkAll r
def uptoBulkEntries {H : Type} : List (Lit × DataW H) → Nat
  | [] => 0
  | x :: r => uptoBulkEntry x + uptoBulkEntries r
def uptoBulkEntry {H : Type} : Lit × DataW H → Nat
  | (.string bytes, d) => bytes.length + uptoBulk d + 1
  | (_, d) => uptoBulk d + 1
 end
def uptoSmall : (H : Type) → List (DataW H) → Bool := fun _ ds => decide (uptoBulkAll ds ≤ 1048576)
def OpenSpec.upto (s : _root_.Go.ChangeSpec) : _root_.Go.OpenSpec := { _root_.Go.OpenSpec.ofChange s with cond := some uptoSmall }

/-- 'posthouselaw3.ListsMatchSpec', WHERE WHAT IT READS IS OF BULK AT MOST 1048576: true; the input reads as it did. -/
def listsMatchSpecUptoRow : OpenClaim := { program := "ytkoijpogjobgjaagreat", sum := "4c4026971c8090e00180f79ed0150d170d9bd8c2cac0bf502517869a82a59a9a", func := "posthouse/posthouselaw3.ListsMatchSpec", spec := "listsMatchSpec", inPlace := ["internal/bytealg.IndexByteString", "internal/bytealg.IndexString"], unfollowed := true, recurses := true, named := ["internal/bytealg.MaxLen"], apart := false, narrowed := true }
def ListsMatchSpecUptoSaid : Prop := listsMatchSpecUptoRow.holds Tryz.pinned (OpenSpec.upto listsMatchSpecSpec)

/-- 'posthouselaw3.ListsModerationMatchesSpec', WHERE WHAT IT READS IS OF BULK AT MOST 1048576: true; the input reads as it did. -/
def listsModerationMatchesSpecUptoRow : OpenClaim := { program := "ytkoijpogjobgjaagreat", sum := "4c4026971c8090e00180f79ed0150d170d9bd8c2cac0bf502517869a82a59a9a", func := "posthouse/posthouselaw3.ListsModerationMatchesSpec", spec := "listsModerationMatchesSpec", inPlace := ["internal/bytealg.IndexByteString", "internal/bytealg.IndexString"], unfollowed := true, recurses := true, named := ["internal/bytealg.MaxLen"], apart := false, narrowed := true }
def ListsModerationMatchesSpecUptoSaid : Prop := listsModerationMatchesSpecUptoRow.holds Tryz.pinned (OpenSpec.upto listsModerationMatchesSpecSpec)

/-- 'posthouselaw3.ListsMembersMatchSpec', WHERE WHAT IT READS IS OF BULK AT MOST 1048576: true; the input reads as it did. -/
def listsMembersMatchSpecUptoRow : OpenClaim := { program := "ytkoijpogjobgjaagreat", sum := "4c4026971c8090e00180f79ed0150d170d9bd8c2cac0bf502517869a82a59a9a", func := "posthouse/posthouselaw3.ListsMembersMatchSpec", spec := "listsMembersMatchSpec", inPlace := ["internal/bytealg.IndexByteString", "internal/bytealg.IndexString"], unfollowed := true, recurses := true, named := ["internal/bytealg.MaxLen"], apart := false, narrowed := true }
def ListsMembersMatchSpecUptoSaid : Prop := listsMembersMatchSpecUptoRow.holds Tryz.pinned (OpenSpec.upto listsMembersMatchSpecSpec)

end Rows
end Go.Proofs.YtkoijpogjobgjaaGreat
