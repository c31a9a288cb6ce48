/-
  No cell of these rows narrows 'for every input' (looked for: loops, veiled, ifaces, maps, wideKeys, modest, calm, conditions, laid).
  DERIVED. THE GIVEN ROWS OF THIS SEAT. 5 by the template 'for every input the law returns true; each argument reads behind the call as it read before'; 0 by the template 'total and deterministic' (their statements: YtdblnmhmmfahkaaGreatTotals.lean).
  GIVEN WITH THE SEED: the statements are not yours to turn. If you find one false, say at which input.
  Laid BY PROGRAM, IN A SANDBOX (cutbox-rows.mjs): the forced cells as the released guide's own fill.sh prints them over the translation 5e4a119e130343b2… (all of the seat's roots in one cut). By AI agents, Wed Nov 11 2026. No macro, syntax, notation, axiom, sorry.
-/
import Derived.Test.YtdblnmhmmfahkaaGreatChecked
import GoSem.Claim
import GoSem.ClaimJoined
import GoSem.ClaimMapViews
import Derived.JoinedTies
import Derived.KernelRfl
namespace Go.Proofs.YtdblnmhmmfahkaaGreat
/- THE CELL 'sum', in the pinned program and in every row, IS THE sha256 OF THE DUMP (.gsa) THAT YtdblnmhmmfahkaaGreatProg.lean LOADS. Nothing in Lean hashes anything: it is a label: what it is worth is what the hold of that sum in a sandbox is worth. -/
noncomputable def Tryz.pinned : Pinned := { name := "ytdblnmhmmfahkaagreat", sum := "5e4a119e130343b27c9be122cab3906db84bae8e67dca4e04cd6169ce610f65a", checked := Tryz.checked }
namespace Rows
def none {H : Type} : Left H := { results := [], args := [] }

/-- 'posthouselaw4.SpoolAppendMatchesSpec': WHATEVER THE INPUT: true; the input reads as it did. -/
def spoolAppendMatchesSpecSpec : ChangeSpec := { name := "spoolAppendMatchesSpec", fn := fun _ => fun
  | [d1, d2] => { results := [.lit (.bool true)], args := [d1, d2] }
  | _ => none }
def spoolAppendMatchesSpecRow : OpenClaim := { program := "ytdblnmhmmfahkaagreat", sum := "5e4a119e130343b27c9be122cab3906db84bae8e67dca4e04cd6169ce610f65a", func := "posthouse/posthouselaw4.SpoolAppendMatchesSpec", spec := "spoolAppendMatchesSpec", inPlace := ["internal/bytealg.IndexByteString", "internal/bytealg.IndexString"], unfollowed := true, recurses := true, named := ["internal/bytealg.MaxLen"], plainKeys := false, apart := false }
def SpoolAppendMatchesSpecSaid : Prop := spoolAppendMatchesSpecRow.holds Tryz.pinned (OpenSpec.ofChange spoolAppendMatchesSpecSpec)

/-- ITS FALSE NEIGHBOUR: 'it returns false'. Refute it at one input. -/
def spoolAppendMatchesSpecWrong : ChangeSpec := { name := "spoolAppendMatchesSpec", fn := fun _ => fun
  | [d1, d2] => { results := [.lit (.bool false)], args := [d1, d2] }
  | _ => none }
def SpoolAppendMatchesSpecWrongFalsely : Prop := spoolAppendMatchesSpecRow.holds Tryz.pinned (OpenSpec.ofChange spoolAppendMatchesSpecWrong)

/-- 'posthouselaw4.SpoolReadMatchesSpec': WHATEVER THE INPUT: true; the input reads as it did. -/
def spoolReadMatchesSpecSpec : ChangeSpec := { name := "spoolReadMatchesSpec", fn := fun _ => fun
  | [d] => { results := [.lit (.bool true)], args := [d] }
  | _ => none }
def spoolReadMatchesSpecRow : OpenClaim := { program := "ytdblnmhmmfahkaagreat", sum := "5e4a119e130343b27c9be122cab3906db84bae8e67dca4e04cd6169ce610f65a", func := "posthouse/posthouselaw4.SpoolReadMatchesSpec", spec := "spoolReadMatchesSpec", inPlace := ["internal/bytealg.IndexByteString", "internal/bytealg.IndexString"], unfollowed := true, recurses := true, named := ["internal/bytealg.MaxLen"], plainKeys := false, apart := false }
def SpoolReadMatchesSpecSaid : Prop := spoolReadMatchesSpecRow.holds Tryz.pinned (OpenSpec.ofChange spoolReadMatchesSpecSpec)

/-- ITS FALSE NEIGHBOUR: 'it returns false'. Refute it at one input. -/
def spoolReadMatchesSpecWrong : ChangeSpec := { name := "spoolReadMatchesSpec", fn := fun _ => fun
  | [d] => { results := [.lit (.bool false)], args := [d] }
  | _ => none }
def SpoolReadMatchesSpecWrongFalsely : Prop := spoolReadMatchesSpecRow.holds Tryz.pinned (OpenSpec.ofChange spoolReadMatchesSpecWrong)

/-- 'posthouselaw4.SpoolReplayMatchesSpec': WHATEVER THE INPUT: true; the input reads as it did. -/
def spoolReplayMatchesSpecSpec : ChangeSpec := { name := "spoolReplayMatchesSpec", fn := fun _ => fun
  | [d] => { results := [.lit (.bool true)], args := [d] }
  | _ => none }
def spoolReplayMatchesSpecRow : OpenClaim := { program := "ytdblnmhmmfahkaagreat", sum := "5e4a119e130343b27c9be122cab3906db84bae8e67dca4e04cd6169ce610f65a", func := "posthouse/posthouselaw4.SpoolReplayMatchesSpec", spec := "spoolReplayMatchesSpec", inPlace := ["internal/bytealg.IndexByteString", "internal/bytealg.IndexString"], unfollowed := true, recurses := true, named := ["internal/bytealg.MaxLen"], plainKeys := false, apart := false }
def SpoolReplayMatchesSpecSaid : Prop := spoolReplayMatchesSpecRow.holds Tryz.pinned (OpenSpec.ofChange spoolReplayMatchesSpecSpec)

/-- ITS FALSE NEIGHBOUR: 'it returns false'. Refute it at one input. -/
def spoolReplayMatchesSpecWrong : ChangeSpec := { name := "spoolReplayMatchesSpec", fn := fun _ => fun
  | [d] => { results := [.lit (.bool false)], args := [d] }
  | _ => none }
def SpoolReplayMatchesSpecWrongFalsely : Prop := spoolReplayMatchesSpecRow.holds Tryz.pinned (OpenSpec.ofChange spoolReplayMatchesSpecWrong)

/-- 'posthouselaw4.SpoolSurvivesCrashes': WHATEVER THE INPUT: true; the input reads as it did. -/
def spoolSurvivesCrashesSpec : ChangeSpec := { name := "spoolSurvivesCrashes", fn := fun _ => fun
  | [d1, d2, d3] => { results := [.lit (.bool true)], args := [d1, d2, d3] }
  | _ => none }
def spoolSurvivesCrashesRow : OpenClaim := { program := "ytdblnmhmmfahkaagreat", sum := "5e4a119e130343b27c9be122cab3906db84bae8e67dca4e04cd6169ce610f65a", func := "posthouse/posthouselaw4.SpoolSurvivesCrashes", spec := "spoolSurvivesCrashes", inPlace := ["internal/bytealg.IndexByteString", "internal/bytealg.IndexString"], unfollowed := true, recurses := true, named := ["internal/bytealg.MaxLen"], plainKeys := false, apart := false }
def SpoolSurvivesCrashesSaid : Prop := spoolSurvivesCrashesRow.holds Tryz.pinned (OpenSpec.ofChange spoolSurvivesCrashesSpec)

/-- ITS FALSE NEIGHBOUR: 'it returns false'. Refute it at one input. -/
def spoolSurvivesCrashesWrong : ChangeSpec := { name := "spoolSurvivesCrashes", fn := fun _ => fun
  | [d1, d2, d3] => { results := [.lit (.bool false)], args := [d1, d2, d3] }
  | _ => none }
def SpoolSurvivesCrashesWrongFalsely : Prop := spoolSurvivesCrashesRow.holds Tryz.pinned (OpenSpec.ofChange spoolSurvivesCrashesWrong)

/-- 'posthouselaw4.SpoolChangesAreFound': WHATEVER THE INPUT: true; the input reads as it did. -/
def spoolChangesAreFoundSpec : ChangeSpec := { name := "spoolChangesAreFound", fn := fun _ => fun
  | [d1, d2, d3] => { results := [.lit (.bool true)], args := [d1, d2, d3] }
  | _ => none }
def spoolChangesAreFoundRow : OpenClaim := { program := "ytdblnmhmmfahkaagreat", sum := "5e4a119e130343b27c9be122cab3906db84bae8e67dca4e04cd6169ce610f65a", func := "posthouse/posthouselaw4.SpoolChangesAreFound", spec := "spoolChangesAreFound", inPlace := ["internal/bytealg.IndexByteString", "internal/bytealg.IndexString"], unfollowed := true, recurses := true, named := ["internal/bytealg.MaxLen"], plainKeys := false, apart := false }
def SpoolChangesAreFoundSaid : Prop := spoolChangesAreFoundRow.holds Tryz.pinned (OpenSpec.ofChange spoolChangesAreFoundSpec)

/-- ITS FALSE NEIGHBOUR: 'it returns false'. Refute it at one input. -/
def spoolChangesAreFoundWrong : ChangeSpec := { name := "spoolChangesAreFound", fn := fun _ => fun
  | [d1, d2, d3] => { results := [.lit (.bool false)], args := [d1, d2, d3] }
  | _ => none }
def SpoolChangesAreFoundWrongFalsely : Prop := spoolChangesAreFoundRow.holds Tryz.pinned (OpenSpec.ofChange spoolChangesAreFoundWrong)

/- THE SECOND FORM. 'bulk': how many values and letters a reading holds, each counted each time it is reached (what is shared counts as often as it is met; a slice's spare places count too). A statement '..UptoSaid' is the law's where the arguments, and the package variables that the reading takes, are together of bulk at most 1048576: NARROWER than '..Said'. Prove '..Said' where nothing that the law and all that it calls make is longer than what came in: it says more and counts as full. Else prove '..UptoSaid'. A law counts once. -/
mutual
def uptoBulk {H : Type} : DataW H → Nat
  | .lit (.string bytes) => bytes.length + 1
  | .lit _ => 1
  | .nil => 1
  | .ptr d => uptoBulk d + 1
  | .slice elems spare => uptoBulkAll elems + uptoBulkAll spare + 1
  | .agg parts => uptoBulkAll parts + 1
  | .iface _ d => uptoBulk d + 1
  | .map entries => uptoBulkEntries entries + 1
  | .held _ => 1
def uptoBulkAll {H : Type} : List (DataW H) → Nat
  | [] => 0
  | d :: r => uptoBulk d + uptoBulkAll r
def uptoBulkEntries {H : Type} : List (Lit × DataW H) → Nat
  | [] => 0
  | x :: r => uptoBulkEntry x + uptoBulkEntries r
def uptoBulkEntry {H : Type} : Lit × DataW H → Nat
  | (.string bytes, d) => bytes.length + uptoBulk d + 1
  | (_, d) => uptoBulk d + 1
 end
def uptoSmall : (H : Type) → List (DataW H) → Bool := fun _ ds => decide (uptoBulkAll ds ≤ 1048576)
def OpenSpec.upto (s : _root_.Go.ChangeSpec) : _root_.Go.OpenSpec := { _root_.Go.OpenSpec.ofChange s with cond := some uptoSmall }

/-- 'posthouselaw4.SpoolAppendMatchesSpec', WHERE WHAT IT READS IS OF BULK AT MOST 1048576: true; the input reads as it did. -/
def spoolAppendMatchesSpecUptoRow : OpenClaim := { program := "ytdblnmhmmfahkaagreat", sum := "5e4a119e130343b27c9be122cab3906db84bae8e67dca4e04cd6169ce610f65a", func := "posthouse/posthouselaw4.SpoolAppendMatchesSpec", spec := "spoolAppendMatchesSpec", inPlace := ["internal/bytealg.IndexByteString", "internal/bytealg.IndexString"], unfollowed := true, recurses := true, named := ["internal/bytealg.MaxLen"], plainKeys := false, apart := false, narrowed := true }
def SpoolAppendMatchesSpecUptoSaid : Prop := spoolAppendMatchesSpecUptoRow.holds Tryz.pinned (OpenSpec.upto spoolAppendMatchesSpecSpec)

/-- 'posthouselaw4.SpoolReadMatchesSpec', WHERE WHAT IT READS IS OF BULK AT MOST 1048576: true; the input reads as it did. -/
def spoolReadMatchesSpecUptoRow : OpenClaim := { program := "ytdblnmhmmfahkaagreat", sum := "5e4a119e130343b27c9be122cab3906db84bae8e67dca4e04cd6169ce610f65a", func := "posthouse/posthouselaw4.SpoolReadMatchesSpec", spec := "spoolReadMatchesSpec", inPlace := ["internal/bytealg.IndexByteString", "internal/bytealg.IndexString"], unfollowed := true, recurses := true, named := ["internal/bytealg.MaxLen"], plainKeys := false, apart := false, narrowed := true }
def SpoolReadMatchesSpecUptoSaid : Prop := spoolReadMatchesSpecUptoRow.holds Tryz.pinned (OpenSpec.upto spoolReadMatchesSpecSpec)

/-- 'posthouselaw4.SpoolReplayMatchesSpec', WHERE WHAT IT READS IS OF BULK AT MOST 1048576: true; the input reads as it did. -/
def spoolReplayMatchesSpecUptoRow : OpenClaim := { program := "ytdblnmhmmfahkaagreat", sum := "5e4a119e130343b27c9be122cab3906db84bae8e67dca4e04cd6169ce610f65a", func := "posthouse/posthouselaw4.SpoolReplayMatchesSpec", spec := "spoolReplayMatchesSpec", inPlace := ["internal/bytealg.IndexByteString", "internal/bytealg.IndexString"], unfollowed := true, recurses := true, named := ["internal/bytealg.MaxLen"], plainKeys := false, apart := false, narrowed := true }
def SpoolReplayMatchesSpecUptoSaid : Prop := spoolReplayMatchesSpecUptoRow.holds Tryz.pinned (OpenSpec.upto spoolReplayMatchesSpecSpec)

/-- 'posthouselaw4.SpoolSurvivesCrashes', WHERE WHAT IT READS IS OF BULK AT MOST 1048576: true; the input reads as it did. -/
def spoolSurvivesCrashesUptoRow : OpenClaim := { program := "ytdblnmhmmfahkaagreat", sum := "5e4a119e130343b27c9be122cab3906db84bae8e67dca4e04cd6169ce610f65a", func := "posthouse/posthouselaw4.SpoolSurvivesCrashes", spec := "spoolSurvivesCrashes", inPlace := ["internal/bytealg.IndexByteString", "internal/bytealg.IndexString"], unfollowed := true, recurses := true, named := ["internal/bytealg.MaxLen"], plainKeys := false, apart := false, narrowed := true }
def SpoolSurvivesCrashesUptoSaid : Prop := spoolSurvivesCrashesUptoRow.holds Tryz.pinned (OpenSpec.upto spoolSurvivesCrashesSpec)

/-- 'posthouselaw4.SpoolChangesAreFound', WHERE WHAT IT READS IS OF BULK AT MOST 1048576: true; the input reads as it did. -/
def spoolChangesAreFoundUptoRow : OpenClaim := { program := "ytdblnmhmmfahkaagreat", sum := "5e4a119e130343b27c9be122cab3906db84bae8e67dca4e04cd6169ce610f65a", func := "posthouse/posthouselaw4.SpoolChangesAreFound", spec := "spoolChangesAreFound", inPlace := ["internal/bytealg.IndexByteString", "internal/bytealg.IndexString"], unfollowed := true, recurses := true, named := ["internal/bytealg.MaxLen"], plainKeys := false, apart := false, narrowed := true }
def SpoolChangesAreFoundUptoSaid : Prop := spoolChangesAreFoundUptoRow.holds Tryz.pinned (OpenSpec.upto spoolChangesAreFoundSpec)

end Rows
end Go.Proofs.YtdblnmhmmfahkaaGreat
