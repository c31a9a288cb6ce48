/-
  No cell of these rows narrows 'for every input' (looked for: loops, veiled, ifaces, maps, wideKeys, modest, calm, conditions, laid).
  DERIVED. THE GIVEN ROWS OF THIS SEAT. 6 by the template 'for every input the law returns true; each argument reads behind the call as it read before'; 0 by the template 'total and deterministic' (their statements: YtfhfjckjmacekaaTotals.lean).
  GIVEN WITH THE SEED: the statements are not yours to turn. If you find one false, say at which input.
  Laid BY PROGRAM, IN A SANDBOX (cutbox-rows.mjs): the forced cells as the released guide's own fill.sh prints them over the translation 15e84f119d86056d… (all of the seat's roots in one cut). By AI agents, Wed Nov 11 2026. No macro, syntax, notation, axiom, sorry.
-/
import Derived.Test.YtfhfjckjmacekaaChecked
import GoSem.Claim
import GoSem.ClaimJoined
import GoSem.ClaimMapViews
import Derived.JoinedTies
import Derived.KernelRfl
namespace Go.Proofs.Ytfhfjckjmacekaa
/- THE CELL 'sum', in the pinned program and in every row, IS THE sha256 OF THE DUMP (.gsa) THAT YtfhfjckjmacekaaProg.lean LOADS. Nothing in Lean hashes anything: it is a label: what it is worth is what the hold of that sum in a sandbox is worth. -/
noncomputable def Try.pinned : Pinned := { name := "ytfhfjckjmacekaa", sum := "15e84f119d86056db04c084fa823f86e9aa9978fe44ed34172e2b007321b3eca", checked := Try.checked }
namespace Rows
def none {H : Type} : Left H := { results := [], args := [] }

/-- 'posthouselaw3.EnvelopeDomainsMatchSpec': WHATEVER THE INPUT: true; the input reads as it did. -/
def envelopeDomainsMatchSpecSpec : ChangeSpec := { name := "envelopeDomainsMatchSpec", fn := fun _ => fun
  | [d1, d2] => { results := [.lit (.bool true)], args := [d1, d2] }
  | _ => none }
def envelopeDomainsMatchSpecRow : OpenClaim := { program := "ytfhfjckjmacekaa", sum := "15e84f119d86056db04c084fa823f86e9aa9978fe44ed34172e2b007321b3eca", func := "posthouse/posthouselaw3.EnvelopeDomainsMatchSpec", spec := "envelopeDomainsMatchSpec", inPlace := ["internal/bytealg.IndexByteString", "internal/bytealg.IndexString"], unfollowed := true, recurses := true, named := ["internal/bytealg.MaxLen"], apart := false }
def EnvelopeDomainsMatchSpecSaid : Prop := envelopeDomainsMatchSpecRow.holds Try.pinned (OpenSpec.ofChange envelopeDomainsMatchSpecSpec)

/-- ITS FALSE NEIGHBOUR: 'it returns false'. Refute it at one input. -/
def envelopeDomainsMatchSpecWrong : ChangeSpec := { name := "envelopeDomainsMatchSpec", fn := fun _ => fun
  | [d1, d2] => { results := [.lit (.bool false)], args := [d1, d2] }
  | _ => none }
def EnvelopeDomainsMatchSpecWrongFalsely : Prop := envelopeDomainsMatchSpecRow.holds Try.pinned (OpenSpec.ofChange envelopeDomainsMatchSpecWrong)

/-- 'posthouselaw3.EnvelopeMergeMatchesSpec': WHATEVER THE INPUT: true; the input reads as it did. -/
def envelopeMergeMatchesSpecSpec : ChangeSpec := { name := "envelopeMergeMatchesSpec", fn := fun _ => fun
  | [d] => { results := [.lit (.bool true)], args := [d] }
  | _ => none }
def envelopeMergeMatchesSpecRow : OpenClaim := { program := "ytfhfjckjmacekaa", sum := "15e84f119d86056db04c084fa823f86e9aa9978fe44ed34172e2b007321b3eca", func := "posthouse/posthouselaw3.EnvelopeMergeMatchesSpec", spec := "envelopeMergeMatchesSpec", inPlace := ["internal/bytealg.IndexByteString", "internal/bytealg.IndexString"], unfollowed := true, recurses := true, named := ["internal/bytealg.MaxLen"], apart := false }
def EnvelopeMergeMatchesSpecSaid : Prop := envelopeMergeMatchesSpecRow.holds Try.pinned (OpenSpec.ofChange envelopeMergeMatchesSpecSpec)

/-- ITS FALSE NEIGHBOUR: 'it returns false'. Refute it at one input. -/
def envelopeMergeMatchesSpecWrong : ChangeSpec := { name := "envelopeMergeMatchesSpec", fn := fun _ => fun
  | [d] => { results := [.lit (.bool false)], args := [d] }
  | _ => none }
def EnvelopeMergeMatchesSpecWrongFalsely : Prop := envelopeMergeMatchesSpecRow.holds Try.pinned (OpenSpec.ofChange envelopeMergeMatchesSpecWrong)

/-- 'posthouselaw3.EnvelopesOfDomainsJoin': WHATEVER THE INPUT: true; the input reads as it did. -/
def envelopesOfDomainsJoinSpec : ChangeSpec := { name := "envelopesOfDomainsJoin", fn := fun _ => fun
  | [d] => { results := [.lit (.bool true)], args := [d] }
  | _ => none }
def envelopesOfDomainsJoinRow : OpenClaim := { program := "ytfhfjckjmacekaa", sum := "15e84f119d86056db04c084fa823f86e9aa9978fe44ed34172e2b007321b3eca", func := "posthouse/posthouselaw3.EnvelopesOfDomainsJoin", spec := "envelopesOfDomainsJoin", inPlace := ["internal/bytealg.IndexByteString", "internal/bytealg.IndexString"], unfollowed := true, recurses := true, named := ["internal/bytealg.MaxLen"], apart := false }
def EnvelopesOfDomainsJoinSaid : Prop := envelopesOfDomainsJoinRow.holds Try.pinned (OpenSpec.ofChange envelopesOfDomainsJoinSpec)

/-- ITS FALSE NEIGHBOUR: 'it returns false'. Refute it at one input. -/
def envelopesOfDomainsJoinWrong : ChangeSpec := { name := "envelopesOfDomainsJoin", fn := fun _ => fun
  | [d] => { results := [.lit (.bool false)], args := [d] }
  | _ => none }
def EnvelopesOfDomainsJoinWrongFalsely : Prop := envelopesOfDomainsJoinRow.holds Try.pinned (OpenSpec.ofChange envelopesOfDomainsJoinWrong)

/-- 'posthouselaw3.EnvelopeMatchesSpec': WHATEVER THE INPUT: true; the input reads as it did. -/
def envelopeMatchesSpecSpec : ChangeSpec := { name := "envelopeMatchesSpec", fn := fun _ => fun
  | [d] => { results := [.lit (.bool true)], args := [d] }
  | _ => none }
def envelopeMatchesSpecRow : OpenClaim := { program := "ytfhfjckjmacekaa", sum := "15e84f119d86056db04c084fa823f86e9aa9978fe44ed34172e2b007321b3eca", func := "posthouse/posthouselaw3.EnvelopeMatchesSpec", spec := "envelopeMatchesSpec", inPlace := ["internal/bytealg.IndexByteString", "internal/bytealg.IndexString"], unfollowed := true, recurses := true, named := ["internal/bytealg.MaxLen"], apart := false }
def EnvelopeMatchesSpecSaid : Prop := envelopeMatchesSpecRow.holds Try.pinned (OpenSpec.ofChange envelopeMatchesSpecSpec)

/-- ITS FALSE NEIGHBOUR: 'it returns false'. Refute it at one input. -/
def envelopeMatchesSpecWrong : ChangeSpec := { name := "envelopeMatchesSpec", fn := fun _ => fun
  | [d] => { results := [.lit (.bool false)], args := [d] }
  | _ => none }
def EnvelopeMatchesSpecWrongFalsely : Prop := envelopeMatchesSpecRow.holds Try.pinned (OpenSpec.ofChange envelopeMatchesSpecWrong)

/-- 'posthouselaw3.ForwardStepsEnd': WHATEVER THE INPUT: true; the input reads as it did. -/
def forwardStepsEndSpec : ChangeSpec := { name := "forwardStepsEnd", fn := fun _ => fun
  | [d1, d2] => { results := [.lit (.bool true)], args := [d1, d2] }
  | _ => none }
def forwardStepsEndRow : OpenClaim := { program := "ytfhfjckjmacekaa", sum := "15e84f119d86056db04c084fa823f86e9aa9978fe44ed34172e2b007321b3eca", func := "posthouse/posthouselaw3.ForwardStepsEnd", spec := "forwardStepsEnd", inPlace := ["internal/bytealg.IndexByteString", "internal/bytealg.IndexString"], unfollowed := true, recurses := true, named := ["internal/bytealg.MaxLen"], apart := false }
def ForwardStepsEndSaid : Prop := forwardStepsEndRow.holds Try.pinned (OpenSpec.ofChange forwardStepsEndSpec)

/-- ITS FALSE NEIGHBOUR: 'it returns false'. Refute it at one input. -/
def forwardStepsEndWrong : ChangeSpec := { name := "forwardStepsEnd", fn := fun _ => fun
  | [d1, d2] => { results := [.lit (.bool false)], args := [d1, d2] }
  | _ => none }
def ForwardStepsEndWrongFalsely : Prop := forwardStepsEndRow.holds Try.pinned (OpenSpec.ofChange forwardStepsEndWrong)

/-- 'posthouselaw3.ForwardChangesNoBody': WHATEVER THE INPUT: true; the input reads as it did. -/
def forwardChangesNoBodySpec : ChangeSpec := { name := "forwardChangesNoBody", fn := fun _ => fun
  | [d1, d2] => { results := [.lit (.bool true)], args := [d1, d2] }
  | _ => none }
def forwardChangesNoBodyRow : OpenClaim := { program := "ytfhfjckjmacekaa", sum := "15e84f119d86056db04c084fa823f86e9aa9978fe44ed34172e2b007321b3eca", func := "posthouse/posthouselaw3.ForwardChangesNoBody", spec := "forwardChangesNoBody", inPlace := ["internal/bytealg.IndexByteString", "internal/bytealg.IndexString"], unfollowed := true, recurses := true, named := ["internal/bytealg.MaxLen"], apart := false }
def ForwardChangesNoBodySaid : Prop := forwardChangesNoBodyRow.holds Try.pinned (OpenSpec.ofChange forwardChangesNoBodySpec)

/-- ITS FALSE NEIGHBOUR: 'it returns false'. Refute it at one input. -/
def forwardChangesNoBodyWrong : ChangeSpec := { name := "forwardChangesNoBody", fn := fun _ => fun
  | [d1, d2] => { results := [.lit (.bool false)], args := [d1, d2] }
  | _ => none }
def ForwardChangesNoBodyWrongFalsely : Prop := forwardChangesNoBodyRow.holds Try.pinned (OpenSpec.ofChange forwardChangesNoBodyWrong)

/- THE SECOND FORM. 'bulk': how many values and letters a reading holds, each counted each time it is reached (what is shared counts as often as it is met; a slice's spare places count too). A statement '..UptoSaid' is the law's where the arguments, and the package variables that the reading takes, are together of bulk at most 1048576: NARROWER than '..Said'. Prove '..Said' where nothing that the law and all that it calls make is longer than what came in: it says more and counts as full. Else prove '..UptoSaid'. A law counts once. -/
mutual
def uptoBulk {H : Type} : DataW H → Nat
  | .lit (.string bytes) => bytes.length + 1
  | .lit _ => 1
  | .nil => 1
  | .ptr d => uptoBulk d + 1
  | .slice elems spare => uptoBulkAll elems + uptoBulkAll spare + 1
  | .agg parts => uptoBulkAll parts + 1
  | .iface _ d => uptoBulk d + 1
  | .map entries => uptoBulkEntries entries + 1
  | .held _ => 1
def uptoBulkAll {H : Type} : List (DataW H) → Nat
  | [] => 0
  | d :: r => uptoBulk d + uptoBulkAll r
def uptoBulkEntries {H : Type} : List (Lit × DataW H) → Nat
  | [] => 0
  | x :: r => uptoBulkEntry x + uptoBulkEntries r
def uptoBulkEntry {H : Type} : Lit × DataW H → Nat
  | (.string bytes, d) => bytes.length + uptoBulk d + 1
  | (_, d) => uptoBulk d + 1
 end
def uptoSmall : (H : Type) → List (DataW H) → Bool := fun _ ds => decide (uptoBulkAll ds ≤ 1048576)
def OpenSpec.upto (s : _root_.Go.ChangeSpec) : _root_.Go.OpenSpec := { _root_.Go.OpenSpec.ofChange s with cond := some uptoSmall }

/-- 'posthouselaw3.EnvelopeDomainsMatchSpec', WHERE WHAT IT READS IS OF BULK AT MOST 1048576: true; the input reads as it did. -/
def envelopeDomainsMatchSpecUptoRow : OpenClaim := { program := "ytfhfjckjmacekaa", sum := "15e84f119d86056db04c084fa823f86e9aa9978fe44ed34172e2b007321b3eca", func := "posthouse/posthouselaw3.EnvelopeDomainsMatchSpec", spec := "envelopeDomainsMatchSpec", inPlace := ["internal/bytealg.IndexByteString", "internal/bytealg.IndexString"], unfollowed := true, recurses := true, named := ["internal/bytealg.MaxLen"], apart := false, narrowed := true }
def EnvelopeDomainsMatchSpecUptoSaid : Prop := envelopeDomainsMatchSpecUptoRow.holds Try.pinned (OpenSpec.upto envelopeDomainsMatchSpecSpec)

/-- 'posthouselaw3.EnvelopeMergeMatchesSpec', WHERE WHAT IT READS IS OF BULK AT MOST 1048576: true; the input reads as it did. -/
def envelopeMergeMatchesSpecUptoRow : OpenClaim := { program := "ytfhfjckjmacekaa", sum := "15e84f119d86056db04c084fa823f86e9aa9978fe44ed34172e2b007321b3eca", func := "posthouse/posthouselaw3.EnvelopeMergeMatchesSpec", spec := "envelopeMergeMatchesSpec", inPlace := ["internal/bytealg.IndexByteString", "internal/bytealg.IndexString"], unfollowed := true, recurses := true, named := ["internal/bytealg.MaxLen"], apart := false, narrowed := true }
def EnvelopeMergeMatchesSpecUptoSaid : Prop := envelopeMergeMatchesSpecUptoRow.holds Try.pinned (OpenSpec.upto envelopeMergeMatchesSpecSpec)

/-- 'posthouselaw3.EnvelopesOfDomainsJoin', WHERE WHAT IT READS IS OF BULK AT MOST 1048576: true; the input reads as it did. -/
def envelopesOfDomainsJoinUptoRow : OpenClaim := { program := "ytfhfjckjmacekaa", sum := "15e84f119d86056db04c084fa823f86e9aa9978fe44ed34172e2b007321b3eca", func := "posthouse/posthouselaw3.EnvelopesOfDomainsJoin", spec := "envelopesOfDomainsJoin", inPlace := ["internal/bytealg.IndexByteString", "internal/bytealg.IndexString"], unfollowed := true, recurses := true, named := ["internal/bytealg.MaxLen"], apart := false, narrowed := true }
def EnvelopesOfDomainsJoinUptoSaid : Prop := envelopesOfDomainsJoinUptoRow.holds Try.pinned (OpenSpec.upto envelopesOfDomainsJoinSpec)

/-- 'posthouselaw3.EnvelopeMatchesSpec', WHERE WHAT IT READS IS OF BULK AT MOST 1048576: true; the input reads as it did. -/
def envelopeMatchesSpecUptoRow : OpenClaim := { program := "ytfhfjckjmacekaa", sum := "15e84f119d86056db04c084fa823f86e9aa9978fe44ed34172e2b007321b3eca", func := "posthouse/posthouselaw3.EnvelopeMatchesSpec", spec := "envelopeMatchesSpec", inPlace := ["internal/bytealg.IndexByteString", "internal/bytealg.IndexString"], unfollowed := true, recurses := true, named := ["internal/bytealg.MaxLen"], apart := false, narrowed := true }
def EnvelopeMatchesSpecUptoSaid : Prop := envelopeMatchesSpecUptoRow.holds Try.pinned (OpenSpec.upto envelopeMatchesSpecSpec)

/-- 'posthouselaw3.ForwardStepsEnd', WHERE WHAT IT READS IS OF BULK AT MOST 1048576: true; the input reads as it did. -/
def forwardStepsEndUptoRow : OpenClaim := { program := "ytfhfjckjmacekaa", sum := "15e84f119d86056db04c084fa823f86e9aa9978fe44ed34172e2b007321b3eca", func := "posthouse/posthouselaw3.ForwardStepsEnd", spec := "forwardStepsEnd", inPlace := ["internal/bytealg.IndexByteString", "internal/bytealg.IndexString"], unfollowed := true, recurses := true, named := ["internal/bytealg.MaxLen"], apart := false, narrowed := true }
def ForwardStepsEndUptoSaid : Prop := forwardStepsEndUptoRow.holds Try.pinned (OpenSpec.upto forwardStepsEndSpec)

/-- 'posthouselaw3.ForwardChangesNoBody', WHERE WHAT IT READS IS OF BULK AT MOST 1048576: true; the input reads as it did. -/
def forwardChangesNoBodyUptoRow : OpenClaim := { program := "ytfhfjckjmacekaa", sum := "15e84f119d86056db04c084fa823f86e9aa9978fe44ed34172e2b007321b3eca", func := "posthouse/posthouselaw3.ForwardChangesNoBody", spec := "forwardChangesNoBody", inPlace := ["internal/bytealg.IndexByteString", "internal/bytealg.IndexString"], unfollowed := true, recurses := true, named := ["internal/bytealg.MaxLen"], apart := false, narrowed := true }
def ForwardChangesNoBodyUptoSaid : Prop := forwardChangesNoBodyUptoRow.holds Try.pinned (OpenSpec.upto forwardChangesNoBodySpec)

end Rows
end Go.Proofs.Ytfhfjckjmacekaa
