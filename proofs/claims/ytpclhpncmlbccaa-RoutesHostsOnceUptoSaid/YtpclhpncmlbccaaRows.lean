/-
  No cell of these rows narrows 'for every input' (looked for: loops, veiled, ifaces, maps, wideKeys, modest, calm, conditions, laid).
  DERIVED. THE GIVEN ROWS OF THIS SEAT. 3 by the template 'for every input the law returns true; each argument reads behind the call as it read before'; 0 by the template 'total and deterministic' (their statements: YtpclhpncmlbccaaTotals.lean).
  GIVEN WITH THE SEED: the statements are not yours to turn. If you find one false, say at which input.
  Laid BY PROGRAM, IN A SANDBOX (cutbox-rows.mjs): the forced cells as the released guide's own fill.sh prints them over the translation a7669975a3489e6b… (all of the seat's roots in one cut). By AI agents, Wed Nov 11 2026. No macro, syntax, notation, axiom, sorry.
-/
import Derived.Test.YtpclhpncmlbccaaChecked
import GoSem.Claim
import GoSem.ClaimJoined
import GoSem.ClaimMapViews
import Derived.JoinedTies
import Derived.KernelRfl
namespace Go.Proofs.Ytpclhpncmlbccaa
/- THE CELL 'sum', in the pinned program and in every row, IS THE sha256 OF THE DUMP (.gsa) THAT YtpclhpncmlbccaaProg.lean LOADS. Nothing in Lean hashes anything: it is a label: what it is worth is what the hold of that sum in a sandbox is worth. -/
noncomputable def Try.pinned : Pinned := { name := "ytpclhpncmlbccaa", sum := "a7669975a3489e6b331675685a42aba6578d6e745f68052f1625d3ce41745e49", checked := Try.checked }
namespace Rows
def none {H : Type} : Left H := { results := [], args := [] }

/-- 'posthouselaw3.RoutesMatchSpec': WHATEVER THE INPUT: true; the input reads as it did. -/
def routesMatchSpecSpec : ChangeSpec := { name := "routesMatchSpec", fn := fun _ => fun
  | [d1, d2] => { results := [.lit (.bool true)], args := [d1, d2] }
  | _ => none }
def routesMatchSpecRow : OpenClaim := { program := "ytpclhpncmlbccaa", sum := "a7669975a3489e6b331675685a42aba6578d6e745f68052f1625d3ce41745e49", func := "posthouse/posthouselaw3.RoutesMatchSpec", spec := "routesMatchSpec", inPlace := ["internal/bytealg.IndexByteString", "internal/bytealg.IndexString"], unfollowed := true, recurses := true, named := ["internal/bytealg.MaxLen"], apart := false }
def RoutesMatchSpecSaid : Prop := routesMatchSpecRow.holds Try.pinned (OpenSpec.ofChange routesMatchSpecSpec)

/-- ITS FALSE NEIGHBOUR: 'it returns false'. Refute it at one input. -/
def routesMatchSpecWrong : ChangeSpec := { name := "routesMatchSpec", fn := fun _ => fun
  | [d1, d2] => { results := [.lit (.bool false)], args := [d1, d2] }
  | _ => none }
def RoutesMatchSpecWrongFalsely : Prop := routesMatchSpecRow.holds Try.pinned (OpenSpec.ofChange routesMatchSpecWrong)

/-- 'posthouselaw3.RoutesExactCounts': WHATEVER THE INPUT: true; the input reads as it did. -/
def routesExactCountsSpec : ChangeSpec := { name := "routesExactCounts", fn := fun _ => fun
  | [d1, d2, d3, d4] => { results := [.lit (.bool true)], args := [d1, d2, d3, d4] }
  | _ => none }
def routesExactCountsRow : OpenClaim := { program := "ytpclhpncmlbccaa", sum := "a7669975a3489e6b331675685a42aba6578d6e745f68052f1625d3ce41745e49", func := "posthouse/posthouselaw3.RoutesExactCounts", spec := "routesExactCounts", inPlace := ["internal/bytealg.IndexByteString", "internal/bytealg.IndexString"], unfollowed := true, recurses := true, named := ["internal/bytealg.MaxLen"], apart := false }
def RoutesExactCountsSaid : Prop := routesExactCountsRow.holds Try.pinned (OpenSpec.ofChange routesExactCountsSpec)

/-- ITS FALSE NEIGHBOUR: 'it returns false'. Refute it at one input. -/
def routesExactCountsWrong : ChangeSpec := { name := "routesExactCounts", fn := fun _ => fun
  | [d1, d2, d3, d4] => { results := [.lit (.bool false)], args := [d1, d2, d3, d4] }
  | _ => none }
def RoutesExactCountsWrongFalsely : Prop := routesExactCountsRow.holds Try.pinned (OpenSpec.ofChange routesExactCountsWrong)

/-- 'posthouselaw3.RoutesHostsOnce': WHATEVER THE INPUT: true; the input reads as it did. -/
def routesHostsOnceSpec : ChangeSpec := { name := "routesHostsOnce", fn := fun _ => fun
  | [d1, d2] => { results := [.lit (.bool true)], args := [d1, d2] }
  | _ => none }
def routesHostsOnceRow : OpenClaim := { program := "ytpclhpncmlbccaa", sum := "a7669975a3489e6b331675685a42aba6578d6e745f68052f1625d3ce41745e49", func := "posthouse/posthouselaw3.RoutesHostsOnce", spec := "routesHostsOnce", inPlace := ["internal/bytealg.IndexByteString", "internal/bytealg.IndexString"], unfollowed := true, recurses := true, named := ["internal/bytealg.MaxLen"], apart := false }
def RoutesHostsOnceSaid : Prop := routesHostsOnceRow.holds Try.pinned (OpenSpec.ofChange routesHostsOnceSpec)

/-- ITS FALSE NEIGHBOUR: 'it returns false'. Refute it at one input. -/
def routesHostsOnceWrong : ChangeSpec := { name := "routesHostsOnce", fn := fun _ => fun
  | [d1, d2] => { results := [.lit (.bool false)], args := [d1, d2] }
  | _ => none }
def RoutesHostsOnceWrongFalsely : Prop := routesHostsOnceRow.holds Try.pinned (OpenSpec.ofChange routesHostsOnceWrong)

/- THE SECOND FORM. 'bulk': how many values and letters a reading holds, each counted each time it is reached (what is shared counts as often as it is met; a slice's spare places count too). A statement '..UptoSaid' is the law's where the arguments, and the package variables that the reading takes, are together of bulk at most 1048576: NARROWER than '..Said'. Prove '..Said' where nothing that the law and all that it calls make is longer than what came in: it says more and counts as full. Else prove '..UptoSaid'. A law counts once. -/
mutual
def uptoBulk {H : Type} : DataW H → Nat
  | .lit (.string bytes) => bytes.length + 1
  | .lit _ => 1
  | .nil => 1
  | .ptr d => uptoBulk d + 1
  | .slice elems spare => uptoBulkAll elems + uptoBulkAll spare + 1
  | .agg parts => uptoBulkAll parts + 1
  | .iface _ d => uptoBulk d + 1
  | .map entries => uptoBulkEntries entries + 1
  | .held _ => 1
def uptoBulkAll {H : Type} : List (DataW H) → Nat
  | [] => 0
  | d :: r => uptoBulk d + uptoBulkAll r
def uptoBulkEntries {H : Type} : List (Lit × DataW H) → Nat
  | [] => 0
  | x :: r => uptoBulkEntry x + uptoBulkEntries r
def uptoBulkEntry {H : Type} : Lit × DataW H → Nat
  | (.string bytes, d) => bytes.length + uptoBulk d + 1
  | (_, d) => uptoBulk d + 1
 end
def uptoSmall : (H : Type) → List (DataW H) → Bool := fun _ ds => decide (uptoBulkAll ds ≤ 1048576)
def OpenSpec.upto (s : _root_.Go.ChangeSpec) : _root_.Go.OpenSpec := { _root_.Go.OpenSpec.ofChange s with cond := some uptoSmall }

/-- 'posthouselaw3.RoutesMatchSpec', WHERE WHAT IT READS IS OF BULK AT MOST 1048576: true; the input reads as it did. -/
def routesMatchSpecUptoRow : OpenClaim := { program := "ytpclhpncmlbccaa", sum := "a7669975a3489e6b331675685a42aba6578d6e745f68052f1625d3ce41745e49", func := "posthouse/posthouselaw3.RoutesMatchSpec", spec := "routesMatchSpec", inPlace := ["internal/bytealg.IndexByteString", "internal/bytealg.IndexString"], unfollowed := true, recurses := true, named := ["internal/bytealg.MaxLen"], apart := false, narrowed := true }
def RoutesMatchSpecUptoSaid : Prop := routesMatchSpecUptoRow.holds Try.pinned (OpenSpec.upto routesMatchSpecSpec)

/-- 'posthouselaw3.RoutesExactCounts', WHERE WHAT IT READS IS OF BULK AT MOST 1048576: true; the input reads as it did. -/
def routesExactCountsUptoRow : OpenClaim := { program := "ytpclhpncmlbccaa", sum := "a7669975a3489e6b331675685a42aba6578d6e745f68052f1625d3ce41745e49", func := "posthouse/posthouselaw3.RoutesExactCounts", spec := "routesExactCounts", inPlace := ["internal/bytealg.IndexByteString", "internal/bytealg.IndexString"], unfollowed := true, recurses := true, named := ["internal/bytealg.MaxLen"], apart := false, narrowed := true }
def RoutesExactCountsUptoSaid : Prop := routesExactCountsUptoRow.holds Try.pinned (OpenSpec.upto routesExactCountsSpec)

/-- 'posthouselaw3.RoutesHostsOnce', WHERE WHAT IT READS IS OF BULK AT MOST 1048576: true; the input reads as it did. -/
def routesHostsOnceUptoRow : OpenClaim := { program := "ytpclhpncmlbccaa", sum := "a7669975a3489e6b331675685a42aba6578d6e745f68052f1625d3ce41745e49", func := "posthouse/posthouselaw3.RoutesHostsOnce", spec := "routesHostsOnce", inPlace := ["internal/bytealg.IndexByteString", "internal/bytealg.IndexString"], unfollowed := true, recurses := true, named := ["internal/bytealg.MaxLen"], apart := false, narrowed := true }
def RoutesHostsOnceUptoSaid : Prop := routesHostsOnceUptoRow.holds Try.pinned (OpenSpec.upto routesHostsOnceSpec)

end Rows
end Go.Proofs.Ytpclhpncmlbccaa
