/-
  No cell of these rows narrows 'for every input' (looked for: loops, veiled, ifaces, maps, wideKeys, modest, calm, conditions, laid).
  DERIVED. THE GIVEN ROWS OF THIS SEAT. 11 by the template 'for every input the law returns true; each argument reads behind the call as it read before'; 0 by the template 'total and deterministic' (their statements: YtlpmbmilnoncdaaTotals.lean).
  GIVEN WITH THE SEED: the statements are not yours to turn. If you find one false, say at which input.
  Laid BY PROGRAM, IN A SANDBOX (cutbox-rows.mjs): the forced cells as the released guide's own fill.sh prints them over the translation f7853edb33777054… (all of the seat's roots in one cut). By AI agents, Wed Nov 11 2026. No macro, syntax, notation, axiom, sorry.
-/
import Derived.Test.YtlpmbmilnoncdaaChecked
import GoSem.Claim
import GoSem.ClaimJoined
import GoSem.ClaimMapViews
import Derived.JoinedTies
import Derived.KernelRfl
namespace Go.Proofs.Ytlpmbmilnoncdaa
/- THE CELL 'sum', in the pinned program and in every row, IS THE sha256 OF THE DUMP (.gsa) THAT YtlpmbmilnoncdaaProg.lean LOADS. Nothing in Lean hashes anything: it is a label: what it is worth is what the hold of that sum in a sandbox is worth. -/
noncomputable def Try.pinned : Pinned := { name := "ytlpmbmilnoncdaa", sum := "f7853edb337770548803dfdcab7cd3a2ff468f63ac435e1ea4926d02fd2b1b33", checked := Try.checked }
namespace Rows
def none {H : Type} : Left H := { results := [], args := [] }

/-- 'posthouselaw3.RetryMatchesSpec': WHATEVER THE INPUT: true; the input reads as it did. -/
def retryMatchesSpecSpec : ChangeSpec := { name := "retryMatchesSpec", fn := fun _ => fun
  | [d1, d2, d3, d4] => { results := [.lit (.bool true)], args := [d1, d2, d3, d4] }
  | _ => none }
def retryMatchesSpecRow : OpenClaim := { program := "ytlpmbmilnoncdaa", sum := "f7853edb337770548803dfdcab7cd3a2ff468f63ac435e1ea4926d02fd2b1b33", func := "posthouse/posthouselaw3.RetryMatchesSpec", spec := "retryMatchesSpec", apart := false }
def RetryMatchesSpecSaid : Prop := retryMatchesSpecRow.holds Try.pinned (OpenSpec.ofChange retryMatchesSpecSpec)

/-- ITS FALSE NEIGHBOUR: 'it returns false'. Refute it at one input. -/
def retryMatchesSpecWrong : ChangeSpec := { name := "retryMatchesSpec", fn := fun _ => fun
  | [d1, d2, d3, d4] => { results := [.lit (.bool false)], args := [d1, d2, d3, d4] }
  | _ => none }
def RetryMatchesSpecWrongFalsely : Prop := retryMatchesSpecRow.holds Try.pinned (OpenSpec.ofChange retryMatchesSpecWrong)

/-- 'posthouselaw3.RetryEnds': WHATEVER THE INPUT: true; the input reads as it did. -/
def retryEndsSpec : ChangeSpec := { name := "retryEnds", fn := fun _ => fun
  | [d1, d2] => { results := [.lit (.bool true)], args := [d1, d2] }
  | _ => none }
def retryEndsRow : OpenClaim := { program := "ytlpmbmilnoncdaa", sum := "f7853edb337770548803dfdcab7cd3a2ff468f63ac435e1ea4926d02fd2b1b33", func := "posthouse/posthouselaw3.RetryEnds", spec := "retryEnds", apart := false }
def RetryEndsSaid : Prop := retryEndsRow.holds Try.pinned (OpenSpec.ofChange retryEndsSpec)

/-- ITS FALSE NEIGHBOUR: 'it returns false'. Refute it at one input. -/
def retryEndsWrong : ChangeSpec := { name := "retryEnds", fn := fun _ => fun
  | [d1, d2] => { results := [.lit (.bool false)], args := [d1, d2] }
  | _ => none }
def RetryEndsWrongFalsely : Prop := retryEndsRow.holds Try.pinned (OpenSpec.ofChange retryEndsWrong)

/-- 'posthouselaw3.RetryOneDelay': WHATEVER THE INPUT: true; the input reads as it did. -/
def retryOneDelaySpec : ChangeSpec := { name := "retryOneDelay", fn := fun _ => fun
  | [d1, d2] => { results := [.lit (.bool true)], args := [d1, d2] }
  | _ => none }
def retryOneDelayRow : OpenClaim := { program := "ytlpmbmilnoncdaa", sum := "f7853edb337770548803dfdcab7cd3a2ff468f63ac435e1ea4926d02fd2b1b33", func := "posthouse/posthouselaw3.RetryOneDelay", spec := "retryOneDelay", apart := false }
def RetryOneDelaySaid : Prop := retryOneDelayRow.holds Try.pinned (OpenSpec.ofChange retryOneDelaySpec)

/-- ITS FALSE NEIGHBOUR: 'it returns false'. Refute it at one input. -/
def retryOneDelayWrong : ChangeSpec := { name := "retryOneDelay", fn := fun _ => fun
  | [d1, d2] => { results := [.lit (.bool false)], args := [d1, d2] }
  | _ => none }
def RetryOneDelayWrongFalsely : Prop := retryOneDelayRow.holds Try.pinned (OpenSpec.ofChange retryOneDelayWrong)

/-- 'posthouselaw3.LinesMatchSpec': WHATEVER THE INPUT: true; the input reads as it did. -/
def linesMatchSpecSpec : ChangeSpec := { name := "linesMatchSpec", fn := fun _ => fun
  | [d] => { results := [.lit (.bool true)], args := [d] }
  | _ => none }
def linesMatchSpecRow : OpenClaim := { program := "ytlpmbmilnoncdaa", sum := "f7853edb337770548803dfdcab7cd3a2ff468f63ac435e1ea4926d02fd2b1b33", func := "posthouse/posthouselaw3.LinesMatchSpec", spec := "linesMatchSpec", inPlace := ["internal/bytealg.IndexByte", "internal/bytealg.Index"], unfollowed := true, recurses := true, named := ["internal/bytealg.MaxLen"], apart := false }
def LinesMatchSpecSaid : Prop := linesMatchSpecRow.holds Try.pinned (OpenSpec.ofChange linesMatchSpecSpec)

/-- ITS FALSE NEIGHBOUR: 'it returns false'. Refute it at one input. -/
def linesMatchSpecWrong : ChangeSpec := { name := "linesMatchSpec", fn := fun _ => fun
  | [d] => { results := [.lit (.bool false)], args := [d] }
  | _ => none }
def LinesMatchSpecWrongFalsely : Prop := linesMatchSpecRow.holds Try.pinned (OpenSpec.ofChange linesMatchSpecWrong)

/-- 'posthouselaw3.LinesDataMatchSpec': WHATEVER THE INPUT: true; the input reads as it did. -/
def linesDataMatchSpecSpec : ChangeSpec := { name := "linesDataMatchSpec", fn := fun _ => fun
  | [d] => { results := [.lit (.bool true)], args := [d] }
  | _ => none }
def linesDataMatchSpecRow : OpenClaim := { program := "ytlpmbmilnoncdaa", sum := "f7853edb337770548803dfdcab7cd3a2ff468f63ac435e1ea4926d02fd2b1b33", func := "posthouse/posthouselaw3.LinesDataMatchSpec", spec := "linesDataMatchSpec", inPlace := ["internal/bytealg.IndexByte", "internal/bytealg.Index"], unfollowed := true, recurses := true, named := ["internal/bytealg.MaxLen"], apart := false }
def LinesDataMatchSpecSaid : Prop := linesDataMatchSpecRow.holds Try.pinned (OpenSpec.ofChange linesDataMatchSpecSpec)

/-- ITS FALSE NEIGHBOUR: 'it returns false'. Refute it at one input. -/
def linesDataMatchSpecWrong : ChangeSpec := { name := "linesDataMatchSpec", fn := fun _ => fun
  | [d] => { results := [.lit (.bool false)], args := [d] }
  | _ => none }
def LinesDataMatchSpecWrongFalsely : Prop := linesDataMatchSpecRow.holds Try.pinned (OpenSpec.ofChange linesDataMatchSpecWrong)

/-- 'posthouselaw3.LinesArriveAsSent': WHATEVER THE INPUT: true; the input reads as it did. -/
def linesArriveAsSentSpec : ChangeSpec := { name := "linesArriveAsSent", fn := fun _ => fun
  | [d1, d2, d3] => { results := [.lit (.bool true)], args := [d1, d2, d3] }
  | _ => none }
def linesArriveAsSentRow : OpenClaim := { program := "ytlpmbmilnoncdaa", sum := "f7853edb337770548803dfdcab7cd3a2ff468f63ac435e1ea4926d02fd2b1b33", func := "posthouse/posthouselaw3.LinesArriveAsSent", spec := "linesArriveAsSent", inPlace := ["internal/bytealg.IndexByte", "internal/bytealg.Index"], unfollowed := true, recurses := true, named := ["internal/bytealg.MaxLen"], apart := false }
def LinesArriveAsSentSaid : Prop := linesArriveAsSentRow.holds Try.pinned (OpenSpec.ofChange linesArriveAsSentSpec)

/-- ITS FALSE NEIGHBOUR: 'it returns false'. Refute it at one input. -/
def linesArriveAsSentWrong : ChangeSpec := { name := "linesArriveAsSent", fn := fun _ => fun
  | [d1, d2, d3] => { results := [.lit (.bool false)], args := [d1, d2, d3] }
  | _ => none }
def LinesArriveAsSentWrongFalsely : Prop := linesArriveAsSentRow.holds Try.pinned (OpenSpec.ofChange linesArriveAsSentWrong)

/-- 'posthouselaw3.LinesJoin': WHATEVER THE INPUT: true; the input reads as it did. -/
def linesJoinSpec : ChangeSpec := { name := "linesJoin", fn := fun _ => fun
  | [d1, d2] => { results := [.lit (.bool true)], args := [d1, d2] }
  | _ => none }
def linesJoinRow : OpenClaim := { program := "ytlpmbmilnoncdaa", sum := "f7853edb337770548803dfdcab7cd3a2ff468f63ac435e1ea4926d02fd2b1b33", func := "posthouse/posthouselaw3.LinesJoin", spec := "linesJoin", inPlace := ["internal/bytealg.IndexByte", "internal/bytealg.Index"], unfollowed := true, recurses := true, named := ["internal/bytealg.MaxLen"], apart := false }
def LinesJoinSaid : Prop := linesJoinRow.holds Try.pinned (OpenSpec.ofChange linesJoinSpec)

/-- ITS FALSE NEIGHBOUR: 'it returns false'. Refute it at one input. -/
def linesJoinWrong : ChangeSpec := { name := "linesJoin", fn := fun _ => fun
  | [d1, d2] => { results := [.lit (.bool false)], args := [d1, d2] }
  | _ => none }
def LinesJoinWrongFalsely : Prop := linesJoinRow.holds Try.pinned (OpenSpec.ofChange linesJoinWrong)

/-- 'posthouselaw3.AliasMatchesSpec': WHATEVER THE INPUT: true; the input reads as it did. -/
def aliasMatchesSpecSpec : ChangeSpec := { name := "aliasMatchesSpec", fn := fun _ => fun
  | [d1, d2] => { results := [.lit (.bool true)], args := [d1, d2] }
  | _ => none }
def aliasMatchesSpecRow : OpenClaim := { program := "ytlpmbmilnoncdaa", sum := "f7853edb337770548803dfdcab7cd3a2ff468f63ac435e1ea4926d02fd2b1b33", func := "posthouse/posthouselaw3.AliasMatchesSpec", spec := "aliasMatchesSpec", inPlace := ["internal/bytealg.IndexByteString", "internal/bytealg.IndexString"], unfollowed := true, recurses := true, named := ["internal/bytealg.MaxLen"], apart := false }
def AliasMatchesSpecSaid : Prop := aliasMatchesSpecRow.holds Try.pinned (OpenSpec.ofChange aliasMatchesSpecSpec)

/-- ITS FALSE NEIGHBOUR: 'it returns false'. Refute it at one input. -/
def aliasMatchesSpecWrong : ChangeSpec := { name := "aliasMatchesSpec", fn := fun _ => fun
  | [d1, d2] => { results := [.lit (.bool false)], args := [d1, d2] }
  | _ => none }
def AliasMatchesSpecWrongFalsely : Prop := aliasMatchesSpecRow.holds Try.pinned (OpenSpec.ofChange aliasMatchesSpecWrong)

/-- 'posthouselaw3.AliasLoopsMatchSpec': WHATEVER THE INPUT: true; the input reads as it did. -/
def aliasLoopsMatchSpecSpec : ChangeSpec := { name := "aliasLoopsMatchSpec", fn := fun _ => fun
  | [d] => { results := [.lit (.bool true)], args := [d] }
  | _ => none }
def aliasLoopsMatchSpecRow : OpenClaim := { program := "ytlpmbmilnoncdaa", sum := "f7853edb337770548803dfdcab7cd3a2ff468f63ac435e1ea4926d02fd2b1b33", func := "posthouse/posthouselaw3.AliasLoopsMatchSpec", spec := "aliasLoopsMatchSpec", inPlace := ["internal/bytealg.IndexByteString", "internal/bytealg.IndexString"], unfollowed := true, recurses := true, named := ["internal/bytealg.MaxLen"], apart := false }
def AliasLoopsMatchSpecSaid : Prop := aliasLoopsMatchSpecRow.holds Try.pinned (OpenSpec.ofChange aliasLoopsMatchSpecSpec)

/-- ITS FALSE NEIGHBOUR: 'it returns false'. Refute it at one input. -/
def aliasLoopsMatchSpecWrong : ChangeSpec := { name := "aliasLoopsMatchSpec", fn := fun _ => fun
  | [d] => { results := [.lit (.bool false)], args := [d] }
  | _ => none }
def AliasLoopsMatchSpecWrongFalsely : Prop := aliasLoopsMatchSpecRow.holds Try.pinned (OpenSpec.ofChange aliasLoopsMatchSpecWrong)

/-- 'posthouselaw3.AliasIsAFixedPoint': WHATEVER THE INPUT: true; the input reads as it did. -/
def aliasIsAFixedPointSpec : ChangeSpec := { name := "aliasIsAFixedPoint", fn := fun _ => fun
  | [d1, d2] => { results := [.lit (.bool true)], args := [d1, d2] }
  | _ => none }
def aliasIsAFixedPointRow : OpenClaim := { program := "ytlpmbmilnoncdaa", sum := "f7853edb337770548803dfdcab7cd3a2ff468f63ac435e1ea4926d02fd2b1b33", func := "posthouse/posthouselaw3.AliasIsAFixedPoint", spec := "aliasIsAFixedPoint", inPlace := ["internal/bytealg.IndexByteString", "internal/bytealg.IndexString"], unfollowed := true, recurses := true, named := ["internal/bytealg.MaxLen"], apart := false }
def AliasIsAFixedPointSaid : Prop := aliasIsAFixedPointRow.holds Try.pinned (OpenSpec.ofChange aliasIsAFixedPointSpec)

/-- ITS FALSE NEIGHBOUR: 'it returns false'. Refute it at one input. -/
def aliasIsAFixedPointWrong : ChangeSpec := { name := "aliasIsAFixedPoint", fn := fun _ => fun
  | [d1, d2] => { results := [.lit (.bool false)], args := [d1, d2] }
  | _ => none }
def AliasIsAFixedPointWrongFalsely : Prop := aliasIsAFixedPointRow.holds Try.pinned (OpenSpec.ofChange aliasIsAFixedPointWrong)

/-- 'posthouselaw3.AliasMoreIsMore': WHATEVER THE INPUT: true; the input reads as it did. -/
def aliasMoreIsMoreSpec : ChangeSpec := { name := "aliasMoreIsMore", fn := fun _ => fun
  | [d1, d2, d3] => { results := [.lit (.bool true)], args := [d1, d2, d3] }
  | _ => none }
def aliasMoreIsMoreRow : OpenClaim := { program := "ytlpmbmilnoncdaa", sum := "f7853edb337770548803dfdcab7cd3a2ff468f63ac435e1ea4926d02fd2b1b33", func := "posthouse/posthouselaw3.AliasMoreIsMore", spec := "aliasMoreIsMore", inPlace := ["internal/bytealg.IndexByteString", "internal/bytealg.IndexString"], unfollowed := true, recurses := true, named := ["internal/bytealg.MaxLen"], apart := false }
def AliasMoreIsMoreSaid : Prop := aliasMoreIsMoreRow.holds Try.pinned (OpenSpec.ofChange aliasMoreIsMoreSpec)

/-- ITS FALSE NEIGHBOUR: 'it returns false'. Refute it at one input. -/
def aliasMoreIsMoreWrong : ChangeSpec := { name := "aliasMoreIsMore", fn := fun _ => fun
  | [d1, d2, d3] => { results := [.lit (.bool false)], args := [d1, d2, d3] }
  | _ => none }
def AliasMoreIsMoreWrongFalsely : Prop := aliasMoreIsMoreRow.holds Try.pinned (OpenSpec.ofChange aliasMoreIsMoreWrong)

/- THE SECOND FORM. 'bulk': how many values and letters a reading holds, each counted each time it is reached (what is shared counts as often as it is met; a slice's spare places count too). A statement '..UptoSaid' is the law's where the arguments, and the package variables that the reading takes, are together of bulk at most 1048576: NARROWER than '..Said'. Prove '..Said' where nothing that the law and all that it calls make is longer than what came in: it says more and counts as full. Else prove '..UptoSaid'. A law counts once. -/
mutual
def uptoBulk {H : Type} : DataW H → Nat
  | .lit (.string bytes) => bytes.length + 1
  | .lit _ => 1
  | .nil => 1
  | .ptr d => uptoBulk d + 1
  | .slice elems spare => uptoBulkAll elems + uptoBulkAll spare + 1
  | .agg parts => uptoBulkAll parts + 1
  | .iface _ d => uptoBulk d + 1
  | .map entries => uptoBulkEntries entries + 1
  | .held _ => 1
def uptoBulkAll {H : Type} : List (DataW H) → Nat
  | [] => 0
  | d :: r => uptoBulk d + uptoBulkAll r
def uptoBulkEntries {H : Type} : List (Lit × DataW H) → Nat
  | [] => 0
  | x :: r => uptoBulkEntry x + uptoBulkEntries r
def uptoBulkEntry {H : Type} : Lit × DataW H → Nat
  | (.string bytes, d) => bytes.length + uptoBulk d + 1
  | (_, d) => uptoBulk d + 1
 end
def uptoSmall : (H : Type) → List (DataW H) → Bool := fun _ ds => decide (uptoBulkAll ds ≤ 1048576)
def OpenSpec.upto (s : _root_.Go.ChangeSpec) : _root_.Go.OpenSpec := { _root_.Go.OpenSpec.ofChange s with cond := some uptoSmall }

/-- 'posthouselaw3.RetryMatchesSpec', WHERE WHAT IT READS IS OF BULK AT MOST 1048576: true; the input reads as it did. -/
def retryMatchesSpecUptoRow : OpenClaim := { program := "ytlpmbmilnoncdaa", sum := "f7853edb337770548803dfdcab7cd3a2ff468f63ac435e1ea4926d02fd2b1b33", func := "posthouse/posthouselaw3.RetryMatchesSpec", spec := "retryMatchesSpec", apart := false, narrowed := true }
def RetryMatchesSpecUptoSaid : Prop := retryMatchesSpecUptoRow.holds Try.pinned (OpenSpec.upto retryMatchesSpecSpec)

/-- 'posthouselaw3.RetryEnds', WHERE WHAT IT READS IS OF BULK AT MOST 1048576: true; the input reads as it did. -/
def retryEndsUptoRow : OpenClaim := { program := "ytlpmbmilnoncdaa", sum := "f7853edb337770548803dfdcab7cd3a2ff468f63ac435e1ea4926d02fd2b1b33", func := "posthouse/posthouselaw3.RetryEnds", spec := "retryEnds", apart := false, narrowed := true }
def RetryEndsUptoSaid : Prop := retryEndsUptoRow.holds Try.pinned (OpenSpec.upto retryEndsSpec)

/-- 'posthouselaw3.RetryOneDelay', WHERE WHAT IT READS IS OF BULK AT MOST 1048576: true; the input reads as it did. -/
def retryOneDelayUptoRow : OpenClaim := { program := "ytlpmbmilnoncdaa", sum := "f7853edb337770548803dfdcab7cd3a2ff468f63ac435e1ea4926d02fd2b1b33", func := "posthouse/posthouselaw3.RetryOneDelay", spec := "retryOneDelay", apart := false, narrowed := true }
def RetryOneDelayUptoSaid : Prop := retryOneDelayUptoRow.holds Try.pinned (OpenSpec.upto retryOneDelaySpec)

/-- 'posthouselaw3.LinesMatchSpec', WHERE WHAT IT READS IS OF BULK AT MOST 1048576: true; the input reads as it did. -/
def linesMatchSpecUptoRow : OpenClaim := { program := "ytlpmbmilnoncdaa", sum := "f7853edb337770548803dfdcab7cd3a2ff468f63ac435e1ea4926d02fd2b1b33", func := "posthouse/posthouselaw3.LinesMatchSpec", spec := "linesMatchSpec", inPlace := ["internal/bytealg.IndexByte", "internal/bytealg.Index"], unfollowed := true, recurses := true, named := ["internal/bytealg.MaxLen"], apart := false, narrowed := true }
def LinesMatchSpecUptoSaid : Prop := linesMatchSpecUptoRow.holds Try.pinned (OpenSpec.upto linesMatchSpecSpec)

/-- 'posthouselaw3.LinesDataMatchSpec', WHERE WHAT IT READS IS OF BULK AT MOST 1048576: true; the input reads as it did. -/
def linesDataMatchSpecUptoRow : OpenClaim := { program := "ytlpmbmilnoncdaa", sum := "f7853edb337770548803dfdcab7cd3a2ff468f63ac435e1ea4926d02fd2b1b33", func := "posthouse/posthouselaw3.LinesDataMatchSpec", spec := "linesDataMatchSpec", inPlace := ["internal/bytealg.IndexByte", "internal/bytealg.Index"], unfollowed := true, recurses := true, named := ["internal/bytealg.MaxLen"], apart := false, narrowed := true }
def LinesDataMatchSpecUptoSaid : Prop := linesDataMatchSpecUptoRow.holds Try.pinned (OpenSpec.upto linesDataMatchSpecSpec)

/-- 'posthouselaw3.LinesArriveAsSent', WHERE WHAT IT READS IS OF BULK AT MOST 1048576: true; the input reads as it did. -/
def linesArriveAsSentUptoRow : OpenClaim := { program := "ytlpmbmilnoncdaa", sum := "f7853edb337770548803dfdcab7cd3a2ff468f63ac435e1ea4926d02fd2b1b33", func := "posthouse/posthouselaw3.LinesArriveAsSent", spec := "linesArriveAsSent", inPlace := ["internal/bytealg.IndexByte", "internal/bytealg.Index"], unfollowed := true, recurses := true, named := ["internal/bytealg.MaxLen"], apart := false, narrowed := true }
def LinesArriveAsSentUptoSaid : Prop := linesArriveAsSentUptoRow.holds Try.pinned (OpenSpec.upto linesArriveAsSentSpec)

/-- 'posthouselaw3.LinesJoin', WHERE WHAT IT READS IS OF BULK AT MOST 1048576: true; the input reads as it did. -/
def linesJoinUptoRow : OpenClaim := { program := "ytlpmbmilnoncdaa", sum := "f7853edb337770548803dfdcab7cd3a2ff468f63ac435e1ea4926d02fd2b1b33", func := "posthouse/posthouselaw3.LinesJoin", spec := "linesJoin", inPlace := ["internal/bytealg.IndexByte", "internal/bytealg.Index"], unfollowed := true, recurses := true, named := ["internal/bytealg.MaxLen"], apart := false, narrowed := true }
def LinesJoinUptoSaid : Prop := linesJoinUptoRow.holds Try.pinned (OpenSpec.upto linesJoinSpec)

/-- 'posthouselaw3.AliasMatchesSpec', WHERE WHAT IT READS IS OF BULK AT MOST 1048576: true; the input reads as it did. -/
def aliasMatchesSpecUptoRow : OpenClaim := { program := "ytlpmbmilnoncdaa", sum := "f7853edb337770548803dfdcab7cd3a2ff468f63ac435e1ea4926d02fd2b1b33", func := "posthouse/posthouselaw3.AliasMatchesSpec", spec := "aliasMatchesSpec", inPlace := ["internal/bytealg.IndexByteString", "internal/bytealg.IndexString"], unfollowed := true, recurses := true, named := ["internal/bytealg.MaxLen"], apart := false, narrowed := true }
def AliasMatchesSpecUptoSaid : Prop := aliasMatchesSpecUptoRow.holds Try.pinned (OpenSpec.upto aliasMatchesSpecSpec)

/-- 'posthouselaw3.AliasLoopsMatchSpec', WHERE WHAT IT READS IS OF BULK AT MOST 1048576: true; the input reads as it did. -/
def aliasLoopsMatchSpecUptoRow : OpenClaim := { program := "ytlpmbmilnoncdaa", sum := "f7853edb337770548803dfdcab7cd3a2ff468f63ac435e1ea4926d02fd2b1b33", func := "posthouse/posthouselaw3.AliasLoopsMatchSpec", spec := "aliasLoopsMatchSpec", inPlace := ["internal/bytealg.IndexByteString", "internal/bytealg.IndexString"], unfollowed := true, recurses := true, named := ["internal/bytealg.MaxLen"], apart := false, narrowed := true }
def AliasLoopsMatchSpecUptoSaid : Prop := aliasLoopsMatchSpecUptoRow.holds Try.pinned (OpenSpec.upto aliasLoopsMatchSpecSpec)

/-- 'posthouselaw3.AliasIsAFixedPoint', WHERE WHAT IT READS IS OF BULK AT MOST 1048576: true; the input reads as it did. -/
def aliasIsAFixedPointUptoRow : OpenClaim := { program := "ytlpmbmilnoncdaa", sum := "f7853edb337770548803dfdcab7cd3a2ff468f63ac435e1ea4926d02fd2b1b33", func := "posthouse/posthouselaw3.AliasIsAFixedPoint", spec := "aliasIsAFixedPoint", inPlace := ["internal/bytealg.IndexByteString", "internal/bytealg.IndexString"], unfollowed := true, recurses := true, named := ["internal/bytealg.MaxLen"], apart := false, narrowed := true }
def AliasIsAFixedPointUptoSaid : Prop := aliasIsAFixedPointUptoRow.holds Try.pinned (OpenSpec.upto aliasIsAFixedPointSpec)

/-- 'posthouselaw3.AliasMoreIsMore', WHERE WHAT IT READS IS OF BULK AT MOST 1048576: true; the input reads as it did. -/
def aliasMoreIsMoreUptoRow : OpenClaim := { program := "ytlpmbmilnoncdaa", sum := "f7853edb337770548803dfdcab7cd3a2ff468f63ac435e1ea4926d02fd2b1b33", func := "posthouse/posthouselaw3.AliasMoreIsMore", spec := "aliasMoreIsMore", inPlace := ["internal/bytealg.IndexByteString", "internal/bytealg.IndexString"], unfollowed := true, recurses := true, named := ["internal/bytealg.MaxLen"], apart := false, narrowed := true }
def AliasMoreIsMoreUptoSaid : Prop := aliasMoreIsMoreUptoRow.holds Try.pinned (OpenSpec.upto aliasMoreIsMoreSpec)

end Rows
end Go.Proofs.Ytlpmbmilnoncdaa
