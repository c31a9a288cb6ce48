/-
  No cell of these rows narrows 'for every input' (looked for: loops, veiled, ifaces, maps, wideKeys, modest, calm, conditions, laid).
  DERIVED. THE GIVEN ROWS OF THIS SEAT. 6 by the template 'for every input the law returns true; each argument reads behind the call as it read before'; 0 by the template 'total and deterministic' (their statements: YtgajlblehdboiaaGreatTotals.lean).
  GIVEN WITH THE SEED: the statements are not yours to turn. If you find one false, say at which input.
  Laid BY PROGRAM, IN A SANDBOX (cutbox-rows.mjs): the forced cells as the released guide's own fill.sh prints them over the translation d2b9774c12fd5ca4… (all of the seat's roots in one cut). By AI agents, Wed Nov 11 2026. No macro, syntax, notation, axiom, sorry.
-/
import Derived.Test.YtgajlblehdboiaaGreatChecked
import GoSem.Claim
import GoSem.ClaimJoined
import GoSem.ClaimMapViews
import Derived.JoinedTies
import Derived.KernelRfl
namespace Go.Proofs.YtgajlblehdboiaaGreat
/- THE CELL 'sum', in the pinned program and in every row, IS THE sha256 OF THE DUMP (.gsa) THAT YtgajlblehdboiaaGreatProg.lean LOADS. Nothing in Lean hashes anything: it is a label: what it is worth is what the hold of that sum in a sandbox is worth. -/
noncomputable def Tryz.pinned : Pinned := { name := "ytgajlblehdboiaagreat", sum := "d2b9774c12fd5ca440d12c521215740c3bc748d7b94d1e3c158be092ec847c94", checked := Tryz.checked }
namespace Rows
def none {H : Type} : Left H := { results := [], args := [] }

/-- 'posthouselaw4.QueueAddMatchesSpec': WHATEVER THE INPUT: true; the input reads as it did. -/
def queueAddMatchesSpecSpec : ChangeSpec := { name := "queueAddMatchesSpec", fn := fun _ => fun
  | [d1, d2, d3] => { results := [.lit (.bool true)], args := [d1, d2, d3] }
  | _ => none }
def queueAddMatchesSpecRow : OpenClaim := { program := "ytgajlblehdboiaagreat", sum := "d2b9774c12fd5ca440d12c521215740c3bc748d7b94d1e3c158be092ec847c94", func := "posthouse/posthouselaw4.QueueAddMatchesSpec", spec := "queueAddMatchesSpec", inPlace := ["internal/bytealg.IndexByteString", "internal/bytealg.IndexString"], unfollowed := true, recurses := true, named := ["internal/bytealg.MaxLen"], plainKeys := false, apart := false }
def QueueAddMatchesSpecSaid : Prop := queueAddMatchesSpecRow.holds Tryz.pinned (OpenSpec.ofChange queueAddMatchesSpecSpec)

/-- ITS FALSE NEIGHBOUR: 'it returns false'. Refute it at one input. -/
def queueAddMatchesSpecWrong : ChangeSpec := { name := "queueAddMatchesSpec", fn := fun _ => fun
  | [d1, d2, d3] => { results := [.lit (.bool false)], args := [d1, d2, d3] }
  | _ => none }
def QueueAddMatchesSpecWrongFalsely : Prop := queueAddMatchesSpecRow.holds Tryz.pinned (OpenSpec.ofChange queueAddMatchesSpecWrong)

/-- 'posthouselaw4.QueueReadyMatchesSpec': WHATEVER THE INPUT: true; the input reads as it did. -/
def queueReadyMatchesSpecSpec : ChangeSpec := { name := "queueReadyMatchesSpec", fn := fun _ => fun
  | [d1, d2] => { results := [.lit (.bool true)], args := [d1, d2] }
  | _ => none }
def queueReadyMatchesSpecRow : OpenClaim := { program := "ytgajlblehdboiaagreat", sum := "d2b9774c12fd5ca440d12c521215740c3bc748d7b94d1e3c158be092ec847c94", func := "posthouse/posthouselaw4.QueueReadyMatchesSpec", spec := "queueReadyMatchesSpec", inPlace := ["internal/bytealg.IndexByteString", "internal/bytealg.IndexString"], unfollowed := true, recurses := true, named := ["internal/bytealg.MaxLen"], plainKeys := false, apart := false }
def QueueReadyMatchesSpecSaid : Prop := queueReadyMatchesSpecRow.holds Tryz.pinned (OpenSpec.ofChange queueReadyMatchesSpecSpec)

/-- ITS FALSE NEIGHBOUR: 'it returns false'. Refute it at one input. -/
def queueReadyMatchesSpecWrong : ChangeSpec := { name := "queueReadyMatchesSpec", fn := fun _ => fun
  | [d1, d2] => { results := [.lit (.bool false)], args := [d1, d2] }
  | _ => none }
def QueueReadyMatchesSpecWrongFalsely : Prop := queueReadyMatchesSpecRow.holds Tryz.pinned (OpenSpec.ofChange queueReadyMatchesSpecWrong)

/-- 'posthouselaw4.QueueReadyCanBegin': WHATEVER THE INPUT: true; the input reads as it did. -/
def queueReadyCanBeginSpec : ChangeSpec := { name := "queueReadyCanBegin", fn := fun _ => fun
  | [d1, d2] => { results := [.lit (.bool true)], args := [d1, d2] }
  | _ => none }
def queueReadyCanBeginRow : OpenClaim := { program := "ytgajlblehdboiaagreat", sum := "d2b9774c12fd5ca440d12c521215740c3bc748d7b94d1e3c158be092ec847c94", func := "posthouse/posthouselaw4.QueueReadyCanBegin", spec := "queueReadyCanBegin", inPlace := ["internal/bytealg.IndexByteString", "internal/bytealg.IndexString"], unfollowed := true, recurses := true, named := ["internal/bytealg.MaxLen"], plainKeys := false, apart := false }
def QueueReadyCanBeginSaid : Prop := queueReadyCanBeginRow.holds Tryz.pinned (OpenSpec.ofChange queueReadyCanBeginSpec)

/-- ITS FALSE NEIGHBOUR: 'it returns false'. Refute it at one input. -/
def queueReadyCanBeginWrong : ChangeSpec := { name := "queueReadyCanBegin", fn := fun _ => fun
  | [d1, d2] => { results := [.lit (.bool false)], args := [d1, d2] }
  | _ => none }
def QueueReadyCanBeginWrongFalsely : Prop := queueReadyCanBeginRow.holds Tryz.pinned (OpenSpec.ofChange queueReadyCanBeginWrong)

/-- 'posthouselaw4.QueueLosesNobody': WHATEVER THE INPUT: true; the input reads as it did. -/
def queueLosesNobodySpec : ChangeSpec := { name := "queueLosesNobody", fn := fun _ => fun
  | [d1, d2, d3, d4] => { results := [.lit (.bool true)], args := [d1, d2, d3, d4] }
  | _ => none }
def queueLosesNobodyRow : OpenClaim := { program := "ytgajlblehdboiaagreat", sum := "d2b9774c12fd5ca440d12c521215740c3bc748d7b94d1e3c158be092ec847c94", func := "posthouse/posthouselaw4.QueueLosesNobody", spec := "queueLosesNobody", inPlace := ["internal/bytealg.IndexByteString", "internal/bytealg.IndexString"], unfollowed := true, recurses := true, named := ["internal/bytealg.MaxLen"], plainKeys := false, apart := false }
def QueueLosesNobodySaid : Prop := queueLosesNobodyRow.holds Tryz.pinned (OpenSpec.ofChange queueLosesNobodySpec)

/-- ITS FALSE NEIGHBOUR: 'it returns false'. Refute it at one input. -/
def queueLosesNobodyWrong : ChangeSpec := { name := "queueLosesNobody", fn := fun _ => fun
  | [d1, d2, d3, d4] => { results := [.lit (.bool false)], args := [d1, d2, d3, d4] }
  | _ => none }
def QueueLosesNobodyWrongFalsely : Prop := queueLosesNobodyRow.holds Tryz.pinned (OpenSpec.ofChange queueLosesNobodyWrong)

/-- 'posthouselaw4.QueueNeverTwiceAtOnce': WHATEVER THE INPUT: true; the input reads as it did. -/
def queueNeverTwiceAtOnceSpec : ChangeSpec := { name := "queueNeverTwiceAtOnce", fn := fun _ => fun
  | [d1, d2, d3] => { results := [.lit (.bool true)], args := [d1, d2, d3] }
  | _ => none }
def queueNeverTwiceAtOnceRow : OpenClaim := { program := "ytgajlblehdboiaagreat", sum := "d2b9774c12fd5ca440d12c521215740c3bc748d7b94d1e3c158be092ec847c94", func := "posthouse/posthouselaw4.QueueNeverTwiceAtOnce", spec := "queueNeverTwiceAtOnce", inPlace := ["internal/bytealg.IndexByteString", "internal/bytealg.IndexString"], unfollowed := true, recurses := true, named := ["internal/bytealg.MaxLen"], plainKeys := false, apart := false }
def QueueNeverTwiceAtOnceSaid : Prop := queueNeverTwiceAtOnceRow.holds Tryz.pinned (OpenSpec.ofChange queueNeverTwiceAtOnceSpec)

/-- ITS FALSE NEIGHBOUR: 'it returns false'. Refute it at one input. -/
def queueNeverTwiceAtOnceWrong : ChangeSpec := { name := "queueNeverTwiceAtOnce", fn := fun _ => fun
  | [d1, d2, d3] => { results := [.lit (.bool false)], args := [d1, d2, d3] }
  | _ => none }
def QueueNeverTwiceAtOnceWrongFalsely : Prop := queueNeverTwiceAtOnceRow.holds Tryz.pinned (OpenSpec.ofChange queueNeverTwiceAtOnceWrong)

/-- 'posthouselaw4.QueueAttemptsMatchSpec': WHATEVER THE INPUT: true; the input reads as it did. -/
def queueAttemptsMatchSpecSpec : ChangeSpec := { name := "queueAttemptsMatchSpec", fn := fun _ => fun
  | [d1, d2, d3, d4] => { results := [.lit (.bool true)], args := [d1, d2, d3, d4] }
  | _ => none }
def queueAttemptsMatchSpecRow : OpenClaim := { program := "ytgajlblehdboiaagreat", sum := "d2b9774c12fd5ca440d12c521215740c3bc748d7b94d1e3c158be092ec847c94", func := "posthouse/posthouselaw4.QueueAttemptsMatchSpec", spec := "queueAttemptsMatchSpec", inPlace := ["internal/bytealg.IndexByteString", "internal/bytealg.IndexString"], unfollowed := true, recurses := true, named := ["internal/bytealg.MaxLen"], plainKeys := false, apart := false }
def QueueAttemptsMatchSpecSaid : Prop := queueAttemptsMatchSpecRow.holds Tryz.pinned (OpenSpec.ofChange queueAttemptsMatchSpecSpec)

/-- ITS FALSE NEIGHBOUR: 'it returns false'. Refute it at one input. -/
def queueAttemptsMatchSpecWrong : ChangeSpec := { name := "queueAttemptsMatchSpec", fn := fun _ => fun
  | [d1, d2, d3, d4] => { results := [.lit (.bool false)], args := [d1, d2, d3, d4] }
  | _ => none }
def QueueAttemptsMatchSpecWrongFalsely : Prop := queueAttemptsMatchSpecRow.holds Tryz.pinned (OpenSpec.ofChange queueAttemptsMatchSpecWrong)

/- THE SECOND FORM. 'bulk': how many values and letters a reading holds, each counted each time it is reached (what is shared counts as often as it is met; a slice's spare places count too). A statement '..UptoSaid' is the law's where the arguments, and the package variables that the reading takes, are together of bulk at most 1048576: NARROWER than '..Said'. Prove '..Said' where nothing that the law and all that it calls make is longer than what came in: it says more and counts as full. Else prove '..UptoSaid'. A law counts once. -/
mutual
def uptoBulk {H : Type} : DataW H → Nat
  | .lit (.string bytes) => bytes.length + 1
  | .lit _ => 1
  | .nil => 1
  | .ptr d => uptoBulk d + 1
  | .slice elems spare => uptoBulkAll elems + uptoBulkAll spare + 1
  | .agg parts => uptoBulkAll parts + 1
  | .iface _ d => uptoBulk d + 1
  | .map entries => uptoBulkEntries entries + 1
  | .held _ => 1
def uptoBulkAll {H : Type} : List (DataW H) → Nat
  | [] => 0
  | d :: r => uptoBulk d + uptoBulkAll r
def uptoBulkEntries {H : Type} : List (Lit × DataW H) → Nat
  | [] => 0
  | x :: r => uptoBulkEntry x + uptoBulkEntries r
def uptoBulkEntry {H : Type} : Lit × DataW H → Nat
  | (.string bytes, d) => bytes.length + uptoBulk d + 1
  | (_, d) => uptoBulk d + 1
 end
def uptoSmall : (H : Type) → List (DataW H) → Bool := fun _ ds => decide (uptoBulkAll ds ≤ 1048576)
def OpenSpec.upto (s : _root_.Go.ChangeSpec) : _root_.Go.OpenSpec := { _root_.Go.OpenSpec.ofChange s with cond := some uptoSmall }

/-- 'posthouselaw4.QueueAddMatchesSpec', WHERE WHAT IT READS IS OF BULK AT MOST 1048576: true; the input reads as it did. -/
def queueAddMatchesSpecUptoRow : OpenClaim := { program := "ytgajlblehdboiaagreat", sum := "d2b9774c12fd5ca440d12c521215740c3bc748d7b94d1e3c158be092ec847c94", func := "posthouse/posthouselaw4.QueueAddMatchesSpec", spec := "queueAddMatchesSpec", inPlace := ["internal/bytealg.IndexByteString", "internal/bytealg.IndexString"], unfollowed := true, recurses := true, named := ["internal/bytealg.MaxLen"], plainKeys := false, apart := false, narrowed := true }
def QueueAddMatchesSpecUptoSaid : Prop := queueAddMatchesSpecUptoRow.holds Tryz.pinned (OpenSpec.upto queueAddMatchesSpecSpec)

/-- 'posthouselaw4.QueueReadyMatchesSpec', WHERE WHAT IT READS IS OF BULK AT MOST 1048576: true; the input reads as it did. -/
def queueReadyMatchesSpecUptoRow : OpenClaim := { program := "ytgajlblehdboiaagreat", sum := "d2b9774c12fd5ca440d12c521215740c3bc748d7b94d1e3c158be092ec847c94", func := "posthouse/posthouselaw4.QueueReadyMatchesSpec", spec := "queueReadyMatchesSpec", inPlace := ["internal/bytealg.IndexByteString", "internal/bytealg.IndexString"], unfollowed := true, recurses := true, named := ["internal/bytealg.MaxLen"], plainKeys := false, apart := false, narrowed := true }
def QueueReadyMatchesSpecUptoSaid : Prop := queueReadyMatchesSpecUptoRow.holds Tryz.pinned (OpenSpec.upto queueReadyMatchesSpecSpec)

/-- 'posthouselaw4.QueueReadyCanBegin', WHERE WHAT IT READS IS OF BULK AT MOST 1048576: true; the input reads as it did. -/
def queueReadyCanBeginUptoRow : OpenClaim := { program := "ytgajlblehdboiaagreat", sum := "d2b9774c12fd5ca440d12c521215740c3bc748d7b94d1e3c158be092ec847c94", func := "posthouse/posthouselaw4.QueueReadyCanBegin", spec := "queueReadyCanBegin", inPlace := ["internal/bytealg.IndexByteString", "internal/bytealg.IndexString"], unfollowed := true, recurses := true, named := ["internal/bytealg.MaxLen"], plainKeys := false, apart := false, narrowed := true }
def QueueReadyCanBeginUptoSaid : Prop := queueReadyCanBeginUptoRow.holds Tryz.pinned (OpenSpec.upto queueReadyCanBeginSpec)

/-- 'posthouselaw4.QueueLosesNobody', WHERE WHAT IT READS IS OF BULK AT MOST 1048576: true; the input reads as it did. -/
def queueLosesNobodyUptoRow : OpenClaim := { program := "ytgajlblehdboiaagreat", sum := "d2b9774c12fd5ca440d12c521215740c3bc748d7b94d1e3c158be092ec847c94", func := "posthouse/posthouselaw4.QueueLosesNobody", spec := "queueLosesNobody", inPlace := ["internal/bytealg.IndexByteString", "internal/bytealg.IndexString"], unfollowed := true, recurses := true, named := ["internal/bytealg.MaxLen"], plainKeys := false, apart := false, narrowed := true }
def QueueLosesNobodyUptoSaid : Prop := queueLosesNobodyUptoRow.holds Tryz.pinned (OpenSpec.upto queueLosesNobodySpec)

/-- 'posthouselaw4.QueueNeverTwiceAtOnce', WHERE WHAT IT READS IS OF BULK AT MOST 1048576: true; the input reads as it did. -/
def queueNeverTwiceAtOnceUptoRow : OpenClaim := { program := "ytgajlblehdboiaagreat", sum := "d2b9774c12fd5ca440d12c521215740c3bc748d7b94d1e3c158be092ec847c94", func := "posthouse/posthouselaw4.QueueNeverTwiceAtOnce", spec := "queueNeverTwiceAtOnce", inPlace := ["internal/bytealg.IndexByteString", "internal/bytealg.IndexString"], unfollowed := true, recurses := true, named := ["internal/bytealg.MaxLen"], plainKeys := false, apart := false, narrowed := true }
def QueueNeverTwiceAtOnceUptoSaid : Prop := queueNeverTwiceAtOnceUptoRow.holds Tryz.pinned (OpenSpec.upto queueNeverTwiceAtOnceSpec)

/-- 'posthouselaw4.QueueAttemptsMatchSpec', WHERE WHAT IT READS IS OF BULK AT MOST 1048576: true; the input reads as it did. -/
def queueAttemptsMatchSpecUptoRow : OpenClaim := { program := "ytgajlblehdboiaagreat", sum := "d2b9774c12fd5ca440d12c521215740c3bc748d7b94d1e3c158be092ec847c94", func := "posthouse/posthouselaw4.QueueAttemptsMatchSpec", spec := "queueAttemptsMatchSpec", inPlace := ["internal/bytealg.IndexByteString", "internal/bytealg.IndexString"], unfollowed := true, recurses := true, named := ["internal/bytealg.MaxLen"], plainKeys := false, apart := false, narrowed := true }
def QueueAttemptsMatchSpecUptoSaid : Prop := queueAttemptsMatchSpecUptoRow.holds Tryz.pinned (OpenSpec.upto queueAttemptsMatchSpecSpec)

end Rows
end Go.Proofs.YtgajlblehdboiaaGreat
