/- The law ReplyRoundTrips holds for every input of bulk up to the given bound: it returns true and leaves its arguments as they were. Written by program. -/
import Derived.Test.YtkoijpogjobgjaaDoorC4
import Derived.Test.YtkoijpogjobgjaaDoorProg
import Derived.Lib.IndexMore
import Derived.Lib.IndexAny
import Derived.Lib.Atoi
import Derived.Laws.RangeAny
import Derived.Lib.ItoaMem
import Derived.Test.YtkoijpogjobgjaaDoorShelf
set_option linter.unusedVariables false
set_option linter.unusedSimpArgs false
/- Go's structures as Lean's, and their cells. Written by program. -/
namespace Go.Proofs.YtkoijpogjobgjaaDoor
open Go.RowKit
structure TFault where
  Code : Int
  Index : Int
def TFault.pc (x : TFault) : List PV := [pI x.Code, pI x.Index]
structure TAlias where
  Address : Str
  To : List Str
def TAlias.pc (x : TAlias) : List PV := [pS x.Address, pL cS x.To]
structure TRecipient where
  Address : Str
  Notify : Int
def TRecipient.pc (x : TRecipient) : List PV := [pS x.Address, pI x.Notify]
structure TEnvelope where
  From : Str
  To : List TRecipient
  Id : Str
def TEnvelope.pc (x : TEnvelope) : List PV := [pS x.From, pL TRecipient.pc x.To, pS x.Id]
structure TField where
  Name : Str
  Value : Str
def TField.pc (x : TField) : List PV := [pS x.Name, pS x.Value]
structure TMessage where
  Fields : List TField
  Body : List UInt8
def TMessage.pc (x : TMessage) : List PV := [pL TField.pc x.Fields, pL cU x.Body]
structure TMail where
  Envelope : TEnvelope
  Message : TMessage
def TMail.pc (x : TMail) : List PV := [pS x.Envelope.From, pL TRecipient.pc x.Envelope.To, pS x.Envelope.Id, pL TField.pc x.Message.Fields, pL cU x.Message.Body]
structure TForward where
  Address : Str
  To : List Str
  Keep : Bool
def TForward.pc (x : TForward) : List PV := [pS x.Address, pL cS x.To, pB x.Keep]
structure THeld where
  Number : Int
  Mail : TMail
def THeld.pc (x : THeld) : List PV := [pI x.Number, pS x.Mail.Envelope.From, pL TRecipient.pc x.Mail.Envelope.To, pS x.Mail.Envelope.Id, pL TField.pc x.Mail.Message.Fields, pL cU x.Mail.Message.Body]
structure TList where
  Address : Str
  Owner : Str
  Open : Bool
  Subscribers : List Str
  Moderators : List Str
  Held : List THeld
  Next : Int
def TList.pc (x : TList) : List PV := [pS x.Address, pS x.Owner, pB x.Open, pL cS x.Subscribers, pL cS x.Moderators, pL THeld.pc x.Held, pI x.Next]
structure TReply where
  Code : Int
  Lines : List Str
def TReply.pc (x : TReply) : List PV := [pI x.Code, pL cS x.Lines]
end Go.Proofs.YtkoijpogjobgjaaDoor

/- Rows of the table of types. Written by program. -/
namespace Go.Proofs.YtkoijpogjobgjaaDoor
open Go.RowKit
set_option maxRecDepth 100000
set_option maxHeartbeats 40000000
set_option linter.unusedVariables false
theorem mixed : Tryd.prog.follows .mixedOrders = true := by kernel_rfl
theorem cmp_api_Fault : CmpOk Tryd.prog 26 := ⟨by kernel_rfl, by kernel_rfl⟩
theorem pl_api_Fault (w : World) : Sem.run Tryd.prog (Array.mapM (fun (f : Field) => do pure (f.offset, ← sizeOf f.type)) #[⟨"Code", 3, 0, false, "", "", 0⟩, ⟨"Index", 3, 1, false, "", "", 8⟩]) w = .ok #[(0, 1), (1, 1)] w := by kernel_rfl
theorem pl_api_Reply (w : World) : Sem.run Tryd.prog (Array.mapM (fun (f : Field) => do pure (f.offset, ← sizeOf f.type)) #[⟨"Code", 3, 0, false, "", "", 0⟩, ⟨"Lines", 22, 1, false, "", "", 8⟩]) w = .ok #[(0, 1), (1, 1)] w := by kernel_rfl
theorem ty_api_Fault : TyOk Tryd.prog 26 2 16 (.agg #[.int .i64 0, .int .i64 0]) (.struct #[⟨"Code", 3, 0, false, "", "", 0⟩, ⟨"Index", 3, 1, false, "", "", 8⟩]) := ⟨by kernel_rfl, by kernel_rfl⟩
theorem ty_api_Reply : TyOk Tryd.prog 24 2 32 (.agg #[.int .i64 0, .slice none 0 0]) (.struct #[⟨"Code", 3, 0, false, "", "", 0⟩, ⟨"Lines", 22, 1, false, "", "", 8⟩]) := ⟨by kernel_rfl, by kernel_rfl⟩
theorem ty_bool : TyOk Tryd.prog 4 1 1 (.bool false) .bool := ⟨by kernel_rfl, by kernel_rfl⟩
theorem ty_int : TyOk Tryd.prog 3 1 8 (.int .i64 0) (.int .i64) := ⟨by kernel_rfl, by kernel_rfl⟩
theorem ty_int32 : TyOk Tryd.prog 21 1 4 (.int .i32 0) (.int .i32) := ⟨by kernel_rfl, by kernel_rfl⟩
theorem ty_s_string : TyOk Tryd.prog 22 1 24 (.slice none 0 0) (.slice 9) := ⟨by kernel_rfl, by kernel_rfl⟩
theorem ty_s_uint8 : TyOk Tryd.prog 69 1 24 (.slice none 0 0) (.slice 5) := ⟨by kernel_rfl, by kernel_rfl⟩
theorem ty_string : TyOk Tryd.prog 9 1 16 (.string ⟨#[]⟩) .string := ⟨by kernel_rfl, by kernel_rfl⟩
theorem ty_uint8 : TyOk Tryd.prog 5 1 1 (.int .u8 0) (.int .u8) := ⟨by kernel_rfl, by kernel_rfl⟩
def tab : Tab := [(26, ⟨2, 16, (.agg #[.int .i64 0, .int .i64 0]), (.struct #[⟨"Code", 3, 0, false, "", "", 0⟩, ⟨"Index", 3, 1, false, "", "", 8⟩]), (some #[(0, 1), (1, 1)])⟩), (24, ⟨2, 32, (.agg #[.int .i64 0, .slice none 0 0]), (.struct #[⟨"Code", 3, 0, false, "", "", 0⟩, ⟨"Lines", 22, 1, false, "", "", 8⟩]), (some #[(0, 1), (1, 1)])⟩), (4, ⟨1, 1, (.bool false), .bool, none⟩), (3, ⟨1, 8, (.int .i64 0), (.int .i64), none⟩), (21, ⟨1, 4, (.int .i32 0), (.int .i32), none⟩), (22, ⟨1, 24, (.slice none 0 0), (.slice 9), none⟩), (69, ⟨1, 24, (.slice none 0 0), (.slice 5), none⟩), (9, ⟨1, 16, (.string ⟨#[]⟩), .string, none⟩), (5, ⟨1, 1, (.int .u8 0), (.int .u8), none⟩)]
theorem tk : TabOk Tryd.prog tab := (tab_consP ty_api_Fault pl_api_Fault (tab_consP ty_api_Reply pl_api_Reply (tab_cons ty_bool (tab_cons ty_int (tab_cons ty_int32 (tab_cons ty_s_string (tab_cons ty_s_uint8 (tab_cons ty_string (tab_cons ty_uint8 tab_nil)))))))))
end Go.Proofs.YtkoijpogjobgjaaDoor

/- How the laws' arguments are read. Written by program. -/
namespace Go.Proofs.YtkoijpogjobgjaaDoor
open Go.RowKit
set_option maxRecDepth 100000
set_option linter.unusedVariables false
theorem op_int : Opens Tryd.prog 3 1 cI ok64 (fun _ => 1) := opens_I ty_int.u (by kernel_rfl)
theorem op_string : Opens Tryd.prog 9 1 cS okStr (fun s => s.length + 1) := opens_S ty_string.u (by kernel_rfl)
theorem op_s_string : Opens Tryd.prog 22 1 (cL cS) (okL okStr) (bkL (fun s => s.length + 1)) := opens_L op_string rfl ty_s_string.u (by kernel_rfl)
def TReply.ok (x : TReply) : Prop := ok64 x.Code ∧ (okL okStr) x.Lines
def TReply.bk (x : TReply) : Nat := (fun _ => 1) x.Code + (bkL (fun s => s.length + 1)) x.Lines + 1
instance : Inhabited TReply := ⟨⟨default, default⟩⟩
theorem op_api_Reply : Opens Tryd.prog 24 2 TReply.pc TReply.ok TReply.bk := ⟨by kernel_rfl, fun _ => rfl, fun {H enc W fuel cs d} h => by
  obtain ⟨xs, n, _, rfl, hl, hlen, hf⟩ := DataW.trod_struct ty_api_Reply.u h
  have hl2 : cs.length = 2 := hl.trans (by kernel_rfl)
  match xs, hlen with
  | [y0, y1], _ =>
    obtain ⟨x0, r0, o0, b0⟩ := op_int.op (show _ = some y0 from hf 0 _ rfl)
    replace r0 : RelC W _ (List.take (Tryd.prog.cellsOf 3) (List.drop 0 cs)) := r0
    rw [op_int.cells] at r0
    obtain ⟨x1, r1, o1, b1⟩ := op_s_string.op (show _ = some y1 from hf 1 _ rfl)
    replace r1 : RelC W _ (List.take (Tryd.prog.cellsOf 22) (List.drop 1 cs)) := r1
    rw [op_s_string.cells] at r1
    exact ⟨⟨x0, x1⟩, (relC_seg (off := 0) rfl r0 (relC_seg (off := 1) rfl r1 (relC_end hl2))), ⟨o0, o1⟩, by simp only [List.map, Rows.uptoBulk, Rows.uptoBulkAll, TReply.bk]; omega⟩⟩
end Go.Proofs.YtkoijpogjobgjaaDoor

/- Functions of the program as Lean functions: what they compute. Written by program. -/
namespace Go.Proofs.YtkoijpogjobgjaaDoor
open Go.RowKit
set_option maxRecDepth 100000
set_option maxHeartbeats 40000000
set_option linter.unusedVariables false
def R_At (a0 : Int) (a1 : Int) : Option TFault :=
  some ((TFault.mk a0 a1))
def basic_Fault (a0 : Int) (a1 : Int) : Option TFault :=
  some ((TFault.mk a0 a1))
def basic_None  : Option TFault :=
  some ((TFault.mk 0 0))
def basic_Failed (a0 : TFault) : Option Bool :=
  some ((a0.Code != 0))
def R_Strings_l1 (a0 : List Str) (a1 : List Str) (s2 : Int) : Option (Step Int (Unit ⊕ Bool)) :=
  (bif decide (s2 < (a0.length : Int)) then (idx a0 s2).bind fun v8 => (idx a1 s2).bind fun v10 => (bif (v8 != v10) then some (.out (.inr false)) else some (.cont (w64 (s2 + 1)))) else some (.out (.inl (()))))
noncomputable def R_Strings (a0 : List Str) (a1 : List Str) : Option Bool :=
  (bif ((a0.length : Int) != (a1.length : Int)) then some false else (iter (R_Strings_l1 a0 a1) 0).bind (Sum.elim (fun b3 => some true) (fun b4 => some b4)))
end Go.Proofs.YtkoijpogjobgjaaDoor

/- Library functions as Lean functions. -/
namespace Go.Proofs.YtkoijpogjobgjaaDoor
open Go.RowKit
def strings_IndexByte (s : Str) (c : UInt8) : Option Int := some (Lib.indexByte s c)
end Go.Proofs.YtkoijpogjobgjaaDoor

/- Functions of the program as Lean functions: what they compute. Written by program. -/
namespace Go.Proofs.YtkoijpogjobgjaaDoor
open Go.RowKit
set_option maxRecDepth 100000
set_option maxHeartbeats 40000000
set_option linter.unusedVariables false
def unicode_utf8_ValidRune (a0 : Int) : Option Bool :=
  ((bif decide (0 ≤ a0) then some (decide (a0 < 55296)) else some false) : Option Bool).bind fun (j1 : Bool) => (bif j1 then some true else ((bif decide (57343 < a0) then some (decide (a0 ≤ 1114111)) else some false) : Option Bool).bind fun (j4 : Bool) => (bif j4 then some true else some false))
def strings_IndexRune_l1 (a0 : Str) (s7 : Nat) : Option (Step Nat (Unit ⊕ Int)) :=
  (bif decide (s7 < a0.length) then (bif ((runeAt a0 s7) == 65533) then some (.out (.inr (((s7 : Nat) : Int)))) else some (.cont (s7 + wideAt a0 s7))) else some (.out (.inl (()))))
def strings_IndexRune_l4 (a0 : Str) (a1 : Int) (j23 : Int × Int) (s36 : Int) : Option (Step Int Unit) :=
  (bif decide (s36 < (((runeS a1)).length : Int)) then (idx a0 ((w64 (j23.2 - s36)))).bind fun v40 => (idx ((runeS a1)) ((w64 (j23.1 - s36)))).bind fun v42 => (bif ((v40.toNat : Int) != (v42.toNat : Int)) then none else some (.cont (w64 (s36 + 1)))) else some (.out (())))
noncomputable def strings_IndexRune_k3 (a0 : Str) (a1 : Int) (j23 : Int × Int) : Option (Step Int (Unit ⊕ Int)) :=
  (iter (strings_IndexRune_l4 a0 a1 j23) 1).bind fun b37 => some (.out (.inr ((w64 (j23.2 - j23.1)))))
noncomputable def strings_IndexRune_l2 (a0 : Str) (a1 : Int) (s17 : Int) : Option (Step Int (Unit ⊕ Int)) :=
  (bif decide (s17 < (a0.length : Int)) then (idx a0 s17).bind fun v24 => (idx ((runeS a1)) ((w64 ((((runeS a1)).length : Int) - 1)))).bind fun v26 => (bif ((v24.toNat : Int) != (v26.toNat : Int)) then (cut a0 ((w64 (s17 + 1))) ((a0.length : Int))).bind fun v29 => (idx ((runeS a1)) ((w64 ((((runeS a1)).length : Int) - 1)))).bind fun v31 => (strings_IndexByte v29 v31).bind fun v33 => (bif decide (v33 < 0) then some (.out (.inr ((-1)))) else (strings_IndexRune_k3 a0 a1 ((w64 ((((runeS a1)).length : Int) - 1)), (w64 (s17 + (w64 (v33 + 1))))))) else (strings_IndexRune_k3 a0 a1 ((w64 ((((runeS a1)).length : Int) - 1)), s17))) else some (.out (.inl (()))))
noncomputable def strings_IndexRune (a0 : Str) (a1 : Int) : Option Int :=
  ((bif decide (0 ≤ a1) then some (decide (a1 < 128)) else some false) : Option Bool).bind fun (j1 : Bool) => (bif j1 then (strings_IndexByte a0 ((toU8 a1))).bind fun v4 => some v4 else (bif (a1 == 65533) then (iter (strings_IndexRune_l1 a0) 0).bind (Sum.elim (fun b8 => some ((-1))) (fun b9 => some b9)) else (unicode_utf8_ValidRune a1).bind fun v14 => (bif (!v14) then some ((-1)) else (iter (strings_IndexRune_l2 a0 a1) ((w64 ((((runeS a1)).length : Int) - 1)))).bind (Sum.elim (fun b18 => some ((-1))) (fun b19 => some b19)))))
def strings_shouldUseASCIISet (a0 : Int) : Option Bool :=
  some (decide (8 < a0))
noncomputable def strings_IndexAnyP_l1 (a0 : Str) (a1 : Str) (s12 : Nat) : Option (Step Nat (Unit ⊕ Int)) :=
  (bif decide (s12 < a0.length) then (strings_IndexRune a1 ((runeAt a0 s12))).bind fun v18 => (bif decide (0 ≤ v18) then some (.out (.inr (((s12 : Nat) : Int)))) else some (.cont (s12 + wideAt a0 s12))) else some (.out (.inl (()))))
noncomputable def strings_IndexAnyP (a0 : Str) (a1 : Str) : Option Int :=
  (bif (a1 == ([] : Str)) then some ((-1)) else (bif ((a1.length : Int) == 1) then (idx a1 0).bind fun v3 => ((bif decide (128 ≤ (v3.toNat : Int)) then some 65533 else some ((v3.toNat : Int))) : Option Int).bind fun (j5 : Int) => (strings_IndexRune a0 j5).bind fun v7 => some v7 else (strings_shouldUseASCIISet ((a0.length : Int))).bind fun v9 => (bif v9 then none else (iter (strings_IndexAnyP_l1 a0 a1) 0).bind (Sum.elim (fun b13 => some ((-1))) (fun b14 => some b14)))))
end Go.Proofs.YtkoijpogjobgjaaDoor

/- Library functions as Lean functions. -/
namespace Go.Proofs.YtkoijpogjobgjaaDoor
open Go.RowKit
def asciiL (t : Str) : Bool := t.all fun c => decide (c.toNat < 128)
def strings_IndexAny (s t : Str) : Option Int := if s.length < 4294967281 ∧ t.length < 4294967281 ∧ 2 ≤ t.length ∧ asciiL t = true then some (Lib.indexAny s t) else none
end Go.Proofs.YtkoijpogjobgjaaDoor

/- Functions of the program as Lean functions: what they compute. Written by program. -/
namespace Go.Proofs.YtkoijpogjobgjaaDoor
open Go.RowKit
set_option maxRecDepth 100000
set_option maxHeartbeats 40000000
set_option linter.unusedVariables false
end Go.Proofs.YtkoijpogjobgjaaDoor

/- Functions of the program as Lean functions: what they compute. Written by program. -/
namespace Go.Proofs.YtkoijpogjobgjaaDoor
open Go.RowKit
set_option maxRecDepth 100000
set_option maxHeartbeats 40000000
set_option linter.unusedVariables false
end Go.Proofs.YtkoijpogjobgjaaDoor

/- Functions of the program as Lean functions: what they compute. Written by program. -/
namespace Go.Proofs.YtkoijpogjobgjaaDoor
open Go.RowKit
set_option maxRecDepth 100000
set_option maxHeartbeats 40000000
set_option linter.unusedVariables false
end Go.Proofs.YtkoijpogjobgjaaDoor

/- Functions of the program as Lean functions: what they compute. Written by program. -/
namespace Go.Proofs.YtkoijpogjobgjaaDoor
open Go.RowKit
set_option maxRecDepth 100000
set_option maxHeartbeats 40000000
set_option linter.unusedVariables false
end Go.Proofs.YtkoijpogjobgjaaDoor

/- Functions of the program as Lean functions: what they compute. Written by program. -/
namespace Go.Proofs.YtkoijpogjobgjaaDoor
open Go.RowKit
set_option maxRecDepth 100000
set_option maxHeartbeats 40000000
set_option linter.unusedVariables false
end Go.Proofs.YtkoijpogjobgjaaDoor

/- Functions of the program as Lean functions: what they compute. Written by program. -/
namespace Go.Proofs.YtkoijpogjobgjaaDoor
open Go.RowKit
set_option maxRecDepth 100000
set_option maxHeartbeats 40000000
set_option linter.unusedVariables false
end Go.Proofs.YtkoijpogjobgjaaDoor

/- Functions of the program as Lean functions: what they compute. Written by program. -/
namespace Go.Proofs.YtkoijpogjobgjaaDoor
open Go.RowKit
set_option maxRecDepth 100000
set_option maxHeartbeats 40000000
set_option linter.unusedVariables false
def strings_ContainsAny (a0 : Str) (a1 : Str) : Option Bool :=
  (strings_IndexAny a0 a1).bind fun v1 => some (decide (0 ≤ v1))
end Go.Proofs.YtkoijpogjobgjaaDoor

/- Functions of the program as Lean functions: what they compute. Written by program. -/
namespace Go.Proofs.YtkoijpogjobgjaaDoor
open Go.RowKit
set_option maxRecDepth 100000
set_option maxHeartbeats 40000000
set_option linter.unusedVariables false
end Go.Proofs.YtkoijpogjobgjaaDoor

/- Functions of the program as Lean functions: what they compute. Written by program. -/
namespace Go.Proofs.YtkoijpogjobgjaaDoor
open Go.RowKit
set_option maxRecDepth 100000
set_option maxHeartbeats 40000000
set_option linter.unusedVariables false
end Go.Proofs.YtkoijpogjobgjaaDoor

/- Functions of the program as Lean functions: what they compute. Written by program. -/
namespace Go.Proofs.YtkoijpogjobgjaaDoor
open Go.RowKit
set_option maxRecDepth 100000
set_option maxHeartbeats 40000000
set_option linter.unusedVariables false
end Go.Proofs.YtkoijpogjobgjaaDoor

/- Functions of the program as Lean functions: what they compute. Written by program. -/
namespace Go.Proofs.YtkoijpogjobgjaaDoor
open Go.RowKit
set_option maxRecDepth 100000
set_option maxHeartbeats 40000000
set_option linter.unusedVariables false
end Go.Proofs.YtkoijpogjobgjaaDoor

/- Functions of the program as Lean functions: what they compute. Written by program. -/
namespace Go.Proofs.YtkoijpogjobgjaaDoor
open Go.RowKit
set_option maxRecDepth 100000
set_option maxHeartbeats 40000000
set_option linter.unusedVariables false
end Go.Proofs.YtkoijpogjobgjaaDoor

/- Functions of the program as Lean functions: what they compute. Written by program. -/
namespace Go.Proofs.YtkoijpogjobgjaaDoor
open Go.RowKit
set_option maxRecDepth 100000
set_option maxHeartbeats 40000000
set_option linter.unusedVariables false
end Go.Proofs.YtkoijpogjobgjaaDoor

/- Numerals of the library as Lean functions. -/
namespace Go.Proofs.YtkoijpogjobgjaaDoor
open Go.RowKit
def strconv_Itoa (n : Int) : Option Str := if -9223372036854775808 ≤ n ∧ n ≤ 9223372036854775807 then some (Lib.itoa n) else none
def strconv_Atoi (s : Str) : Option (Int × Unit) := if s.length ≤ 18 then (Lib.atoi s).bind fun n => some (n, ()) else none
end Go.Proofs.YtkoijpogjobgjaaDoor

/- Functions of the program as Lean functions: what they compute. Written by program. -/
namespace Go.Proofs.YtkoijpogjobgjaaDoor
open Go.RowKit
set_option maxRecDepth 100000
set_option maxHeartbeats 40000000
set_option linter.unusedVariables false
def reply_code (a0 : Int) : Option Bool :=
  ((bif decide (200 ≤ a0) then some (decide (a0 ≤ 599)) else some false) : Option Bool).bind fun (j1 : Bool) => some j1
def reply_Validate_l1 (a0 : TReply) (s11 : Int) : Option (Step Int (Unit ⊕ TFault)) :=
  (bif decide (s11 < (a0.Lines.length : Int)) then (idx a0.Lines s11).bind fun v17 => (bif decide (500 < (v17.length : Int)) then (basic_Fault 1 s11).bind fun v20 => some (.out (.inr v20)) else (strings_ContainsAny v17 (([13, 10] : Str))).bind fun v22 => (bif v22 then (basic_Fault 5 s11).bind fun v25 => some (.out (.inr v25)) else some (.cont (w64 (s11 + 1))))) else some (.out (.inl (()))))
noncomputable def reply_Validate (a0 : TReply) : Option TFault :=
  (reply_code a0.Code).bind fun v1 => (bif (!v1) then (basic_Fault 3 ((-1))).bind fun v4 => some v4 else ((bif decide ((a0.Lines.length : Int) < 1) then some true else some (decide (20 < (a0.Lines.length : Int)))) : Option Bool).bind fun (j6 : Bool) => (bif j6 then (basic_Fault 2 ((-2))).bind fun v9 => some v9 else (iter (reply_Validate_l1 a0) 0).bind (Sum.elim (fun b12 => (basic_None).bind fun v27 => some v27) (fun b13 => some b13))))
noncomputable def reply_Print_l1 (a0 : TReply) (s6 : Int × (List Str)) : Option (Step (Int × (List Str)) (List Str)) :=
  (bif decide (s6.1 < (a0.Lines.length : Int)) then (idx a0.Lines s6.1).bind fun v10 => ((bif (s6.1 == (w64 ((a0.Lines.length : Int) - 1))) then some (([32] : Str)) else some (([45] : Str))) : Option Str).bind fun (j12 : Str) => (strconv_Itoa a0.Code).bind fun v14 => (cat v14 j12).bind fun v16 => (cat v16 v10).bind fun v18 => (app 8796093022208 s6.2 (([v18] : List Str))).bind fun v20 => some (.cont ((w64 (s6.1 + 1)), v20)) else some (.out s6.2))
noncomputable def reply_Print (a0 : TReply) : Option ((List Str) × TFault) :=
  (reply_Validate a0).bind fun v1 => (basic_Failed v1).bind fun v3 => (bif v3 then some (([], v1)) else (iter (reply_Print_l1 a0) ((0, ([] : List Str)))).bind fun b7 => (basic_None).bind fun v22 => some ((b7, v22)))
def basic_Digits_l1 (a0 : Str) (s1 : Int) : Option (Step Int (Unit ⊕ Bool)) :=
  (bif decide (s1 < (a0.length : Int)) then ((idx a0 s1).bind fun v8 => (bif decide ((v8.toNat : Int) < 48) then some true else (idx a0 s1).bind fun v11 => some (decide (57 < (v11.toNat : Int)))) : Option Bool).bind fun (j7 : Bool) => (bif j7 then some (.out (.inr false)) else some (.cont (w64 (s1 + 1)))) else some (.out (.inl (()))))
noncomputable def basic_Digits (a0 : Str) : Option Bool :=
  (iter (basic_Digits_l1 a0) 0).bind (Sum.elim (fun b2 => some ((a0 != ([] : Str)))) (fun b3 => some b3))
noncomputable def reply_read (a0 : Str) : Option (Int × Str × Bool × Bool) :=
  ((bif decide ((a0.length : Int) < 4) then some true else (idx a0 3).bind fun v3 => (bif ((v3.toNat : Int) != 45) then (idx a0 3).bind fun v6 => (bif ((v6.toNat : Int) != 32) then some true else (cut a0 0 3).bind fun v9 => (basic_Digits v9).bind fun v11 => (bif (!v11) then some true else (strings_ContainsAny a0 (([13, 10] : Str))).bind fun v14 => some v14)) else (cut a0 0 3).bind fun v16 => (basic_Digits v16).bind fun v18 => (bif (!v18) then some true else (strings_ContainsAny a0 (([13, 10] : Str))).bind fun v21 => some v21))) : Option Bool).bind fun (j1 : Bool) => (bif j1 then some ((0, ([] : Str), false, false)) else (cut a0 0 3).bind fun v24 => (strconv_Atoi v24).bind fun v26 => (cut a0 4 ((a0.length : Int))).bind fun v28 => (idx a0 3).bind fun v30 => (reply_code v26.1).bind fun v32 => some ((v26.1, v28, ((v30.toNat : Int) == 32), v32)))
noncomputable def reply_Parse_l1 (a0 : List Str) (s4 : Int × (List Str) × Int) : Option (Step (Int × (List Str) × Int) (Unit ⊕ (TReply × Int × TFault))) :=
  (bif decide (s4.1 < (a0.length : Int)) then (idx a0 s4.1).bind fun v10 => (reply_read v10).bind fun v12 => ((bif (s4.1 == 20) then some 2 else (bif (!v12.2.2.2) then some 11 else (bif decide (500 < (v12.2.1.length : Int)) then some 1 else ((bif decide (0 < s4.1) then some ((v12.1 != s4.2.2)) else some false) : Option Bool).bind fun (j18 : Bool) => (bif j18 then some 5 else some 0)))) : Option Int).bind fun (j14 : Int) => (bif (j14 != 0) then (basic_Fault j14 s4.1).bind fun v22 => some (.out (.inr (((TReply.mk 0 ([])), 0, v22)))) else (app 8796093022208 s4.2.1 (([v12.2.1] : List Str))).bind fun v24 => (bif v12.2.2.1 then (basic_None).bind fun v27 => some (.out (.inr (((TReply.mk v12.1 v24), (w64 (s4.1 + 1)), v27)))) else some (.cont ((w64 (s4.1 + 1)), v24, v12.1)))) else some (.out (.inl (()))))
noncomputable def reply_Parse (a0 : List Str) : Option (TReply × Int × TFault) :=
  (bif decide (300 < (a0.length : Int)) then (basic_Fault 2 ((-1))).bind fun v2 => some (((TReply.mk 0 ([])), 0, v2)) else (iter (reply_Parse_l1 a0) ((0, ([] : List Str), 0))).bind (Sum.elim (fun b5 => (basic_Fault 9 ((-2))).bind fun v29 => some (((TReply.mk 0 ([])), 0, v29))) (fun b6 => some ((b6.1, b6.2.1, b6.2.2)))))
noncomputable def reply_Class (a0 : TReply) : Option (Int × TFault) :=
  (reply_Validate a0).bind fun v1 => (basic_Failed v1).bind fun v3 => (bif v3 then some ((0, v1)) else (basic_None).bind fun v6 => some (((iQuo a0.Code 100), v6)))
noncomputable def R_SameReply (a0 : TReply) (a1 : TReply) : Option Bool :=
  ((bif (a0.Code == a1.Code) then (R_Strings a0.Lines a1.Lines).bind fun v3 => some v3 else some false) : Option Bool).bind fun (j1 : Bool) => some j1
noncomputable def L_replies  : Option Bool :=
  (reply_Print ((TReply.mk 250 (([([97] : Str), ([98] : Str)] : List Str))))).bind fun v1 => (reply_Parse (([([50, 53, 48, 45, 97] : Str), ([50, 53, 48, 32, 98] : Str), ([50, 50, 48, 32, 99] : Str)] : List Str))).bind fun v3 => (reply_Class ((TReply.mk 354 (([([] : Str)] : List Str))))).bind fun v5 => (reply_Parse (([([50, 53, 48, 45, 97] : Str)] : List Str))).bind fun v7 => ((bif (v1.2.Code == 0) then (bif (v3.2.2.Code == 0) then (bif (v5.2.Code == 0) then (R_At 9 ((-2))).bind fun v13 => (bif (allEq [(v7.2.2.Code == v13.Code), (v7.2.2.Index == v13.Index)]) then (R_Strings v1.1 (([([50, 53, 48, 45, 97] : Str), ([50, 53, 48, 32, 98] : Str)] : List Str))).bind fun v16 => (bif v16 then (R_SameReply v3.1 ((TReply.mk 250 (([([97] : Str), ([98] : Str)] : List Str))))).bind fun v19 => (bif v19 then (bif (v3.2.1 == 2) then some ((v5.1 == 3)) else some false) else some false) else some false) else some false) else some false) else some false) else some false) : Option Bool).bind fun (j9 : Bool) => some j9
def R_Digits_r0 (a0 : Int) : Option Str :=
  (bif decide (a0 < 10) then (cut (([48, 49, 50, 51, 52, 53, 54, 55, 56, 57] : Str)) a0 ((w64 (a0 + 1)))).bind fun v2 => some v2 else none)
def R_Digits_r1 (a0 : Int) : Option Str :=
  (bif decide (a0 < 10) then (cut (([48, 49, 50, 51, 52, 53, 54, 55, 56, 57] : Str)) a0 ((w64 (a0 + 1)))).bind fun v2 => some v2 else (R_Digits_r0 ((iQuo a0 10))).bind fun v4 => (R_Digits_r0 ((iRem a0 10))).bind fun v6 => (cat v4 v6).bind fun v8 => some v8)
def R_Digits_r2 (a0 : Int) : Option Str :=
  (bif decide (a0 < 10) then (cut (([48, 49, 50, 51, 52, 53, 54, 55, 56, 57] : Str)) a0 ((w64 (a0 + 1)))).bind fun v2 => some v2 else (R_Digits_r1 ((iQuo a0 10))).bind fun v4 => (R_Digits_r1 ((iRem a0 10))).bind fun v6 => (cat v4 v6).bind fun v8 => some v8)
def R_Digits (a0 : Int) : Option Str :=
  (bif decide (a0 < 10) then (cut (([48, 49, 50, 51, 52, 53, 54, 55, 56, 57] : Str)) a0 ((w64 (a0 + 1)))).bind fun v2 => some v2 else (R_Digits_r2 ((iQuo a0 10))).bind fun v4 => (R_Digits_r2 ((iRem a0 10))).bind fun v6 => (cat v4 v6).bind fun v8 => some v8)
noncomputable def L_ReplyRoundTrips (a0 : TReply) (a1 : List Str) : Option Bool :=
  (reply_Print a0).bind fun v1 => ((L_replies).bind fun v4 => (bif (!v4) then some true else (bif (v1.2.Code != 0) then some true else some (decide (100 < (a1.length : Int))))) : Option Bool).bind fun (j3 : Bool) => (bif j3 then ((L_replies).bind fun v10 => (bif v10 then (bif (v1.2.Code == 0) then some true else some (((v1.1.length : Int) == 0))) else some false) : Option Bool).bind fun (j9 : Bool) => some j9 else (bif ((v1.1.length : Int) == 0) then some false else (cut v1.1 0 ((w64 ((v1.1.length : Int) - 1)))).bind fun v15 => (reply_Parse v15).bind fun v17 => (app 8796093022208 (([] : List Str)) v1.1).bind fun v19 => (app 8796093022208 v19 a1).bind fun v21 => (reply_Parse v21).bind fun v23 => ((R_At 9 ((-2))).bind fun v26 => (bif (allEq [(v17.2.2.Code == v26.Code), (v17.2.2.Index == v26.Index)]) then (bif (v23.2.2.Code == 0) then (bif (v23.2.1 == (v1.1.length : Int)) then (R_SameReply v23.1 a0).bind fun v31 => some v31 else some false) else some false) else some false) : Option Bool).bind fun (j25 : Bool) => some j25))
end Go.Proofs.YtkoijpogjobgjaaDoor

/- Plain lemmas on the operations of typed functions: no program is named. -/
namespace Go.Proofs.YtkoijpogjobgjaaDoor
open Go.RowKit

theorem w64_n (a : Nat) (h : a ≤ 9223372036854775807) : w64 (a : Int) = (a : Int) := w64_id (by omega) (by omega)

theorem u8_eq (c : UInt8) (k : Nat) (hk : OfNat.ofNat k < 256) : ((c.toNat : Int) == no_index (OfNat.ofNat k : Int)) = (c == OfNat.ofNat k) := by
  have e : (OfNat.ofNat k : Int) = ((OfNat.ofNat k : Nat) : Int) := rfl
  have h2 : (OfNat.ofNat k : UInt8).toNat = (OfNat.ofNat k : Nat) := by
    show (UInt8.ofNat k).toNat = k
    rw [UInt8.toNat_ofNat']; exact Nat.mod_eq_of_lt hk
  rw [Bool.eq_iff_iff, beq_iff_eq, beq_iff_eq, ← UInt8.toNat_inj, h2, e]
  omega
theorem u8_ne (c : UInt8) (k : Nat) (hk : OfNat.ofNat k < 256) : ((c.toNat : Int) != no_index (OfNat.ofNat k : Int)) = (c != OfNat.ofNat k) := by
  unfold bne; rw [u8_eq c k hk]
section
variable {α : Type}
theorem idx_nat (l : List α) (i : Nat) : idx l (i : Int) = l[i]? := by unfold idx; rw [if_pos (by omega)]; simp
theorem idx_lt {l : List α} {i : Nat} (h : i < l.length) : idx l (i : Int) = some l[i] := by rw [idx_nat]; exact List.getElem?_eq_getElem h
theorem cut_nn {l : List α} {a b : Nat} (h1 : a ≤ b) (h2 : b ≤ l.length) : cut l (a : Int) (b : Int) = some ((l.drop a).take (b - a)) := by
  unfold cut; rw [if_pos (by omega)]; simp
theorem cut_nl {l : List α} {a : Nat} (h1 : a ≤ l.length) : cut l (a : Int) (l.length : Int) = some (l.drop a) := by
  rw [cut_nn h1 (Nat.le_refl _)]; rw [List.take_of_length_le (by simp)]
theorem cut_0n {l : List α} {b : Nat} (h2 : b ≤ l.length) : cut l 0 (b : Int) = some (l.take b) := by
  have := cut_nn (l := l) (a := 0) (b := b) (by omega) h2
  simpa using this
theorem app_ok {lim : Nat} {l xs : List α} (h : l.length + xs.length ≤ lim) : app lim l xs = some (l ++ xs) := by unfold app; rw [if_pos h]
theorem cat_ok {a b : Str} (h : a.length + b.length ≤ 9223372036854775807) : cat a b = some (a ++ b) := by unfold cat; rw [if_pos h]
end

section
variable {A R : Type} {body : A → Option (Step A R)}
/-- a loop that ends, by an invariant and a measure -/
theorem iter_rec (Inv : A → Prop) (m : A → Nat) (Post : A → R → Prop)
    (h : ∀ s, Inv s → (∃ r, body s = some (.out r) ∧ Post s r) ∨ ∃ s', body s = some (.cont s') ∧ Inv s' ∧ m s' < m s ∧ ∀ r, Post s' r → Post s r) :
    ∀ s, Inv s → ∃ r, iter body s = some r ∧ Post s r := by
  intro s
  induction hn : m s using Nat.strongRecOn generalizing s with
  | _ n ih =>
    intro hi
    rcases h s hi with ⟨r, h1, h2⟩ | ⟨s', h1, h2, h3, h4⟩
    · exact ⟨r, iter_out h1, h2⟩
    · obtain ⟨r, h5, h6⟩ := ih (m s') (by omega) s' rfl h2
      exact ⟨r, (iter_cont h1).trans h5, h4 r h6⟩
/-- the same, with an invariant -/
theorem iter_listI {α S : Type} (l : List α) (enc : Nat → S → A) (spec : Nat → List α → S → R) (Inv : Nat → List α → S → Prop)
    (h0 : ∀ s, Inv l.length [] s → body (enc l.length s) = some (.out (spec l.length [] s)))
    (h1 : ∀ p x r s, l = p ++ x :: r → Inv p.length (x :: r) s → (body (enc p.length s) = some (.out (spec p.length (x :: r) s))) ∨ ∃ s', body (enc p.length s) = some (.cont (enc (p.length + 1) s')) ∧ spec p.length (x :: r) s = spec (p.length + 1) r s' ∧ Inv (p.length + 1) r s') :
    ∀ {s0 : A} (s : S) (_ : s0 = enc 0 s) (_ : Inv 0 l s), iter body s0 = some (spec 0 l s) := by
  have key : ∀ r p s, l = p ++ r → Inv p.length r s → iter body (enc p.length s) = some (spec p.length r s) := by
    intro r
    induction r with
    | nil =>
      intro p s h hi
      have : p = l := by simp [h]
      subst this
      exact iter_out (h0 s hi)
    | cons x r ih =>
      intro p s h hi
      rcases h1 p x r s h hi with hb | ⟨s', hb, hs, hi'⟩
      · exact iter_out hb
      · rw [iter_cont hb, hs]
        have := ih (p ++ [x]) s' (by simp [h]) (by simpa using hi')
        simpa using this
  rintro _ s rfl hi
  exact key l [] s rfl hi
end
end Go.Proofs.YtkoijpogjobgjaaDoor

/- Plain lemmas on loops of typed functions: first hits, folds. No program is named. -/
namespace Go.Proofs.YtkoijpogjobgjaaDoor
open Go.RowKit
section
variable {α R O A S : Type}
/-- the first hit, with its number -/
def firstI (q : Nat → α → Option R) : Nat → List α → Option R
  | _, [] => none
  | i, x :: r => match q i x with | some y => some y | none => firstI q (i + 1) r
theorem iter_first (l : List α) (q : Nat → α → Option R) (oN : O) (oS : R → O) {body : Int → Option (Step Int O)} (hl : body (l.length : Int) = some (.out oN))
    (hs : ∀ (i : Nat) x, l[i]? = some x → body (i : Int) = some ((q i x).elim (.cont ((i + 1 : Nat) : Int)) fun r => .out (oS r))) :
    iter body 0 = some ((firstI q 0 l).elim oN oS) := by
  have key : ∀ r p, l = p ++ r → iter body (p.length : Int) = some ((firstI q p.length r).elim oN oS) := by
    intro r
    induction r with
    | nil => intro p h; have : p = l := by simp [h]
             subst this; exact iter_out hl
    | cons x r ih =>
      intro p h
      have hx := hs p.length x (by simp [h])
      unfold firstI
      cases hq : q p.length x with
      | some y => rw [hq] at hx; exact iter_out hx
      | none =>
        rw [hq] at hx
        rw [iter_cont hx]
        have := ih (p ++ [x]) (by simp [h])
        simpa using this
  exact key l [] rfl
theorem firstI_any (c : α → Bool) (r : R) (l : List α) (n : Nat) : firstI (fun _ x => if c x then some r else none) n l = if l.any c then some r else none := by
  induction l generalizing n with
  | nil => rfl
  | cons x l ih => unfold firstI; cases h : c x <;> simp [h, ih]
theorem firstI_none {q : Nat → α → Option R} {l : List α} {n : Nat} : firstI q n l = none ↔ ∀ (i : Nat) x, l[i]? = some x → q (n + i) x = none := by
  induction l generalizing n with
  | nil => simp [firstI]
  | cons x l ih =>
    unfold firstI
    cases h : q n x with
    | some y =>
      simp only [reduceCtorEq, false_iff]
      intro hh
      have := hh 0 x rfl
      rw [Nat.add_zero, h] at this; cases this
    | none =>
      rw [ih]
      constructor
      · intro hh i y hy
        cases i with
        | zero => simp at hy; subst hy; exact h
        | succ i => rw [show n + (i + 1) = n + 1 + i by omega]; exact hh i y (by simpa using hy)
      · intro hh i y hy
        rw [show n + 1 + i = n + (i + 1) by omega]; exact hh (i + 1) y (by simpa using hy)
theorem firstI_some {q : Nat → α → Option R} {l : List α} {n : Nat} {r : R} (h : firstI q n l = some r) : ∃ (i : Nat) (x : α), l[i]? = some x ∧ q (n + i) x = some r := by
  induction l generalizing n with
  | nil => cases h
  | cons x l ih =>
    unfold firstI at h
    cases hq : q n x with
    | some y => rw [hq] at h; cases h; exact ⟨0, x, rfl, hq⟩
    | none =>
      rw [hq] at h
      obtain ⟨i, y, h1, h2⟩ := ih h
      exact ⟨i + 1, y, by simpa using h1, by rw [show n + (i + 1) = n + 1 + i by omega]; exact h2⟩
theorem lt_get {l : List α} {i : Nat} {x : α} (h : l[i]? = some x) : i < l.length := (List.getElem?_eq_some_iff.1 h).1
theorem dec_lt {l : List α} {i : Nat} {x : α} (h : l[i]? = some x) : decide ((i : Int) < (l.length : Int)) = true := by have := lt_get h; simp; omega
theorem dec_len (l : List α) : decide ((l.length : Int) < (l.length : Int)) = false := by simp
theorem idx_get {l : List α} {i : Nat} {x : α} (h : l[i]? = some x) : idx l (i : Int) = some x := by rw [idx_nat]; exact h
end
end Go.Proofs.YtkoijpogjobgjaaDoor

/- strings.IndexAny on a short text: plain. -/
namespace Go.Proofs.YtkoijpogjobgjaaDoor
open Go.RowKit
set_option linter.unusedVariables false
theorem strB_get (s : Str) (i : Nat) (h : i < s.length) : (strB s)[i]'(by rw [strB_size]; exact h) = s[i] := rfl
theorem strB_get! (s : Str) (i : Nat) (h : i < s.length) : (strB s).get! i = s[i] := by
  have := get_at (strB s) i (by rw [strB_size]; exact h)
  rw [Nat.add_zero] at this
  rw [this]; rfl
theorem rune_ascii {s : Str} {i : Nat} {c : UInt8} (h : s[i]? = some c) (hc : c.toNat < 128) : runeAt s i = (c.toNat : Int) ∧ wideAt s i = 1 := by
  have hi := lt_get h
  have e : s[i] = c := by rw [List.getElem?_eq_getElem hi] at h; exact Option.some.inj h
  have hd := decode_ascii (strB s) i (by rw [strB_size]; exact hi) (by rw [strB_get s i hi, e]; exact hc)
  unfold runeAt wideAt
  rw [hd, strB_get s i hi, e]
  exact ⟨rfl, rfl⟩
theorem rune_high {s : Str} {i : Nat} {c : UInt8} (h : s[i]? = some c) (hc : 128 ≤ c.toNat) : 128 ≤ runeAt s i ∧ runeAt s i ≤ 2147483647 ∧ 1 ≤ wideAt s i := by
  have hi := lt_get h
  have e : s[i] = c := by rw [List.getElem?_eq_getElem hi] at h; exact Option.some.inj h
  have hd := decode_high (strB s) i (by rw [strB_size]; exact hi) (by rw [strB_get s i hi, e]; exact hc)
  have hl := decode_le (strB s) i
  unfold runeAt wideAt
  exact ⟨by omega, by omega, hd.2⟩
theorem decode_cont (s : ByteArray) (pos : Nat) : ∀ k, 1 ≤ k → k < (Utf8.decode s pos).2 → (s.get! (pos + k)).toNat / 64 = 2 := by
  intro k h1 h2
  simp only [Utf8.decode] at h2
  repeat' split at h2
  all_goals first
    | (exfalso; simp at h2; omega)
    | (rename_i hq _
       simp only [Bool.and_eq_true, decide_eq_true_eq, beq_iff_eq] at hq
       have h2 : k < 2 := h2
       obtain rfl : k = 1 := by omega
       exact hq.2.2)
    | (rename_i hq _
       simp only [Bool.and_eq_true, decide_eq_true_eq, beq_iff_eq] at hq
       have h2 : k < 3 := h2
       have : k = 1 ∨ k = 2 := by omega
       rcases this with rfl | rfl
       · exact hq.1.2.2
       · exact hq.2.2)
    | (rename_i hq _
       simp only [Bool.and_eq_true, decide_eq_true_eq, beq_iff_eq] at hq
       have h2 : k < 4 := h2
       have : k = 1 ∨ k = 2 ∨ k = 3 := by omega
       rcases this with rfl | rfl | rfl
       · exact hq.1.1.2.2
       · exact hq.1.2.2
       · exact hq.2.2)
theorem rune_cont {s : Str} {i j : Nat} {c d : UInt8} (h : s[i]? = some c) (hc : 128 ≤ c.toNat) (h1 : i ≤ j) (h2 : j < i + wideAt s i) (hj : s[j]? = some d) : 128 ≤ d.toNat := by
  by_cases e : j = i
  · subst e; rw [h] at hj; cases hj; exact hc
  · have hjl := lt_get hj
    have e2 : s[j] = d := by rw [List.getElem?_eq_getElem hjl] at hj; exact Option.some.inj hj
    have := decode_cont (strB s) i (j - i) (by omega) (by unfold wideAt at h2; omega)
    rw [show i + (j - i) = j by omega, strB_get! s j hjl, e2] at this
    omega
theorem toU8_nat (c : UInt8) : toU8 (c.toNat : Int) = c := by
  unfold toU8
  have := c.toNat_lt
  rw [show ((c.toNat : Int) % 256).toNat = c.toNat by omega]
  simp
theorem asciiL_mem {t : Str} (h : asciiL t = true) {c : UInt8} (hc : c ∈ t) : c.toNat < 128 := by
  unfold asciiL at h
  rw [List.all_eq_true] at h
  simpa using h c hc
/-- a rune beyond ASCII ends with a byte beyond ASCII, and is of two bytes at least -/
theorem runeS_last {r : Int} (h : 128 ≤ r) : ∃ m x, 1 ≤ m ∧ m ≤ 3 ∧ (runeS r).length = m + 1 ∧ (runeS r)[m]? = some x ∧ 128 ≤ x.toNat := by
  unfold runeS
  simp only [Utf8.encode]
  have hc : 128 ≤ (if Utf8.valid r = true then r.toNat else Utf8.runeError) := by
    split
    · omega
    · decide
  generalize (if Utf8.valid r = true then r.toNat else Utf8.runeError) = c at hc
  have hb : ∀ n : Nat, 128 ≤ (UInt8.ofNat (128 + n % 64)).toNat := by
    intro n
    rw [UInt8.toNat_ofNat']
    have : (128 + n % 64) % 2 ^ 8 = 128 + n % 64 := Nat.mod_eq_of_lt (by omega)
    rw [this]; omega
  rw [if_neg (by omega)]
  split
  · exact ⟨1, _, by omega, by omega, rfl, rfl, hb c⟩
  · split
    · exact ⟨2, _, by omega, by omega, rfl, rfl, hb c⟩
    · exact ⟨3, _, by omega, by omega, rfl, rfl, hb c⟩
theorem indexByte_high {t : Str} (h : ∀ c ∈ t, c.toNat < 128) {x : UInt8} (hx : 128 ≤ x.toNat) : Lib.indexByte t x = -1 := by
  have hc := Lib.contains_iff_indexByte t x
  have hn : t.contains x = false := by
    rw [Bool.eq_false_iff]
    intro hm
    have := h x (by simpa using hm)
    omega
  rw [hn] at hc
  have hge := Lib.indexByte_ge t x
  have := of_decide_eq_false hc.symm
  omega
theorem IndexRune_ascii (t : Str) (c : UInt8) (hc : c.toNat < 128) : strings_IndexRune t (c.toNat : Int) = some (Lib.indexByte t c) := by
  unfold strings_IndexRune
  have h1 : decide ((0 : Int) ≤ (c.toNat : Int)) = true := by simp
  have h2 : decide ((c.toNat : Int) < 128) = true := by simp; omega
  rw [h1, h2]
  simp only [cond_true, Option.bind_some, toU8_nat]
  rfl
theorem IndexRune_high (t : Str) (r : Int) (hr : 128 ≤ r) (ht : ∀ c ∈ t, c.toNat < 128) (hl : t.length ≤ 4294967281) : strings_IndexRune t r = some (-1) := by
  unfold strings_IndexRune
  have h1 : decide ((0 : Int) ≤ r) = true := by simp; omega
  have h2 : decide (r < 128) = false := by simp; omega
  rw [h1, h2]
  simp only [cond_true, cond_false, Option.bind_some]
  cases hq : r == 65533 with
  | true =>
    simp only [cond_true]
    obtain ⟨o, ho, rfl⟩ := iter_rec (body := strings_IndexRune_l1 t) (fun i => i ≤ t.length) (fun i => t.length - i) (fun _ o => o = .inl ()) (fun i hi => by
      unfold strings_IndexRune_l1
      by_cases hlt : i < t.length
      · right
        have hg : t[i]? = some t[i] := List.getElem?_eq_getElem hlt
        have hc := ht t[i] (List.getElem_mem hlt)
        obtain ⟨e1, e2⟩ := rune_ascii hg hc
        rw [e1, e2, decide_eq_true hlt]
        have hne : ((t[i].toNat : Int) == 65533) = false := by rw [beq_eq_false_iff_ne]; omega
        rw [hne]
        exact ⟨i + 1, rfl, by omega, by omega, fun _ h => h⟩
      · left
        rw [decide_eq_false hlt]
        exact ⟨.inl (), rfl, rfl⟩) 0 (Nat.zero_le _)
    rw [ho]; rfl
  | false =>
    simp only [cond_false]
    have hv : ∃ b, unicode_utf8_ValidRune r = some b := by
      unfold unicode_utf8_ValidRune
      cases decide (0 ≤ r) <;> cases decide (r < 55296) <;> cases decide (57343 < r) <;> cases decide (r ≤ 1114111) <;> exact ⟨_, rfl⟩
    obtain ⟨b, hb⟩ := hv
    rw [hb]
    simp only [Option.bind_some]
    cases b with
    | false => rfl
    | true =>
      simp only [Bool.not_true, cond_false]
      obtain ⟨m, x, hm1, hm3, hlen, hx, hx128⟩ := runeS_last hr
      have hst : w64 (((runeS r).length : Int) - 1) = (m : Int) := by rw [hlen, w64_id (by omega) (by omega)]; omega
      rw [hst]
      have hbody : ∃ o, strings_IndexRune_l2 t r (m : Int) = some (.out o) ∧ (o = .inl () ∨ o = .inr (-1)) := by
        unfold strings_IndexRune_l2
        by_cases hlt : m < t.length
        · have hd : decide ((m : Int) < (t.length : Int)) = true := by simp; omega
          have hc := ht t[m] (List.getElem_mem hlt)
          rw [hd, hst, idx_lt hlt, idx_get hx]
          have hne : ((t[m].toNat : Int) != (x.toNat : Int)) = true := by simp; omega
          simp only [cond_true, Option.bind_some, hne]
          rw [show (m : Int) + 1 = ((m + 1 : Nat) : Int) by omega, w64_n _ (by omega), cut_nl (by omega)]
          simp only [Option.bind_some]
          have hib : strings_IndexByte (t.drop (m + 1)) x = some (-1) := by
            show some (Lib.indexByte (t.drop (m + 1)) x) = _
            rw [indexByte_high (fun c hc => ht c (List.mem_of_mem_drop hc)) hx128]
          rw [hib]
          exact ⟨.inr (-1), rfl, .inr rfl⟩
        · have hd : decide ((m : Int) < (t.length : Int)) = false := by simp; omega
          rw [hd]
          exact ⟨.inl (), rfl, .inl rfl⟩
      obtain ⟨o, ho, ho2⟩ := hbody
      rw [iter_out ho]
      rcases ho2 with rfl | rfl <;> rfl
theorem IndexAnyP_eq (s t : Str) (h8 : s.length ≤ 8) (h2 : 2 ≤ t.length) (hl : t.length < 4294967281) (ht : asciiL t = true) : strings_IndexAnyP s t = some (Lib.indexAny s t) := by
  have htc : ∀ c ∈ t, c.toNat < 128 := fun c hc => asciiL_mem ht hc
  unfold strings_IndexAnyP
  have e1 : (t == ([] : Str)) = false := by rw [beq_eq_false_iff_ne]; rintro rfl; simp at h2
  have e2 : ((t.length : Int) == 1) = false := by rw [beq_eq_false_iff_ne]; omega
  have e3 : strings_shouldUseASCIISet (s.length : Int) = some false := by unfold strings_shouldUseASCIISet; simp; omega
  rw [e1, e2, e3]
  simp only [cond_false, Option.bind_some]
  obtain ⟨o, ho, ho2⟩ := iter_rec (body := strings_IndexAnyP_l1 s t) (fun i => Lib.NoAny s t i) (fun i => s.length - i) (fun _ o => Sum.elim (fun _ => some (-1)) (fun b => some b) o = some (Lib.indexAny s t)) (fun i hi => by
    unfold strings_IndexAnyP_l1
    by_cases hlt : i < s.length
    · have hg : s[i]? = some s[i] := List.getElem?_eq_getElem hlt
      rw [decide_eq_true hlt]
      simp only [cond_true]
      by_cases hc : s[i].toNat < 128
      · obtain ⟨q1, q2⟩ := rune_ascii hg hc
        rw [q1, q2, IndexRune_ascii t _ hc]
        simp only [Option.bind_some]
        have hcon := Lib.contains_iff_indexByte t s[i]
        rw [← hcon]
        cases hin : t.contains s[i] with
        | true =>
          left
          exact ⟨.inr (i : Int), rfl, by rw [Lib.indexAny_hit hi hg hin]; rfl⟩
        | false =>
          right
          exact ⟨i + 1, rfl, hi.succ hg hin, by omega, fun _ h => h⟩
      · have hc : 128 ≤ s[i].toNat := by omega
        obtain ⟨q1, q2, q3⟩ := rune_high hg hc
        rw [IndexRune_high t _ q1 htc (by omega)]
        right
        refine ⟨i + wideAt s i, rfl, fun j b hj hb => ?_, by omega, fun _ h => h⟩
        by_cases hji : j < i
        · exact hi j b hji hb
        · have := rune_cont hg hc (by omega) hj hb
          rw [Bool.eq_false_iff]
          intro hm
          have := htc b (by simpa using hm)
          omega
    · left
      rw [decide_eq_false hlt]
      refine ⟨.inl (), rfl, ?_⟩
      have hn : Lib.NoAny s t s.length := fun j b hj hb => hi j b (by omega) hb
      rw [Lib.indexAny_none hn]; rfl) 0 (Lib.NoAny.zero s t)
  rw [ho]; exact ho2
end Go.Proofs.YtkoijpogjobgjaaDoor

/- Domains and addresses: the plain functions, and what the typed functions compute. -/
namespace Go.Proofs.YtkoijpogjobgjaaDoor
open Go.RowKit
set_option linter.unusedVariables false
set_option maxHeartbeats 1000000

theorem u8_le1 (k : Nat) (c : UInt8) (hk : OfNat.ofNat k < 256) : decide ((no_index (OfNat.ofNat k : Int)) ≤ (c.toNat : Int)) = decide ((OfNat.ofNat k : UInt8) ≤ c) := by
  have e : (OfNat.ofNat k : Int) = ((OfNat.ofNat k : Nat) : Int) := rfl
  have h2 : (OfNat.ofNat k : UInt8).toNat = (OfNat.ofNat k : Nat) := by
    show (UInt8.ofNat k).toNat = k
    rw [UInt8.toNat_ofNat']; exact Nat.mod_eq_of_lt hk
  rw [Bool.eq_iff_iff, decide_eq_true_eq, decide_eq_true_eq, UInt8.le_iff_toNat_le, h2, e]; omega
theorem u8_le2 (k : Nat) (c : UInt8) (hk : OfNat.ofNat k < 256) : decide ((c.toNat : Int) ≤ (no_index (OfNat.ofNat k : Int))) = decide (c ≤ (OfNat.ofNat k : UInt8)) := by
  have e : (OfNat.ofNat k : Int) = ((OfNat.ofNat k : Nat) : Int) := rfl
  have h2 : (OfNat.ofNat k : UInt8).toNat = (OfNat.ofNat k : Nat) := by
    show (UInt8.ofNat k).toNat = k
    rw [UInt8.toNat_ofNat']; exact Nat.mod_eq_of_lt hk
  rw [Bool.eq_iff_iff, decide_eq_true_eq, decide_eq_true_eq, UInt8.le_iff_toNat_le, h2, e]; omega

/-! ### the reference's domains -/
/-! ### the reference's addresses -/
/-! ### the program's domains and addresses -/
/-! ### small things -/
theorem R_Strings_eq (a b : List Str) (ha : a.length ≤ 9223372036854775806) : R_Strings a b = some (a == b) := by
  unfold R_Strings
  by_cases hlen : a.length = b.length
  · have h1 : ((a.length : Int) != (b.length : Int)) = false := by rw [hlen]; simp
    rw [h1]
    simp only [cond_false]
    rw [iter_first a (fun i x => if b[i]? != some x then some false else none) (.inl ()) .inr]
    · simp only [Option.bind_some]
      cases hf : firstI (fun i x => if b[i]? != some x then some false else none) 0 a with
      | none =>
        rw [firstI_none] at hf
        have : a = b := by
          apply List.ext_getElem?
          intro i
          by_cases hi : i < a.length
          · have := hf i a[i] (List.getElem?_eq_getElem hi)
            rw [Nat.zero_add] at this
            rw [List.getElem?_eq_getElem hi]
            simp at this; exact this.symm
          · rw [List.getElem?_eq_none (by omega), List.getElem?_eq_none (by omega)]
        subst this; simp
      | some r =>
        obtain ⟨i, x, hx, hq⟩ := firstI_some hf
        rw [Nat.zero_add] at hq
        split at hq
        · cases hq
          rename_i hne
          have : (a == b) = false := by
            rw [beq_eq_false_iff_ne]
            rintro rfl
            rw [hx] at hne; simp at hne
          rw [this]; rfl
        · cases hq
    · unfold R_Strings_l1; rw [dec_len]; rfl
    · intro i x hx
      have hi := lt_get hx
      unfold R_Strings_l1
      have hib : i < b.length := by omega
      rw [dec_lt hx, idx_get hx, idx_lt hib, List.getElem?_eq_getElem hib]
      simp only [cond_true, Option.bind_some]
      rw [show ((i : Int) + 1) = ((i + 1 : Nat) : Int) by omega, w64_n _ (by omega)]
      by_cases hxb : x = b[i]
      · subst hxb; simp
      · have e1 : (x != b[i]) = true := by simpa using hxb
        have e2 : (some b[i] != some x) = true := by simp; exact fun h => hxb h.symm
        rw [e1, e2]; rfl
  · have h1 : ((a.length : Int) != (b.length : Int)) = true := by simp; omega
    rw [h1]
    simp only [cond_true]
    have : (a == b) = false := by rw [beq_eq_false_iff_ne]; rintro rfl; exact hlen rfl
    rw [this]
end Go.Proofs.YtkoijpogjobgjaaDoor

/- Plain lemmas: bulk, counters, copying down in a list. No program is named. -/
namespace Go.Proofs.YtkoijpogjobgjaaDoor
open Go.RowKit
theorem sc (i : Nat) (h : i < 9223372036854775807) : w64 ((i : Int) + 1) = ((i + 1 : Nat) : Int) := by rw [show ((i : Int) + 1) = ((i + 1 : Nat) : Int) by omega, w64_n _ (by omega)]

theorem bkL_pos {T : Type} (bk : T → Nat) (l : List T) : 1 ≤ bkL bk l := by
  induction l with
  | nil => simp [bkL]
  | cons y l ih => unfold bkL; omega
theorem bkL_mem {T : Type} {bk : T → Nat} {l : List T} {x : T} (h : x ∈ l) : bk x + 1 ≤ bkL bk l := by
  induction l with
  | nil => cases h
  | cons y l ih =>
    unfold bkL
    have hp := bkL_pos bk l
    rcases List.mem_cons.1 h with rfl | h
    · omega
    · have := ih h; omega
theorem bkL_len {T : Type} {bk : T → Nat} (hb : ∀ x, 1 ≤ bk x) (l : List T) : l.length + 1 ≤ bkL bk l := by
  induction l with
  | nil => simp [bkL]
  | cons y l ih => unfold bkL; have := hb y; simp; omega

section
variable {α : Type}
end
section
variable {α A S O : Type}
end
end Go.Proofs.YtkoijpogjobgjaaDoor

/- Small laws on faults and first hits. -/
namespace Go.Proofs.YtkoijpogjobgjaaDoor
open Go.RowKit
set_option linter.unusedVariables false
theorem not_all {α : Type} (l : List α) (p : α → Bool) : l.any (fun x => !p x) = !l.all p := by simp [List.not_all_eq_any_not]
theorem R_At_eq (a b : Int) : R_At a b = some ⟨a, b⟩ := rfl
theorem basic_Fault_eq (a b : Int) : basic_Fault a b = some ⟨a, b⟩ := rfl
theorem basic_None_eq : basic_None = some ⟨0, 0⟩ := rfl
theorem basic_Failed_eq (f : TFault) : basic_Failed f = some (f.Code != 0) := rfl
theorem elim_fault (o : Option TFault) (f : TFault) : Sum.elim (fun _ => some f) (fun b => some b) (o.elim (Sum.inl ()) Sum.inr : Unit ⊕ TFault) = some (o.getD f) := by cases o <;> rfl
end Go.Proofs.YtkoijpogjobgjaaDoor

/- strings.ContainsAny. -/
namespace Go.Proofs.YtkoijpogjobgjaaDoor
open Go.RowKit
set_option linter.unusedVariables false
theorem indexAny_any (t : Str) : ∀ s : Str, decide (0 ≤ Lib.indexAny s t) = s.any fun c => t.contains c := by
  intro s
  induction s with
  | nil => rfl
  | cons c s ih =>
    have hge := Lib.indexAny_ge t s
    rw [List.any_cons, ← ih, Lib.indexAny]
    cases t.contains c with
    | true => simp
    | false =>
      simp only [Bool.false_eq_true, if_false, Bool.false_or]
      by_cases h : Lib.indexAny s t = -1
      · simp [h]
      · have : (Lib.indexAny s t == -1) = false := by simpa using h
        rw [this]
        simp only [Bool.false_eq_true, if_false]
        rw [Bool.eq_iff_iff]; simp; omega
theorem strings_ContainsAny_eq (s t : Str) (hs : s.length ≤ 1048576) (h2 : 2 ≤ t.length) (hl : t.length ≤ 1048576) (ht : asciiL t = true) : strings_ContainsAny s t = some (s.any fun c => t.contains c) := by
  unfold strings_ContainsAny strings_IndexAny
  rw [if_pos ⟨by omega, by omega, h2, ht⟩]
  simp only [Option.bind_some, indexAny_any]
end Go.Proofs.YtkoijpogjobgjaaDoor

/- Replies: the plain functions, and what the typed functions of the program compute. -/
namespace Go.Proofs.YtkoijpogjobgjaaDoor
open Go.RowKit
set_option linter.unusedVariables false
set_option maxHeartbeats 1000000

def rlnC (c : UInt8) : Bool := c == 13 || c == 10
def digC (c : UInt8) : Bool := decide (48 ≤ c) && decide (c ≤ 57)
def smLn (l : List Str) : Prop := l.length ≤ 1048576 ∧ ∀ s ∈ l, s.length ≤ 1048576
theorem smLn_of {l : List Str} (h : bkL (fun s : Str => s.length + 1) l ≤ 1048576) : smLn l := by
  have h1 := bkL_len (bk := fun s : Str => s.length + 1) (fun x => by omega) l
  refine ⟨by omega, fun s hs => ?_⟩
  have h3 : s.length + 1 + 1 ≤ bkL (fun s : Str => s.length + 1) l := bkL_mem (bk := fun s : Str => s.length + 1) hs
  omega
theorem ends2_eq (s : Str) (hs : s.length ≤ 1048576) : strings_ContainsAny s [13, 10] = some (s.any rlnC) := by
  rw [strings_ContainsAny_eq s _ hs (by decide) (by decide) (by decide)]
  simp only [Option.some.injEq]
  congr 1
  funext c
  rw [Bool.eq_iff_iff]
  simp [rlnC]
theorem lt48 (c : UInt8) : decide ((c.toNat : Int) < 48) = !decide ((48 : UInt8) ≤ c) := by
  rw [← u8_le1 48 c (by decide), Bool.eq_iff_iff]; simp
theorem gt57 (c : UInt8) : decide ((57 : Int) < (c.toNat : Int)) = !decide (c ≤ (57 : UInt8)) := by
  rw [← u8_le2 57 c (by decide), Bool.eq_iff_iff]; simp
theorem basic_Digits_eq (s : Str) (hs : s.length ≤ 1048576) : basic_Digits s = some (s.all digC && s != ([] : Str)) := by
  unfold basic_Digits
  rw [iter_first s (fun _ c => if !digC c then some false else none) (.inl ()) .inr, firstI_any, not_all]
  · cases s.all digC <;> rfl
  · unfold basic_Digits_l1; rw [dec_len]; rfl
  · intro i c hc
    have hi := lt_get hc
    unfold basic_Digits_l1
    rw [dec_lt hc, idx_get hc]
    simp only [cond_true, Option.bind_some, lt48, gt57, sc i (by omega)]
    unfold digC
    cases decide ((48 : UInt8) ≤ c) <;> cases decide (c ≤ (57 : UInt8)) <;> rfl

/-! ### numerals of three digits -/
def num3 (a b c : UInt8) : Nat := ((a.toNat - 48) * 10 + (b.toNat - 48)) * 10 + (c.toNat - 48)
theorem digC_iff {c : UInt8} : digC c = true ↔ 48 ≤ c.toNat ∧ c.toNat ≤ 57 := by
  unfold digC
  rw [Bool.and_eq_true, decide_eq_true_eq, decide_eq_true_eq, UInt8.le_iff_toNat_le, UInt8.le_iff_toNat_le]
  exact Iff.rfl
theorem digitVal_dig {c : UInt8} (h : digC c = true) : Lib.digitVal c = some (c.toNat - 48) := by
  unfold Lib.digitVal; rw [if_pos (digC_iff.1 h)]
theorem atoi_3 {a b c : UInt8} (ha : digC a = true) (hb : digC b = true) (hc : digC c = true) : strconv_Atoi [a, b, c] = some ((num3 a b c : Int), ()) := by
  have h1 := digC_iff.1 ha
  have n1 : (a == 45) = false := by rw [beq_eq_false_iff_ne]; intro e; subst e; simp at h1
  have n2 : (a == 43) = false := by rw [beq_eq_false_iff_ne]; intro e; subst e; simp at h1
  have e : Lib.atoi [a, b, c] = some (num3 a b c : Int) := by
    unfold Lib.atoi
    dsimp only
    rw [n1, n2]
    simp [Lib.decNat, Lib.decFrom, digitVal_dig ha, digitVal_dig hb, digitVal_dig hc, num3]
  unfold strconv_Atoi
  rw [if_pos (show ([a, b, c] : Str).length ≤ 18 by simp), e]
  rfl
def dig3 (u : Nat) : Str := [UInt8.ofNat (48 + u / 100), UInt8.ofNat (48 + u / 10 % 10), UInt8.ofNat (48 + u % 10)]
theorem itoa_3 {u : Nat} (h1 : 200 ≤ u) (h2 : u ≤ 599) : strconv_Itoa (u : Int) = some (dig3 u) := by
  unfold strconv_Itoa dig3
  rw [if_pos (by omega), Lib.itoa_nonneg, Lib.decDigits, dif_neg (by omega), Lib.decDigits, dif_neg (by omega), Lib.decDigits, dif_pos (by omega), Nat.div_div_eq_div_mul]
  rfl
def numOf : Str → Nat
  | [a, b, c] => num3 a b c
  | _ => 0
theorem dig3_fin : ∀ k : Fin 400, R_Digits ((200 + k.val : Nat) : Int) = some (dig3 (200 + k.val)) ∧ numOf (dig3 (200 + k.val)) = 200 + k.val ∧ (dig3 (200 + k.val)).all digC = true ∧ (dig3 (200 + k.val)).any rlnC = false := by decide +kernel
theorem dig3_facts {u : Nat} (h1 : 200 ≤ u) (h2 : u ≤ 599) : R_Digits (u : Int) = some (dig3 u) ∧ numOf (dig3 u) = u ∧ (dig3 u).all digC = true ∧ (dig3 u).any rlnC = false := by
  have := dig3_fin ⟨u - 200, by omega⟩
  rwa [show 200 + (⟨u - 200, by omega⟩ : Fin 400).val = u by simp; omega] at this

/-! ### validation -/
def rCodeP (c : Int) : Bool := decide (200 ≤ c) && decide (c ≤ 599)
theorem reply_code_eq (c : Int) : reply_code c = some (rCodeP c) := by unfold reply_code rCodeP; cases decide (200 ≤ c) <;> rfl
def rLineQ (i : Nat) (s : Str) : Option TFault := if 500 < s.length then some ⟨1, i⟩ else if s.any rlnC then some ⟨5, i⟩ else none
def replyF (r : TReply) : TFault := if !rCodeP r.Code then ⟨3, -1⟩ else if r.Lines.length < 1 ∨ 20 < r.Lines.length then ⟨2, -2⟩ else (firstI rLineQ 0 r.Lines).getD ⟨0, 0⟩
theorem dec500 (s : Str) : decide ((500 : Int) < (s.length : Int)) = decide (500 < s.length) := by generalize s.length = n; rw [Bool.eq_iff_iff]; simp; omega
theorem reply_Validate_eq (r : TReply) (h : smLn r.Lines) : reply_Validate r = some (replyF r) := by
  obtain ⟨h1, h2⟩ := h
  unfold reply_Validate replyF
  rw [iter_first r.Lines rLineQ (.inl ()) .inr (by unfold reply_Validate_l1; rw [dec_len]; rfl) (fun i s hs => by
    have hi := lt_get hs
    have hsl := h2 s (List.mem_of_getElem? hs)
    unfold reply_Validate_l1 rLineQ
    rw [dec_lt hs, idx_get hs]
    simp only [cond_true, Option.bind_some, dec500, ends2_eq s hsl, basic_Fault_eq, sc i (by omega)]
    by_cases h500 : 500 < s.length
    · simp [h500]
    · simp only [h500, decide_false, cond_false, if_false]
      cases s.any rlnC <;> rfl)]
  simp only [Option.bind_some, reply_code_eq, basic_Fault_eq, basic_None_eq, elim_fault]
  cases rCodeP r.Code with
  | false => rfl
  | true =>
    simp only [Bool.not_true, cond_false, Bool.false_eq_true, if_false]
    by_cases ha : r.Lines.length < 1
    · rw [if_pos (Or.inl ha), decide_eq_true (by omega)]; rfl
    · rw [decide_eq_false (by omega)]
      by_cases hb : 20 < r.Lines.length
      · rw [if_pos (Or.inr hb), decide_eq_true (by omega)]; rfl
      · rw [if_neg (by omega), decide_eq_false (by omega)]; rfl
/-- what a reply that is valid is -/
structure ROk (r : TReply) : Prop where
  code : ∃ u : Nat, r.Code = u ∧ 200 ≤ u ∧ u ≤ 599
  len : 1 ≤ r.Lines.length ∧ r.Lines.length ≤ 20
  lines : ∀ s ∈ r.Lines, s.length ≤ 500 ∧ s.any rlnC = false
theorem rOk_of {r : TReply} (h : (replyF r).Code = 0) : ROk r := by
  unfold replyF at h
  cases hc : rCodeP r.Code with
  | false => rw [hc] at h; cases h
  | true =>
    rw [hc] at h
    simp only [Bool.not_true, Bool.false_eq_true, if_false] at h
    by_cases hl : r.Lines.length < 1 ∨ 20 < r.Lines.length
    · rw [if_pos hl] at h; cases h
    · rw [if_neg hl] at h
      unfold rCodeP at hc
      simp only [Bool.and_eq_true, decide_eq_true_eq] at hc
      refine ⟨⟨r.Code.toNat, by omega, by omega, by omega⟩, by omega, fun s hs => ?_⟩
      cases hf : firstI rLineQ 0 r.Lines with
      | some f =>
        rw [hf] at h
        obtain ⟨i, x, _, hx⟩ := firstI_some hf
        unfold rLineQ at hx
        split at hx
        · cases hx; cases h
        · split at hx
          · cases hx; cases h
          · cases hx
      | none =>
        obtain ⟨i, hi⟩ := List.getElem?_of_mem hs
        have := firstI_none.1 hf i s hi
        unfold rLineQ at this
        split at this
        · cases this
        · rename_i h500
          cases he : s.any rlnC with
          | true => rw [he] at this; cases this
          | false => exact ⟨by omega, rfl⟩
/-! ### printing -/
def prn (c : Str) : List Str → List Str
  | [] => []
  | [x] => [c ++ 32 :: x]
  | x :: y :: r => (c ++ 45 :: x) :: prn c (y :: r)
theorem prn_len (c : Str) : ∀ l, (prn c l).length = l.length
  | [] => rfl
  | [x] => rfl
  | x :: y :: r => by simp [prn, prn_len c (y :: r)]
theorem prn_snoc (c : Str) (y : Str) : ∀ l, prn c (l ++ [y]) = l.map (fun x => c ++ 45 :: x) ++ [c ++ 32 :: y]
  | [] => rfl
  | [x] => rfl
  | x :: z :: r => by
    have := prn_snoc c y (z :: r)
    simp only [List.cons_append, List.map_cons, prn] at this ⊢
    rw [this]
theorem prn_cons (c x : Str) (r : List Str) : prn c (x :: r) = (c ++ (if r = [] then 32 else 45) :: x) :: prn c r := by
  cases r with
  | nil => rfl
  | cons y r => rfl
theorem last_eq (p : List Str) (x : Str) (r : List Str) (hl : (p ++ x :: r).length ≤ 1048576) : ((p.length : Int) == w64 (((p ++ x :: r).length : Int) - 1)) = decide (r = []) := by
  rw [w64_id (by omega) (by omega)]
  rw [Bool.eq_iff_iff, beq_iff_eq, decide_eq_true_eq, List.length_append, List.length_cons]
  cases r with
  | nil => simp
  | cons y r => simp; omega
theorem dig3_len (u : Nat) : (dig3 u).length = 3 := rfl
theorem reply_Print_eq (r : TReply) (h : smLn r.Lines) : reply_Print r = some (if (replyF r).Code ≠ 0 then ([], replyF r) else (prn (dig3 r.Code.toNat) r.Lines, ⟨0, 0⟩)) := by
  unfold reply_Print
  rw [reply_Validate_eq r h]
  simp only [Option.bind_some, basic_Failed_eq]
  by_cases hc : (replyF r).Code = 0
  · have e : ((replyF r).Code != 0) = false := by simp [hc]
    rw [e, if_neg (by simp [hc])]
    obtain ⟨⟨u, hu, h1, h2⟩, hl, hx⟩ := rOk_of hc
    have hu' : r.Code.toNat = u := by omega
    rw [hu']
    have hloop : iter (reply_Print_l1 r) (0, ([] : List Str)) = some ([] ++ prn (dig3 u) r.Lines) := by
      refine iter_listI r.Lines (fun i s => ((i : Int), s)) (fun _ l s => s ++ prn (dig3 u) l) (fun i _ s => s.length = i) ?_ ?_ ([] : List Str) rfl rfl
      · intro s _
        unfold reply_Print_l1
        dsimp only
        rw [dec_len]; simp [prn]
      · intro p x q s hp hi
        right
        refine ⟨s ++ [dig3 u ++ (if q = [] then 32 else 45) :: x], ?_, by rw [prn_cons]; simp, by simp [hi]⟩
        have hpx : r.Lines[p.length]? = some x := by rw [hp]; simp
        have hle := lt_get hpx
        have hxs := (hx x (List.mem_of_getElem? hpx)).1
        unfold reply_Print_l1
        dsimp only
        rw [dec_lt hpx, idx_get hpx, hu, itoa_3 h1 h2]
        have e2 : ((p.length : Int) == w64 ((r.Lines.length : Int) - 1)) = decide (q = []) := by
          have hll := h.1
          rw [hp] at hll ⊢
          exact last_eq p x q hll
        rw [e2]
        simp only [cond_true, Option.bind_some, sc p.length (by omega)]
        by_cases hq : q = []
        · rw [decide_eq_true hq, if_pos hq]
          simp only [cond_true, Option.bind_some]
          rw [cat_ok (by rw [dig3_len]; decide), Option.bind_some, cat_ok (by simp [dig3_len]; omega), Option.bind_some, app_ok (by simp; omega)]
          simp
        · rw [decide_eq_false hq, if_neg hq]
          simp only [cond_false, Option.bind_some]
          rw [cat_ok (by rw [dig3_len]; decide), Option.bind_some, cat_ok (by simp [dig3_len]; omega), Option.bind_some, app_ok (by simp; omega)]
          simp
    rw [hloop]
    rfl
  · have e : ((replyF r).Code != 0) = true := by simpa using hc
    rw [e, if_pos hc]; rfl
theorem reply_Class_eq (r : TReply) (h : smLn r.Lines) : reply_Class r = some (if (replyF r).Code ≠ 0 then (0, replyF r) else (iQuo r.Code 100, ⟨0, 0⟩)) := by
  unfold reply_Class
  rw [reply_Validate_eq r h]
  simp only [Option.bind_some, basic_Failed_eq, basic_None_eq]
  by_cases hc : (replyF r).Code = 0
  · have e : ((replyF r).Code != 0) = false := by simp [hc]
    rw [e, if_neg (by simp [hc])]; rfl
  · have e : ((replyF r).Code != 0) = true := by simpa using hc
    rw [e, if_pos hc]; rfl
end Go.Proofs.YtkoijpogjobgjaaDoor

/- Replies: reading lines. -/
namespace Go.Proofs.YtkoijpogjobgjaaDoor
open Go.RowKit
set_option linter.unusedVariables false
set_option maxHeartbeats 1000000

/-- the number that a line of a reply tells; none: no such line -/
def rdQ : Str → Option Nat
  | a :: b :: c :: d :: r => if (d == 45 || d == 32) && (digC a && digC b && digC c) && !((a :: b :: c :: d :: r).any rlnC) && (decide (200 ≤ num3 a b c) && decide (num3 a b c ≤ 599)) then some (num3 a b c) else none
  | _ => none
theorem rdQ_len {s : Str} {n : Nat} (h : rdQ s = some n) : 4 ≤ s.length ∧ 200 ≤ n ∧ n ≤ 599 := by
  unfold rdQ at h
  split at h
  · split at h
    · rename_i hc
      cases h
      simp only [Bool.and_eq_true, decide_eq_true_eq] at hc
      exact ⟨by simp, hc.2.1, hc.2.2⟩
    · cases h
  · cases h
theorem rdQ_at {s : Str} {n : Nat} (h : rdQ s = some n) : ∃ d, s[3]? = some d ∧ idx s 3 = some d ∧ (d = 45 ∨ d = 32) := by
  unfold rdQ at h
  split at h
  · rename_i a b c d r
    split at h
    · rename_i hc
      simp only [Bool.and_eq_true, Bool.or_eq_true, beq_iff_eq] at hc
      exact ⟨d, rfl, rfl, hc.1.1.1⟩
    · cases h
  · cases h
theorem u8_or (d : UInt8) {γ : Type} (X Y : γ) : (bif ((d.toNat : Int) != 45) then (bif ((d.toNat : Int) != 32) then X else Y) else Y) = if (d == 45 || d == 32) then Y else X := by
  rw [u8_ne d 45 (by decide), u8_ne d 32 (by decide)]
  unfold bne
  cases d == 45 <;> cases d == 32 <;> rfl
theorem cut03 (a b c d : UInt8) (r : Str) : cut (a :: b :: c :: d :: r) 0 3 = some [a, b, c] := by
  have := cut_0n (l := a :: b :: c :: d :: r) (b := 3) (by simp)
  exact this
theorem cut4 (s : Str) (h : 4 ≤ s.length) : cut s 4 (s.length : Int) = some (s.drop 4) := cut_nl (a := 4) h
theorem reply_read_eq (s : Str) (hs : s.length ≤ 1048576) : ∃ v, reply_read s = some v ∧ v.2.2.2 = (rdQ s).isSome ∧ ∀ n, rdQ s = some n → v = ((n : Int), s.drop 4, (s[3]? == some 32), true) := by
  match s, hs with
  | [], _ => exact ⟨_, rfl, rfl, fun n h => by cases h⟩
  | [_], _ => exact ⟨_, rfl, rfl, fun n h => by cases h⟩
  | [_, _], _ => exact ⟨_, rfl, rfl, fun n h => by cases h⟩
  | [_, _, _], _ => exact ⟨_, rfl, rfl, fun n h => by cases h⟩
  | a :: b :: c :: d :: r, hs =>
    have e1 : decide (((a :: b :: c :: d :: r).length : Int) < 4) = false := by simp; omega
    have e2 : idx (a :: b :: c :: d :: r) 3 = some d := rfl
    have e3 : basic_Digits [a, b, c] = some (digC a && digC b && digC c) := by
      have h := basic_Digits_eq [a, b, c] (by simp)
      rw [h]
      show some ((digC a && (digC b && (digC c && true))) && true) = _
      rw [Bool.and_true, Bool.and_true, Bool.and_assoc]
    have e4 := ends2_eq _ hs
    have e5 := cut4 (a :: b :: c :: d :: r) (by simp)
    unfold reply_read
    rw [e1, e2, cut03, e4, e5]
    simp only [Option.bind_some, cond_false, e3, reply_code_eq]
    rw [u8_or]
    have hr : rdQ (a :: b :: c :: d :: r) = if (d == 45 || d == 32) && (digC a && digC b && digC c) && !((a :: b :: c :: d :: r).any rlnC) && (decide (200 ≤ num3 a b c) && decide (num3 a b c ≤ 599)) then some (num3 a b c) else none := rfl
    rw [hr]
    cases h1 : (d == 45 || d == 32) with
    | false => exact ⟨_, rfl, rfl, fun n h => by simp at h⟩
    | true =>
      cases h2 : (digC a && digC b && digC c) with
      | false => exact ⟨_, rfl, rfl, fun n h => by simp at h⟩
      | true =>
        cases h3 : (a :: b :: c :: d :: r).any rlnC with
        | true => exact ⟨_, rfl, rfl, fun n h => by simp at h⟩
        | false =>
          have h2' := h2
          rw [Bool.and_eq_true, Bool.and_eq_true] at h2'
          simp only [Bool.not_true, Bool.not_false, Bool.true_and, if_true, cond_false, Option.bind_some]
          rw [atoi_3 h2'.1.1 h2'.1.2 h2'.2]
          simp only [Option.bind_some]
          have e6 : rCodeP ((num3 a b c : Nat) : Int) = (decide (200 ≤ num3 a b c) && decide (num3 a b c ≤ 599)) := by
            unfold rCodeP
            congr 1
            · rw [Bool.eq_iff_iff]; simp; omega
            · rw [Bool.eq_iff_iff]; simp; omega
          rw [e6]
          cases h4 : (decide (200 ≤ num3 a b c) && decide (num3 a b c ≤ 599)) with
          | false => exact ⟨_, rfl, rfl, fun n h => by simp at h⟩
          | true =>
            refine ⟨_, rfl, rfl, fun n h => ?_⟩
            simp only [if_true, Option.some.injEq] at h
            subst h
            rw [u8_eq d 32 (by decide)]
            simp
/-! ### the lines one after the other -/
abbrev PR := TReply × Int × TFault
def parP : List Str → Nat → List Str → Int → Option PR
  | [], _, _, _ => none
  | s :: r, i, acc, prev =>
    if i = 20 then some (⟨0, []⟩, 0, ⟨2, i⟩)
    else match rdQ s with
      | none => some (⟨0, []⟩, 0, ⟨11, i⟩)
      | some n =>
        if 504 < s.length then some (⟨0, []⟩, 0, ⟨1, i⟩)
        else if 0 < i ∧ (n : Int) ≠ prev then some (⟨0, []⟩, 0, ⟨5, i⟩)
        else if s[3]? = some 32 then some (⟨n, acc ++ [s.drop 4]⟩, ((i + 1 : Nat) : Int), ⟨0, 0⟩)
        else parP r (i + 1) (acc ++ [s.drop 4]) n
def parseP (l : List Str) : PR := if 300 < l.length then (⟨0, []⟩, 0, ⟨2, -1⟩) else (parP l 0 [] 0).getD (⟨0, []⟩, 0, ⟨9, -2⟩)
theorem gt0 (i : Nat) (n : Nat) (prev : Int) : (bif decide ((0 : Int) < (i : Int)) then some ((n : Int) != prev) else some false) = some (decide (0 < i ∧ (n : Int) ≠ prev)) := by
  by_cases h : 0 < i
  · rw [decide_eq_true (by omega : (0 : Int) < (i : Int))]
    by_cases h2 : (n : Int) = prev
    · simp [h2]
    · simp [h2, h]
  · rw [decide_eq_false (by omega : ¬ (0 : Int) < (i : Int))]
    simp [h]
theorem at32 (s : Str) (d : UInt8) (h : s[3]? = some d) : (s[3]? == some 32) = decide (s[3]? = some 32) := by
  rw [h, Bool.eq_iff_iff]; simp
theorem eq20 (i : Nat) : ((i : Int) == 20) = decide (i = 20) := by rw [Bool.eq_iff_iff]; simp; omega
/-- one line -/
def stepP (x : Str) (i : Nat) (acc : List Str) (prev : Int) : Step (Int × List Str × Int) (Unit ⊕ PR) :=
  if i = 20 then .out (.inr (⟨0, []⟩, 0, ⟨2, i⟩))
  else match rdQ x with
  | none => .out (.inr (⟨0, []⟩, 0, ⟨11, i⟩))
  | some n =>
    if 504 < x.length then .out (.inr (⟨0, []⟩, 0, ⟨1, i⟩))
    else if 0 < i ∧ (n : Int) ≠ prev then .out (.inr (⟨0, []⟩, 0, ⟨5, i⟩))
    else if x[3]? = some 32 then .out (.inr (⟨n, acc ++ [x.drop 4]⟩, ((i + 1 : Nat) : Int), ⟨0, 0⟩))
    else .cont (((i + 1 : Nat) : Int), acc ++ [x.drop 4], (n : Int))
theorem parse_loop (l : List Str) {body : Int × List Str × Int → Option (Step (Int × List Str × Int) (Unit ⊕ PR))} (h0 : ∀ acc prev, body ((l.length : Int), acc, prev) = some (.out (.inl ())))
    (h1 : ∀ (i : Nat) x acc prev, l[i]? = some x → acc.length = i → body ((i : Int), acc, prev) = some (stepP x i acc prev)) : iter body (0, ([] : List Str), 0) = some ((parP l 0 [] 0).elim (Sum.inl ()) Sum.inr) := by
  refine iter_listI l (fun i (s : List Str × Int) => ((i : Int), s.1, s.2)) (fun i r s => (parP r i s.1 s.2).elim (Sum.inl ()) Sum.inr) (fun i _ s => s.1.length = i) ?_ ?_ (([] : List Str), (0 : Int)) rfl rfl
  · intro s _
    exact h0 _ _
  · intro p x q s hp hi
    obtain ⟨acc, prev⟩ := s
    dsimp only at hi ⊢
    rw [h1 p.length x acc prev (by rw [hp]; simp) hi]
    unfold stepP
    rw [parP]
    by_cases h20 : p.length = 20
    · rw [if_pos h20, if_pos h20]; left; rfl
    · rw [if_neg h20, if_neg h20]
      cases hr : rdQ x with
      | none => left; rfl
      | some n =>
        dsimp only
        by_cases h504 : 504 < x.length
        · rw [if_pos h504, if_pos h504]; left; rfl
        · rw [if_neg h504, if_neg h504]
          by_cases h5 : 0 < p.length ∧ (n : Int) ≠ prev
          · rw [if_pos h5, if_pos h5]; left; rfl
          · rw [if_neg h5, if_neg h5]
            by_cases h32 : x[3]? = some 32
            · rw [if_pos h32, if_pos h32]; left; rfl
            · rw [if_neg h32, if_neg h32]
              exact Or.inr ⟨(acc ++ [x.drop 4], (n : Int)), rfl, rfl, by simp [hi]⟩
theorem reply_Parse_eq (l : List Str) (h : smLn l) : reply_Parse l = some (parseP l) := by
  unfold reply_Parse parseP
  by_cases h300 : 300 < l.length
  · rw [if_pos h300, decide_eq_true (by omega)]; rfl
  · rw [if_neg h300, decide_eq_false (by omega), parse_loop l]
    · simp only [cond_false, Option.bind_some, basic_Fault_eq]
      cases parP l 0 [] 0 <;> rfl
    · intro acc prev
      unfold reply_Parse_l1
      dsimp only
      rw [dec_len]; rfl
    · intro i x acc prev hx hi
      have hle := lt_get hx
      have hxs := h.2 x (List.mem_of_getElem? hx)
      obtain ⟨v, hv, hv1, hv2⟩ := reply_read_eq x hxs
      unfold reply_Parse_l1 stepP
      dsimp only
      rw [dec_lt hx, idx_get hx]
      simp only [cond_true, Option.bind_some, hv, hv1, eq20, basic_Fault_eq, basic_None_eq]
      by_cases h20 : i = 20
      · rw [if_pos h20, decide_eq_true h20]; rfl
      · rw [if_neg h20, decide_eq_false h20]
        simp only [cond_false]
        cases hr : rdQ x with
        | none => rfl
        | some n =>
          have hvn := hv2 n hr
          subst hvn
          have hn := rdQ_len hr
          obtain ⟨d, hd, _, _⟩ := rdQ_at hr
          have e5 : decide ((500 : Int) < (((x.drop 4).length : Nat) : Int)) = decide (504 < x.length) := by
            rw [Bool.eq_iff_iff, List.length_drop, decide_eq_true_eq, decide_eq_true_eq]; omega
          simp only [Option.isSome_some, Bool.not_true, cond_false, e5, gt0, Option.bind_some]
          by_cases h504 : 504 < x.length
          · rw [decide_eq_true h504, if_pos h504]; rfl
          · rw [decide_eq_false h504, if_neg h504]
            simp only [cond_false]
            by_cases h5 : 0 < i ∧ (n : Int) ≠ prev
            · rw [decide_eq_true h5, if_pos h5]; rfl
            · rw [decide_eq_false h5, if_neg h5]
              simp only [cond_false, Option.bind_some, bne_self_eq_false]
              rw [app_ok (by simp; omega)]
              simp only [Option.bind_some, at32 x d hd, sc i (by omega)]
              by_cases h32 : x[3]? = some 32
              · rw [decide_eq_true h32, if_pos h32]; rfl
              · rw [decide_eq_false h32, if_neg h32]; rfl
end Go.Proofs.YtkoijpogjobgjaaDoor

/- Replies: the closed example; what is printed reads back. -/
namespace Go.Proofs.YtkoijpogjobgjaaDoor
open Go.RowKit
set_option linter.unusedVariables false
set_option maxHeartbeats 1000000
theorem same_reply (r : TReply) (h : r.Lines.length ≤ 1048576) : R_SameReply r r = some true := by
  unfold R_SameReply
  rw [R_Strings_eq _ _ (by omega)]
  simp
theorem L_replies_eq : L_replies = some true := by
  have p1 : reply_Print ⟨250, [[97], [98]]⟩ = some ([[50, 53, 48, 45, 97], [50, 53, 48, 32, 98]], ⟨0, 0⟩) := by
    rw [reply_Print_eq _ ⟨by decide, by decide⟩]; rfl
  have p2 : reply_Parse [[50, 53, 48, 45, 97], [50, 53, 48, 32, 98], [50, 50, 48, 32, 99]] = some (⟨250, [[97], [98]]⟩, 2, ⟨0, 0⟩) := by
    rw [reply_Parse_eq _ ⟨by decide, by decide⟩]; rfl
  have p3 : reply_Class ⟨354, [[]]⟩ = some (3, ⟨0, 0⟩) := by
    rw [reply_Class_eq _ ⟨by decide, by decide⟩]; rfl
  have p4 : reply_Parse [[50, 53, 48, 45, 97]] = some (⟨0, []⟩, 0, ⟨9, -2⟩) := by
    rw [reply_Parse_eq _ ⟨by decide, by decide⟩]; rfl
  unfold L_replies
  rw [p1, p2, p3, p4]
  simp only [Option.bind_some, R_At_eq]
  rw [R_Strings_eq _ _ (by decide), same_reply _ (by decide)]
  rfl
theorem rdQ_line {u : Nat} (h1 : 200 ≤ u) (h2 : u ≤ 599) (d : UInt8) (hd : d = 45 ∨ d = 32) (x : Str) (hx : x.any rlnC = false) : rdQ (dig3 u ++ d :: x) = some u := by
  obtain ⟨_, hn, ha, he⟩ := dig3_facts h1 h2
  unfold dig3 at *
  generalize UInt8.ofNat (48 + u / 100) = a at *
  generalize UInt8.ofNat (48 + u / 10 % 10) = b at *
  generalize UInt8.ofNat (48 + u % 10) = c at *
  have hn' : num3 a b c = u := hn
  simp only [List.all_cons, List.all_nil, Bool.and_true, Bool.and_eq_true] at ha
  simp only [List.any_cons, List.any_nil, Bool.or_false, Bool.or_eq_false_iff] at he
  have hdr : rlnC d = false := by rcases hd with rfl | rfl <;> rfl
  have hd2 : (d == 45 || d == 32) = true := by rcases hd with rfl | rfl <;> rfl
  show rdQ (a :: b :: c :: d :: x) = some u
  have hr : rdQ (a :: b :: c :: d :: x) = if (d == 45 || d == 32) && (digC a && digC b && digC c) && !((a :: b :: c :: d :: x).any rlnC) && (decide (200 ≤ num3 a b c) && decide (num3 a b c ≤ 599)) then some (num3 a b c) else none := rfl
  rw [hr, hd2, ha.1, ha.2.1, ha.2.2, List.any_cons, List.any_cons, List.any_cons, List.any_cons, he.1, he.2.1, he.2.2, hdr, hx, hn']
  simp [h1, h2]
theorem line_at (u : Nat) (d : UInt8) (x : Str) : (dig3 u ++ d :: x)[3]? = some d := rfl
theorem line_drop (u : Nat) (d : UInt8) (x : Str) : (dig3 u ++ d :: x).drop 4 = x := rfl
theorem line_len (u : Nat) (d : UInt8) (x : Str) : (dig3 u ++ d :: x).length = x.length + 4 := by simp [dig3]
theorem parP_dash {u : Nat} (h1 : 200 ≤ u) (h2 : u ≤ 599) (tail : List Str) : ∀ (xs : List Str) (i : Nat) (acc : List Str) (prev : Int), (∀ s ∈ xs, s.length ≤ 500 ∧ s.any rlnC = false) → i + xs.length ≤ 20 → (i = 0 ∨ prev = u) →
    ∃ prev', (i + xs.length = 0 ∨ prev' = (u : Int)) ∧ parP (xs.map (fun x => dig3 u ++ 45 :: x) ++ tail) i acc prev = parP tail (i + xs.length) (acc ++ xs) prev' := by
  intro xs
  induction xs with
  | nil => intro i acc prev _ _ hp; exact ⟨prev, by simpa using hp, by simp⟩
  | cons x xs ih =>
    intro i acc prev hx hi hp
    obtain ⟨hx1, hx2⟩ := hx x List.mem_cons_self
    simp only [List.length_cons] at hi
    obtain ⟨prev', h3, h4⟩ := ih (i + 1) (acc ++ [x]) u (fun s hs => hx s (List.mem_cons_of_mem _ hs)) (by omega) (Or.inr rfl)
    refine ⟨prev', Or.inr (h3.resolve_left (by omega)), ?_⟩
    rw [List.map_cons, List.cons_append, parP, if_neg (by omega), rdQ_line h1 h2 45 (Or.inl rfl) x hx2]
    dsimp only
    rw [if_neg (by rw [line_len]; omega), if_neg (by rcases hp with h | h <;> simp [h]), line_at, if_neg (by decide), line_drop, h4]
    simp only [List.length_cons]
    congr 1
    · omega
    · simp
theorem ne_snoc {α : Type} : ∀ {l : List α}, 1 ≤ l.length → ∃ ys y, l = ys ++ [y]
  | l, h => ⟨l.dropLast, l.getLast (by intro e; rw [e] at h; simp at h), (List.dropLast_concat_getLast _).symm⟩
theorem parse_short {u : Nat} (h1 : 200 ≤ u) (h2 : u ≤ 599) (ys : List Str) (h : ∀ s ∈ ys, s.length ≤ 500 ∧ s.any rlnC = false) (hl : ys.length ≤ 20) : parseP (ys.map fun x => dig3 u ++ 45 :: x) = (⟨0, []⟩, 0, ⟨9, -2⟩) := by
  unfold parseP
  rw [if_neg (by simp; omega)]
  obtain ⟨prev', _, h4⟩ := parP_dash h1 h2 [] ys 0 [] 0 h (by omega) (Or.inl rfl)
  rw [List.append_nil] at h4
  rw [h4]; rfl
theorem parse_whole {u : Nat} (h1 : 200 ≤ u) (h2 : u ≤ 599) (ys : List Str) (y : Str) (tail : List Str) (h : ∀ s ∈ ys ++ [y], s.length ≤ 500 ∧ s.any rlnC = false) (hl : ys.length < 20) (ht : tail.length ≤ 100) :
    parseP (prn (dig3 u) (ys ++ [y]) ++ tail) = (⟨u, ys ++ [y]⟩, ((ys.length + 1 : Nat) : Int), ⟨0, 0⟩) := by
  have hy := h y (by simp)
  unfold parseP
  rw [if_neg (by simp [prn_len]; omega), prn_snoc]
  obtain ⟨prev', h3, h4⟩ := parP_dash h1 h2 ([dig3 u ++ 32 :: y] ++ tail) ys 0 [] 0 (fun s hs => h s (by simp [hs])) (by omega) (Or.inl rfl)
  rw [List.append_assoc, h4, List.singleton_append, parP, if_neg (by omega), rdQ_line h1 h2 32 (Or.inr rfl) y hy.2]
  dsimp only
  rw [if_neg (by rw [line_len]; omega), if_neg (by rcases h3 with h | h <;> simp [h] <;> omega), line_at, if_pos rfl, line_drop]
  simp
theorem prn_lines {u : Nat} (ls : List Str) (h : ∀ s ∈ ls, s.length ≤ 500) : ∀ s ∈ prn (dig3 u) ls, s.length ≤ 504 := by
  rcases Nat.eq_zero_or_pos ls.length with h0 | h0
  · rw [List.length_eq_zero_iff.1 h0]; intro s hs; cases hs
  · obtain ⟨ys, y, rfl⟩ := ne_snoc h0
    rw [prn_snoc]
    intro s hs
    rw [List.mem_append, List.mem_map, List.mem_singleton] at hs
    rcases hs with ⟨x, hx, rfl⟩ | rfl
    · have := h x (by simp [hx]); rw [line_len]; omega
    · have := h y (by simp); rw [line_len]; omega
end Go.Proofs.YtkoijpogjobgjaaDoor

/- The law ReplyRoundTrips in plain Lean. -/
namespace Go.Proofs.YtkoijpogjobgjaaDoor
open Go.RowKit
set_option linter.unusedVariables false
theorem smLn_reply {r : TReply} (h : TReply.bk r ≤ 1048576) : smLn r.Lines := by
  have h0 : TReply.bk r = 1 + bkL (fun s : Str => s.length + 1) r.Lines + 1 := rfl
  exact smLn_of (by omega)
theorem L_ReplyRoundTrips_true (a0 : TReply) (a1 : List Str) (o0 : TReply.ok a0) (o1 : (okL okStr) a1) (hk : TReply.bk a0 + (bkL (fun s => s.length + 1)) a1 ≤ 1048576) : L_ReplyRoundTrips a0 a1 = some true := by
  have hs : smLn a0.Lines := smLn_reply (by omega)
  have hs1 : smLn a1 := smLn_of (by omega)
  unfold L_ReplyRoundTrips
  rw [reply_Print_eq _ hs, L_replies_eq]
  simp only [Option.bind_some]
  by_cases hc : (replyF a0).Code = 0
  · rw [if_neg (by simpa using hc)]
    simp only [Bool.not_true, cond_false, bne_self_eq_false, Option.bind_some]
    by_cases h100 : 100 < a1.length
    · rw [decide_eq_true (by omega)]; rfl
    · rw [decide_eq_false (by omega)]
      obtain ⟨⟨u, hu, h1, h2⟩, hl, hx⟩ := rOk_of hc
      have hu' : a0.Code.toNat = u := by omega
      obtain ⟨ys, y, hy⟩ := ne_snoc hl.1
      have hyl : ys.length + 1 = a0.Lines.length := by rw [hy]; simp
      have hpl : (prn (dig3 u) a0.Lines).length = ys.length + 1 := by rw [prn_len, hyl]
      rw [hu']
      have e0 : (((prn (dig3 u) a0.Lines).length : Int) == 0) = false := by rw [hpl]; simp; omega
      rw [e0]
      simp only [cond_false]
      have e1 : w64 (((prn (dig3 u) a0.Lines).length : Int) - 1) = (ys.length : Int) := by rw [hpl, w64_id (by omega) (by omega)]; omega
      have e2 : (prn (dig3 u) a0.Lines).take ys.length = ys.map fun x => dig3 u ++ 45 :: x := by
        rw [hy, prn_snoc]
        exact List.take_left' (by simp)
      have hp := prn_lines (u := u) a0.Lines (fun s hs => (hx s hs).1)
      have hsp : smLn (prn (dig3 u) a0.Lines ++ a1) := ⟨by rw [List.length_append, hpl]; omega, fun s hs => by
        rcases List.mem_append.1 hs with h | h
        · have := hp s h; omega
        · exact hs1.2 s h⟩
      have hst : smLn (ys.map fun x => dig3 u ++ 45 :: x) := by
        rw [← e2]
        exact ⟨by rw [List.length_take]; omega, fun s hs => by have := hp s (List.mem_of_mem_take hs); omega⟩
      rw [e1, cut_0n (by omega), e2]
      simp only [Option.bind_some]
      rw [reply_Parse_eq _ hst, parse_short h1 h2 ys (fun s hs => hx s (by rw [hy]; simp [hs])) (by omega)]
      simp only [Option.bind_some]
      rw [app_ok (by simp; omega), Option.bind_some, List.nil_append, app_ok (by omega), Option.bind_some, reply_Parse_eq _ hsp]
      have hw : parseP (prn (dig3 u) a0.Lines ++ a1) = (⟨u, a0.Lines⟩, ((ys.length + 1 : Nat) : Int), ⟨0, 0⟩) := by
        rw [hy]; exact parse_whole h1 h2 ys y a1 (by rw [← hy]; exact hx) (by omega) (by omega)
      rw [hw]
      have hr : (⟨(u : Int), a0.Lines⟩ : TReply) = a0 := by cases a0; simp only at hu ⊢; rw [hu]
      rw [hr]
      simp only [Option.bind_some, R_At_eq, hpl, same_reply a0 (by omega)]
      simp [allEq]
  · rw [if_pos hc]
    have e : ((replyF a0).Code != 0) = true := by simpa using hc
    simp [e]
end Go.Proofs.YtkoijpogjobgjaaDoor

namespace Go.Proofs.YtkoijpogjobgjaaDoor
open Go.RowKit
set_option maxRecDepth 100000
set_option maxHeartbeats 40000000
set_option linter.unusedVariables false
theorem R_At_run (a0 : Int) (a1 : Int) (r : TFault) (hr : R_At a0 a1 = some r) : Run Tryd.prog 16 [.i a0, .i a1] (.agg [.i r.Code, .i r.Index]) := by
 unfold R_At at hr
 refine rf (fn := Tryd.f16) ⟨Tryd.func16, rfl, by kernel_rfl⟩ rfl (fun _ => rfl) fun g0 hg => ?_
 refine rn tk 14 rfl ?_
 cases hr
 exact kr tk (.inr rfl) rfl rfl
theorem R_Strings_run (a0 : List Str) (a1 : List Str) (r : Bool) (hr : R_Strings a0 a1 = some r) : Run Tryd.prog 11 [.l cS a0, .l cS a1] (.bo r) := by
 unfold R_Strings at hr
 refine rf (fn := Tryd.f11) ⟨Tryd.func11, rfl, by kernel_rfl⟩ rfl (fun _ => rfl) fun g0 hg => ?_
 refine rn tk 9 rfl ?_
 refine wn tk rfl rfl rfl ?_
 refine rn tk 1 rfl ?_
 refine wn tk rfl rfl rfl ?_
 refine rn tk 3 rfl ?_
 refine ac 10 hr rfl (fun c1 hr => ?_) (fun c1 hr => ?_)
 ·
  refine rn tk 7 rfl ?_
  cases hr
  exact kr tk (.inr rfl) rfl rfl
 ·
  refine rn tk 9 rfl ?_
  refine al2 hr (fun s2 => [(0, .l cS a0), (1, .l cS a1), (5, .i s2)]) (fun s2 => []) (.exit 0) (fun b3 => []) (fun b3 => []) .ret (fun b4 => [(4, .bo b4)]) (fun b4 => []) rfl rfl (fun s2 x6 hr => ?_) (fun b3 hr => ?_) (fun b4 hr => ?_)
  ·
   unfold R_Strings_l1 at hr
   refine rn tk 5 rfl ?_
   refine wn tk rfl rfl rfl ?_
   refine rn tk 3 rfl ?_
   refine ac 14 hr rfl (fun c7 hr => ?_) (fun c7 hr => ?_)
   ·
    refine rn tk 5 rfl ?_
    obtain ⟨v8, h9, hr⟩ := bind_some hr
    obtain ⟨v10, h11, hr⟩ := bind_some hr
    refine dr 8 [(24, .s v10), (23, .ep [pS v10]), (22, .i s2), (21, .l cS a1), (20, .s v8), (19, .ep [pS v8]), (18, .i s2), (17, .l cS a0)] mixed (by kernel_rfl) rfl rfl (pq tk rfl (.plain rfl) (pq tk rfl (.plain rfl) (.run (.plain rfl) (opG_q (ev_idx (f := cS) rfl rfl ty_s_string ty_string rfl h9)) (pq tk rfl (.plain rfl) (pq tk rfl (.plain rfl) (pq tk rfl (.plain rfl) (.run (.plain rfl) (opG_q (ev_idx (f := cS) rfl rfl ty_s_string ty_string rfl h11)) (pq tk rfl (.plain rfl) .nil)))))))) rfl ?_
    refine rn tk 3 rfl ?_
    refine ac 25 hr rfl (fun c12 hr => ?_) (fun c12 hr => ?_)
    ·
     refine rn tk 8 rfl ?_
     cases hr
     exact ato rfl rfl rfl rfl
    ·
     refine rn tk 8 rfl ?_
     cases hr
     exact atc rfl rfl
   ·
    refine rn tk 2 rfl ?_
    cases hr
    exact ato rfl rfl rfl rfl
  ·
   refine rn tk 8 rfl ?_
   cases hr
   exact kr tk (.inr rfl) rfl rfl
  ·
   refine rn tk 2 rfl ?_
   cases hr
   exact kr tk (.inr rfl) rfl rfl
theorem R_SameReply_run (a0 : TReply) (a1 : TReply) (r : Bool) (hr : R_SameReply a0 a1 = some r) : Run Tryd.prog 15 [.agg [.i a0.Code, .l cS a0.Lines], .agg [.i a1.Code, .l cS a1.Lines]] (.bo r) := by
 unfold R_SameReply at hr
 refine rf (fn := Tryd.f15) ⟨Tryd.func15, rfl, by kernel_rfl⟩ rfl (fun _ => rfl) fun g0 hg => ?_
 refine rn tk 7 rfl ?_
 refine jb hr (fun j1 => [(4, .bo j1)]) (fun j1 => []) (fun j1 hr => ?_) (fun j1 hr => ?_)
 ·
  refine rn tk 7 rfl ?_
  refine bs 10 hr rfl (fun c2 hr => ?_) (fun c2 hr => ?_)
  ·
   refine rn tk 4 rfl ?_
   obtain ⟨v3, h4, hr⟩ := bind_some hr
   refine ug rfl rfl rfl ?_
   refine cl (R_Strings_run _ _ _ h4) rfl rfl ?_
   refine rn tk 3 rfl ?_
   cases hr
   exact jn _ rfl rfl rfl
  ·
   refine rn tk 8 rfl ?_
   cases hr
   exact jn _ rfl rfl rfl
 ·
  refine rn tk 1 rfl ?_
  cases hr
  exact kr tk (.inr rfl) rfl rfl
theorem basic_Failed_run (a0 : TFault) (r : Bool) (hr : basic_Failed a0 = some r) : Run Tryd.prog 19 [.agg [.i a0.Code, .i a0.Index]] (.bo r) := by
 unfold basic_Failed at hr
 refine rf (fn := Tryd.f19) ⟨Tryd.func19, rfl, by kernel_rfl⟩ rfl (fun _ => rfl) fun g0 hg => ?_
 refine rn tk 15 rfl ?_
 cases hr
 exact kr tk (.inr rfl) rfl rfl
theorem basic_None_run  (r : TFault) (hr : basic_None = some r) : Run Tryd.prog 21 [] (.agg [.i r.Code, .i r.Index]) := by
 unfold basic_None at hr
 refine rf (fn := Tryd.f21) ⟨Tryd.func21, rfl, by kernel_rfl⟩ rfl (fun _ => rfl) fun g0 hg => ?_
 refine rn tk 12 rfl ?_
 cases hr
 exact kr tk (.inr rfl) rfl rfl
theorem basic_Fault_run (a0 : Int) (a1 : Int) (r : TFault) (hr : basic_Fault a0 a1 = some r) : Run Tryd.prog 23 [.i a0, .i a1] (.agg [.i r.Code, .i r.Index]) := by
 unfold basic_Fault at hr
 refine rf (fn := Tryd.f23) ⟨Tryd.func23, rfl, by kernel_rfl⟩ rfl (fun _ => rfl) fun g0 hg => ?_
 refine rn tk 14 rfl ?_
 cases hr
 exact kr tk (.inr rfl) rfl rfl
theorem reply_code_run (a0 : Int) (r : Bool) (hr : reply_code a0 = some r) : Run Tryd.prog 22 [.i a0] (.bo r) := by
 unfold reply_code at hr
 refine rf (fn := Tryd.f22) ⟨Tryd.func22, rfl, by kernel_rfl⟩ rfl (fun _ => rfl) fun g0 hg => ?_
 refine rn tk 5 rfl ?_
 refine jb hr (fun j1 => [(2, .bo j1)]) (fun j1 => []) (fun j1 hr => ?_) (fun j1 hr => ?_)
 ·
  refine rn tk 4 rfl ?_
  refine bs 5 hr rfl (fun c2 hr => ?_) (fun c2 hr => ?_)
  ·
   refine rn tk 5 rfl ?_
   cases hr
   exact jn _ rfl rfl rfl
  ·
   refine rn tk 5 rfl ?_
   cases hr
   exact jn _ rfl rfl rfl
 ·
  refine rn tk 1 rfl ?_
  cases hr
  exact kr tk (.inr rfl) rfl rfl
end Go.Proofs.YtkoijpogjobgjaaDoor

/- Library functions compute what their Lean functions do. -/
namespace Go.Proofs.YtkoijpogjobgjaaDoor
open Go.RowKit
set_option maxRecDepth 100000
theorem str_arg {g : G} {s : Str} {v : Value} (h : Rel g (.s s) v) : v = .string (strB s) := rel_b h
theorem strings_IndexByte_run (s : Str) (c : UInt8) (r : Int) (hr : strings_IndexByte s c = some r) : Run Tryd.prog 43 [.s s, .u8 c] (.i r) := by
  unfold strings_IndexByte at hr
  cases hr
  refine ⟨⟨_, _, ⟨Tryd.func43, rfl, by kernel_rfl⟩⟩, fun g vs hw hg ha => ?_⟩
  obtain ⟨hsz, hrel⟩ := ha
  obtain ⟨l⟩ := vs
  match l, hsz with
  | [x, y], _ =>
    obtain rfl := str_arg (hrel 0 _ rfl)
    have e2 : y = .int .u8 (c.toNat : Int) := rel_b (hrel 1 _ rfl)
    subst e2
    refine callsIn_wide.2 ((Tryd.strings_IndexByte (strB s) (c.toNat : Int) g.w).mono ?_)
    rintro e w' ⟨rfl, rfl⟩
    refine ⟨g, _, rfl, rfl, Old.refl _ g, hw, rfl, ?_⟩
    simp [strB]
    exact .pv (.b rfl)
end Go.Proofs.YtkoijpogjobgjaaDoor

namespace Go.Proofs.YtkoijpogjobgjaaDoor
open Go.RowKit
set_option maxRecDepth 100000
set_option maxHeartbeats 40000000
set_option linter.unusedVariables false
theorem unicode_utf8_ValidRune_run (a0 : Int) (r : Bool) (hr : unicode_utf8_ValidRune a0 = some r) : Run Tryd.prog 44 [.pv (.b (.int .i32 a0))] (.bo r) := by
 unfold unicode_utf8_ValidRune at hr
 refine rf (fn := Tryd.f44) ⟨Tryd.func44, rfl, by kernel_rfl⟩ rfl (fun _ => rfl) fun g0 hg => ?_
 refine rn tk 7 rfl ?_
 refine jb hr (fun j1 => [(0, .pv (.b (.int .i32 a0))), (3, .bo j1)]) (fun j1 => []) (fun j1 hr => ?_) (fun j1 hr => ?_)
 ·
  refine rn tk 4 rfl ?_
  refine bs 6 hr rfl (fun c2 hr => ?_) (fun c2 hr => ?_)
  ·
   refine rn tk 5 rfl ?_
   cases hr
   exact jn _ rfl rfl rfl
  ·
   refine rn tk 5 rfl ?_
   cases hr
   exact jn _ rfl rfl rfl
 ·
  refine ac 3 hr rfl (fun c3 hr => ?_) (fun c3 hr => ?_)
  ·
   refine rn tk 8 rfl ?_
   cases hr
   exact kr tk (.inr rfl) rfl rfl
  ·
   refine jb hr (fun j4 => [(10, .bo j4)]) (fun j4 => []) (fun j4 hr => ?_) (fun j4 hr => ?_)
   ·
    refine rn tk 4 rfl ?_
    refine bs 13 hr rfl (fun c5 hr => ?_) (fun c5 hr => ?_)
    ·
     refine rn tk 5 rfl ?_
     cases hr
     exact jn _ rfl rfl rfl
    ·
     refine rn tk 5 rfl ?_
     cases hr
     exact jn _ rfl rfl rfl
   ·
    refine ac 10 hr rfl (fun c6 hr => ?_) (fun c6 hr => ?_)
    ·
     refine rn tk 8 rfl ?_
     cases hr
     exact kr tk (.inr rfl) rfl rfl
    ·
     refine rn tk 9 rfl ?_
     cases hr
     exact kr tk (.inr rfl) rfl rfl
theorem strings_IndexRune_run (a0 : Str) (a1 : Int) (r : Int) (hr : strings_IndexRune a0 a1 = some r) : Run Tryd.prog 33 [.s a0, .pv (.b (.int .i32 a1))] (.i r) := by
 unfold strings_IndexRune at hr
 refine rf (fn := Tryd.f33) ⟨Tryd.func33, rfl, by kernel_rfl⟩ rfl (fun _ => rfl) fun g0 hg => ?_
 refine rn tk 6 rfl ?_
 refine jb hr (fun j1 => [(0, .s a0), (1, .pv (.b (.int .i32 a1))), (160, .bo j1)]) (fun j1 => []) (fun j1 hr => ?_) (fun j1 hr => ?_)
 ·
  refine rn tk 4 rfl ?_
  refine bs 163 hr rfl (fun c2 hr => ?_) (fun c2 hr => ?_)
  ·
   refine rn tk 5 rfl ?_
   cases hr
   exact jn _ rfl rfl rfl
  ·
   refine rn tk 5 rfl ?_
   cases hr
   exact jn _ rfl rfl rfl
 ·
  refine ac 160 hr rfl (fun c3 hr => ?_) (fun c3 hr => ?_)
  ·
   refine rn tk 5 rfl ?_
   obtain ⟨v4, h5, hr⟩ := bind_some hr
   refine cl (strings_IndexByte_run _ _ _ h5) rfl rfl ?_
   refine rn tk 5 rfl ?_
   cases hr
   exact kr tk (.inr rfl) rfl rfl
  ·
   refine rn tk 7 rfl ?_
   refine ac 171 hr rfl (fun c6 hr => ?_) (fun c6 hr => ?_)
   ·
    refine rn tk 4 rfl ?_
    refine wr 1175 tk rfl rfl rfl rfl ?_
    refine rn tk 3 rfl ?_
    refine al2 hr (fun s7 => [(175, .ptr 1175 0)]) (fun s7 => [(1175, .it (strB a0) s7)]) (.exit 9) (fun b8 => []) (fun b8 => []) .ret (fun b9 => [(4, .i b9)]) (fun b9 => []) rfl rfl (fun s7 x11 hr => ?_) (fun b8 hr => ?_) (fun b9 hr => ?_)
    ·
     unfold strings_IndexRune_l1 at hr
     refine rn tk 2 rfl ?_
     refine wnx hr rfl rfl rfl (fun c12 hr => ?_) (fun c12 hr => ?_)
     ·
      refine rn tk 22 rfl ?_
      refine ac 181 hr rfl (fun c13 hr => ?_) (fun c13 hr => ?_)
      ·
       refine rn tk 8 rfl ?_
       cases hr
       exact ato rfl rfl rfl rfl
      ·
       refine rn tk 2 rfl ?_
       cases hr
       exact atc rfl rfl
     ·
      refine rn tk 7 rfl ?_
      cases hr
      exact ato rfl rfl rfl rfl
    ·
     refine rn tk 9 rfl ?_
     cases hr
     exact kr tk (.inr rfl) rfl rfl
    ·
     refine rn tk 3 rfl ?_
     cases hr
     exact kr tk (.inr rfl) rfl rfl
   ·
    refine rn tk 3 rfl ?_
    obtain ⟨v14, h15, hr⟩ := bind_some hr
    refine cl (unicode_utf8_ValidRune_run _ _ h15) rfl rfl ?_
    refine rn tk 4 rfl ?_
    refine ac 183 hr rfl (fun c16 hr => ?_) (fun c16 hr => ?_)
    ·
     refine rn tk 7 rfl ?_
     cases hr
     exact kr tk (.inr rfl) rfl rfl
    ·
     refine rn tk 29 rfl ?_
     refine al2 hr (fun s17 => [(0, .s a0), (7, .s ((runeS a1))), (8, .i ((w64 ((((runeS a1)).length : Int) - 1)))), (9, .i s17)]) (fun s17 => []) (.exit 1) (fun b18 => []) (fun b18 => []) .ret (fun b19 => [(4, .i b19)]) (fun b19 => []) rfl rfl (fun s17 x21 hr => ?_) (fun b18 hr => ?_) (fun b19 hr => ?_)
     ·
      unfold strings_IndexRune_l2 at hr
      refine rn tk 9 rfl ?_
      refine ac 26 hr rfl (fun c22 hr => ?_) (fun c22 hr => ?_)
      ·
       refine rn tk 4 rfl ?_
       refine jk (fun j23 => [(0, .s a0), (7, .s ((runeS a1))), (8, .i j23.1), (9, .i j23.2)]) (fun j23 => []) (fun j23 => strings_IndexRune_k3 a0 a1 j23 = some x21) ?_ ?_
       ·
        refine rn tk 1 rfl ?_
        obtain ⟨v24, h25, hr⟩ := bind_some hr
        obtain ⟨v26, h27, hr⟩ := bind_some hr
        refine dr 6 [(32, .u8 v26), (31, .i ((w64 ((((runeS a1)).length : Int) - 1)))), (30, .s ((runeS a1))), (29, .u8 v24), (28, .i s17), (27, .s a0)] mixed (by kernel_rfl) rfl rfl (pq tk rfl (.plain rfl) (pq tk rfl (.plain rfl) (.run (.plain rfl) (opG_q (ev_sidx rfl rfl ty_string h25)) (pq tk rfl (.plain rfl) (pq tk rfl (.plain rfl) (.run (.plain rfl) (opG_q (ev_sidx rfl rfl ty_string h27)) .nil)))))) rfl ?_
        refine rn tk 3 rfl ?_
        refine ac 33 hr rfl (fun c28 hr => ?_) (fun c28 hr => ?_)
        ·
         refine rn tk 1 rfl ?_
         obtain ⟨v29, h30, hr⟩ := bind_some hr
         obtain ⟨v31, h32, hr⟩ := bind_some hr
         refine dr 7 [(40, .u8 v31), (39, .i ((w64 ((((runeS a1)).length : Int) - 1)))), (38, .s ((runeS a1))), (37, .s v29), (36, .i ((w64 (s17 + 1)))), (35, .i s17), (34, .s a0)] mixed (by kernel_rfl) rfl rfl (pq tk rfl (.plain rfl) (pq tk rfl (.plain rfl) (pq tk rfl (.plain rfl) (.run (.plain rfl) (opG_q (ev_scutL rfl rfl ty_string h30)) (pq tk rfl (.plain rfl) (pq tk rfl (.plain rfl) (.run (.plain rfl) (opG_q (ev_sidx rfl rfl ty_string h32)) .nil))))))) rfl ?_
         obtain ⟨v33, h34, hr⟩ := bind_some hr
         refine cl (strings_IndexByte_run _ _ _ h34) rfl rfl ?_
         refine rn tk 10 rfl ?_
         refine ac 43 hr rfl (fun c35 hr => ?_) (fun c35 hr => ?_)
         ·
          refine rn tk 10 rfl ?_
          cases hr
          exact ato rfl rfl rfl rfl
         ·
          refine rn tk 9 rfl ?_
          exact jn (((w64 ((((runeS a1)).length : Int) - 1)), (w64 (s17 + (w64 (v33 + 1)))))) hr rfl rfl
        ·
         refine rn tk 1 rfl ?_
         exact jn (((w64 ((((runeS a1)).length : Int) - 1)), s17)) hr rfl rfl
       ·
        intro j23 hr
        unfold strings_IndexRune_k3 at hr
        refine rn tk 7 rfl ?_
        refine al1 hr (fun s36 => [(0, .s a0), (7, .s ((runeS a1))), (8, .i j23.1), (9, .i j23.2), (12, .i s36)]) (fun s36 => []) (.exit 3) (fun b37 => [(8, .i j23.1), (9, .i j23.2)]) (fun b37 => []) rfl rfl (fun s36 x38 hr => ?_) (fun b37 hr => ?_)
        ·
         unfold strings_IndexRune_l4 at hr
         refine rn tk 9 rfl ?_
         refine ac 51 hr rfl (fun c39 hr => ?_) (fun c39 hr => ?_)
         ·
          refine rn tk 5 rfl ?_
          obtain ⟨v40, h41, hr⟩ := bind_some hr
          obtain ⟨v42, h43, hr⟩ := bind_some hr
          refine dr 10 [(63, .u8 v42), (62, .i ((w64 (j23.1 - s36)))), (61, .i s36), (60, .i j23.1), (59, .s ((runeS a1))), (58, .u8 v40), (57, .i ((w64 (j23.2 - s36)))), (56, .i s36), (55, .i j23.2), (54, .s a0)] mixed (by kernel_rfl) rfl rfl (pq tk rfl (.plain rfl) (pq tk rfl (.plain rfl) (pq tk rfl (.plain rfl) (pq tk rfl (.plain rfl) (.run (.plain rfl) (opG_q (ev_sidx rfl rfl ty_string h41)) (pq tk rfl (.plain rfl) (pq tk rfl (.plain rfl) (pq tk rfl (.plain rfl) (pq tk rfl (.plain rfl) (.run (.plain rfl) (opG_q (ev_sidx rfl rfl ty_string h43)) .nil)))))))))) rfl ?_
          refine rn tk 3 rfl ?_
          refine ac 64 hr rfl (fun c44 hr => ?_) (fun c44 hr => ?_)
          ·
           cases hr
          ·
           refine rn tk 8 rfl ?_
           cases hr
           exact atc rfl rfl
         ·
          refine rn tk 2 rfl ?_
          cases hr
          exact ato rfl rfl rfl rfl
        ·
         refine rn tk 15 rfl ?_
         cases hr
         exact ato rfl rfl rfl rfl
      ·
       refine rn tk 2 rfl ?_
       cases hr
       exact ato rfl rfl rfl rfl
     ·
      refine rn tk 12 rfl ?_
      cases hr
      exact kr tk (.inr rfl) rfl rfl
     ·
      refine rn tk 4 rfl ?_
      cases hr
      exact kr tk (.inr rfl) rfl rfl
theorem strings_shouldUseASCIISet_run (a0 : Int) (r : Bool) (hr : strings_shouldUseASCIISet a0 = some r) : Run Tryd.prog 34 [.i a0] (.bo r) := by
 unfold strings_shouldUseASCIISet at hr
 refine rf (fn := Tryd.f34) ⟨Tryd.func34, rfl, by kernel_rfl⟩ rfl (fun _ => rfl) fun g0 hg => ?_
 refine rn tk 13 rfl ?_
 cases hr
 exact kr tk (.inr rfl) rfl rfl
theorem strings_IndexAnyP_run (a0 : Str) (a1 : Str) (r : Int) (hr : strings_IndexAnyP a0 a1 = some r) : Run Tryd.prog 29 [.s a0, .s a1] (.i r) := by
 unfold strings_IndexAnyP at hr
 refine rf (fn := Tryd.f29) ⟨Tryd.func29, rfl, by kernel_rfl⟩ rfl (fun _ => rfl) fun g0 hg => ?_
 refine rn tk 12 rfl ?_
 refine ac 12 hr rfl (fun c1 hr => ?_) (fun c1 hr => ?_)
 ·
  refine rn tk 7 rfl ?_
  cases hr
  exact kr tk (.inr rfl) rfl rfl
 ·
  refine rn tk 10 rfl ?_
  refine ac 15 hr rfl (fun c2 hr => ?_) (fun c2 hr => ?_)
  ·
   refine rn tk 3 rfl ?_
   obtain ⟨v3, h4, hr⟩ := bind_some hr
   refine ws tk h4 rfl rfl rfl rfl ?_
   refine wur tk rfl rfl rfl ?_
   refine rn tk 3 rfl ?_
   refine jb hr (fun j5 => [(0, .s a0), (5, .pv (.b (.int .i32 j5)))]) (fun j5 => []) (fun j5 hr => ?_) (fun j5 hr => ?_)
   ·
    refine rn tk 6 rfl ?_
    refine ac 20 hr rfl (fun c6 hr => ?_) (fun c6 hr => ?_)
    ·
     refine rn tk 3 rfl ?_
     cases hr
     exact jn _ rfl rfl rfl
    ·
     refine rn tk 1 rfl ?_
     cases hr
     exact jn _ rfl rfl rfl
   ·
    refine rn tk 4 rfl ?_
    obtain ⟨v7, h8, hr⟩ := bind_some hr
    refine cl (strings_IndexRune_run _ _ _ h8) rfl rfl ?_
    refine rn tk 5 rfl ?_
    cases hr
    exact kr tk (.inr rfl) rfl rfl
  ·
   refine rn tk 7 rfl ?_
   obtain ⟨v9, h10, hr⟩ := bind_some hr
   refine cl (strings_shouldUseASCIISet_run _ _ h10) rfl rfl ?_
   refine rn tk 2 rfl ?_
   refine ac 26 hr rfl (fun c11 hr => ?_) (fun c11 hr => ?_)
   ·
    refine rn tk 3 rfl ?_
    cases hr
   ·
    refine rn tk 6 rfl ?_
    refine wr 1045 tk rfl rfl rfl rfl ?_
    refine rn tk 3 rfl ?_
    refine al2 hr (fun s12 => [(1, .s a1), (45, .ptr 1045 0)]) (fun s12 => [(1045, .it (strB a0) s12)]) (.exit 2) (fun b13 => []) (fun b13 => []) .ret (fun b14 => [(4, .i b14)]) (fun b14 => []) rfl rfl (fun s12 x16 hr => ?_) (fun b13 hr => ?_) (fun b14 hr => ?_)
    ·
     unfold strings_IndexAnyP_l1 at hr
     refine rn tk 2 rfl ?_
     refine wnx hr rfl rfl rfl (fun c17 hr => ?_) (fun c17 hr => ?_)
     ·
      refine rn tk 20 rfl ?_
      obtain ⟨v18, h19, hr⟩ := bind_some hr
      refine cl (strings_IndexRune_run _ _ _ h19) rfl rfl ?_
      refine rn tk 3 rfl ?_
      refine ac 53 hr rfl (fun c20 hr => ?_) (fun c20 hr => ?_)
      ·
       refine rn tk 8 rfl ?_
       cases hr
       exact ato rfl rfl rfl rfl
      ·
       refine rn tk 2 rfl ?_
       cases hr
       exact atc rfl rfl
     ·
      refine rn tk 7 rfl ?_
      cases hr
      exact ato rfl rfl rfl rfl
    ·
     refine rn tk 8 rfl ?_
     cases hr
     exact kr tk (.inr rfl) rfl rfl
    ·
     refine rn tk 2 rfl ?_
     cases hr
     exact kr tk (.inr rfl) rfl rfl
end Go.Proofs.YtkoijpogjobgjaaDoor

/- Library functions compute what their Lean functions do. -/
namespace Go.Proofs.YtkoijpogjobgjaaDoor
open Go.RowKit
set_option maxRecDepth 100000
theorem old_allocL (g : G) (vs : Array Value) (t : TypeId) : Old (fun _ => False) g ⟨g.w.alloc (.cells vs t), fun k => if k = g.w.heap.size then 0 else g.u k, g.loc⟩ := by
  have h := old_alloc g vs t 0 0 (g.loc 0)
  have e : (g.alloc vs t 0 0 (g.loc 0)) = ⟨g.w.alloc (.cells vs t), fun k => if k = g.w.heap.size then 0 else g.u k, g.loc⟩ := by
    unfold G.alloc
    congr 1
    funext k
    split
    · rename_i hk; rw [hk]
    · rfl
  rw [← e]; exact h
theorem wf_allocL {g : G} (h : Wf g) (vs : Array Value) (t : TypeId) : Wf ⟨g.w.alloc (.cells vs t), fun k => if k = g.w.heap.size then 0 else g.u k, g.loc⟩ := by
  intro k hk
  have hk : g.w.heap.size + 1 ≤ k := by simpa using hk
  show (if k = g.w.heap.size then 0 else g.u k) = 0
  rw [if_neg (by omega)]
  exact h k (by omega)
theorem ascii_data {t : Str} (h : asciiL t = true) : ∀ (j : Nat) b, (strB t).data.toList[j]? = some b → b.toNat < 128 := fun j b hb => asciiL_mem h (List.mem_of_getElem? hb)
theorem strings_IndexAny_run (s t : Str) (r : Int) (hr : strings_IndexAny s t = some r) : Run Tryd.prog 29 [.s s, .s t] (.i r) := by
  unfold strings_IndexAny at hr
  split at hr
  case isFalse => cases hr
  rename_i hc
  obtain ⟨h1, h2, h3, h4⟩ := hc
  by_cases h8 : s.length ≤ 8
  · exact strings_IndexAnyP_run s t r (by rw [IndexAnyP_eq s t h8 h3 h2 h4]; exact hr)
  · cases hr
    refine ⟨⟨_, _, ⟨Tryd.func29, rfl, by kernel_rfl⟩⟩, fun g vs hw hg ha => ?_⟩
    obtain ⟨hsz, hrel⟩ := ha
    obtain ⟨l⟩ := vs
    match l, hsz with
    | [x, y], _ =>
      obtain rfl := str_arg (hrel 0 _ rfl)
      obtain rfl := str_arg (hrel 1 _ rfl)
      have h116 : (Tryd.prog.info? 60).map (fun i => (i.zero, i.size)) = some (some (.agg (Array.replicate 256 (.bool false))), 256) := by kernel_rfl
      have hz := (zero_of_info h116).1
      refine callsIn_wide.2 ((Tryd.strings_IndexAny_long hz (strB s) (strB t) g.w (by rw [strB_size]; exact h3) (by rw [strB_size]; omega) (by rw [strB_size]; exact h1) (by rw [strB_size]; exact h2) (ascii_data h4)).mono ?_)
      rintro e w' ⟨rfl, rfl⟩
      have o1 := old_allocL g (Lib.setCells t) 60
      have w1 := wf_allocL hw (Lib.setCells t) 60
      have o2 := old_allocL ⟨g.w.alloc (.cells (Lib.setCells t) 60), fun k => if k = g.w.heap.size then 0 else g.u k, g.loc⟩ (Lib.setCells t) 60
      have w2 := wf_allocL w1 (Lib.setCells t) 60
      have o3 : Old (fun _ => False) g _ := o1.trans (o2.mono (S' := fun b => False ∨ g.w.heap.size ≤ b) (by intro b _ hf; exact hf.elim))
      exact ⟨⟨_, _, _⟩, _, rfl, (by rfl), o3, w2, (by rfl), .pv (.b rfl)⟩
end Go.Proofs.YtkoijpogjobgjaaDoor

namespace Go.Proofs.YtkoijpogjobgjaaDoor
open Go.RowKit
set_option maxRecDepth 100000
set_option maxHeartbeats 40000000
set_option linter.unusedVariables false
theorem strings_ContainsAny_run (a0 : Str) (a1 : Str) (r : Bool) (hr : strings_ContainsAny a0 a1 = some r) : Run Tryd.prog 24 [.s a0, .s a1] (.bo r) := by
 unfold strings_ContainsAny at hr
 refine rf (fn := Tryd.f24) ⟨Tryd.func24, rfl, by kernel_rfl⟩ rfl (fun _ => rfl) fun g0 hg => ?_
 refine rn tk 9 rfl ?_
 obtain ⟨v1, h2, hr⟩ := bind_some hr
 refine cl (strings_IndexAny_run _ _ _ h2) rfl rfl ?_
 refine rn tk 5 rfl ?_
 cases hr
 exact kr tk (.inr rfl) rfl rfl
theorem reply_Validate_run (a0 : TReply) (r : TFault) (hr : reply_Validate a0 = some r) : Run Tryd.prog 10 [.agg [.i a0.Code, .l cS a0.Lines]] (.agg [.i r.Code, .i r.Index]) := by
 unfold reply_Validate at hr
 refine rf (fn := Tryd.f10) ⟨Tryd.func10, rfl, by kernel_rfl⟩ rfl (fun _ => rfl) fun g0 hg => ?_
 refine rn tk 11 rfl ?_
 obtain ⟨v1, h2, hr⟩ := bind_some hr
 refine cl (reply_code_run _ _ h2) rfl rfl ?_
 refine rn tk 3 rfl ?_
 refine ac 8 hr rfl (fun c3 hr => ?_) (fun c3 hr => ?_)
 ·
  refine rn tk 2 rfl ?_
  obtain ⟨v4, h5, hr⟩ := bind_some hr
  refine cl (basic_Fault_run _ _ _ h5) rfl rfl ?_
  refine rn tk 5 rfl ?_
  cases hr
  exact kr tk (.inr rfl) rfl rfl
 ·
  refine rn tk 3 rfl ?_
  refine jb hr (fun j6 => [(1, .ptr 1 0), (2, .ptr 2 0), (19, .bo j6)]) (fun j6 => [(2, .cells [.i 0, .i 0]), (1, .cells [.i a0.Code, .l cS a0.Lines])]) (fun j6 hr => ?_) (fun j6 hr => ?_)
  ·
   refine rn tk 3 rfl ?_
   refine wn tk rfl rfl rfl ?_
   refine rn tk 2 rfl ?_
   refine bs 14 hr rfl (fun c7 hr => ?_) (fun c7 hr => ?_)
   ·
    refine rn tk 6 rfl ?_
    cases hr
    exact jn _ rfl rfl rfl
   ·
    refine rn tk 2 rfl ?_
    refine ug rfl rfl rfl ?_
    refine wn tk rfl rfl rfl ?_
    refine rn tk 3 rfl ?_
    cases hr
    exact jn _ rfl rfl rfl
  ·
   refine ac 19 hr rfl (fun c8 hr => ?_) (fun c8 hr => ?_)
   ·
    refine rn tk 2 rfl ?_
    obtain ⟨v9, h10, hr⟩ := bind_some hr
    refine cl (basic_Fault_run _ _ _ h10) rfl rfl ?_
    refine rn tk 5 rfl ?_
    cases hr
    exact kr tk (.inr rfl) rfl rfl
   ·
    refine rn tk 7 rfl ?_
    refine wn tk rfl rfl rfl ?_
    refine rn tk 4 rfl ?_
    refine al2 hr (fun s11 => [(2, .ptr 2 0), (22, .l cS a0.Lines), (23, .i ((a0.Lines.length : Int))), (24, .i s11)]) (fun s11 => [(2, .cells [.i 0, .i 0])]) (.exit 0) (fun b12 => [(2, .ptr 2 0)]) (fun b12 => [(2, .cells [.i 0, .i 0])]) .ret (fun b13 => [(2, .ptr 2 0)]) (fun b13 => [(2, .cells [.i b13.Code, .i b13.Index])]) rfl rfl (fun s11 x15 hr => ?_) (fun b12 hr => ?_) (fun b13 hr => ?_)
    ·
     unfold reply_Validate_l1 at hr
     refine rn tk 6 rfl ?_
     refine ac 25 hr rfl (fun c16 hr => ?_) (fun c16 hr => ?_)
     ·
      refine rn tk 7 rfl ?_
      obtain ⟨v17, h18, hr⟩ := bind_some hr
      refine wi tk h18 rfl rfl rfl rfl rfl ?_
      refine rn tk 13 rfl ?_
      refine ac 31 hr rfl (fun c19 hr => ?_) (fun c19 hr => ?_)
      ·
       refine rn tk 3 rfl ?_
       obtain ⟨v20, h21, hr⟩ := bind_some hr
       refine cl (basic_Fault_run _ _ _ h21) rfl rfl ?_
       refine rn tk 7 rfl ?_
       cases hr
       exact ato rfl rfl rfl rfl
      ·
       refine rn tk 5 rfl ?_
       obtain ⟨v22, h23, hr⟩ := bind_some hr
       refine cl (strings_ContainsAny_run _ _ _ h23) rfl rfl ?_
       refine rn tk 2 rfl ?_
       refine ac 35 hr rfl (fun c24 hr => ?_) (fun c24 hr => ?_)
       ·
        refine rn tk 3 rfl ?_
        obtain ⟨v25, h26, hr⟩ := bind_some hr
        refine cl (basic_Fault_run _ _ _ h26) rfl rfl ?_
        refine rn tk 6 rfl ?_
        cases hr
        exact ato rfl rfl rfl rfl
       ·
        refine rn tk 7 rfl ?_
        cases hr
        exact atc rfl rfl
     ·
      refine rn tk 2 rfl ?_
      cases hr
      exact ato rfl rfl rfl rfl
    ·
     refine rn tk 4 rfl ?_
     obtain ⟨v27, h28, hr⟩ := bind_some hr
     refine cl (basic_None_run _ h28) rfl rfl ?_
     refine rn tk 4 rfl ?_
     cases hr
     exact kr tk (.inr rfl) rfl rfl
    ·
     refine rn tk 2 rfl ?_
     cases hr
     exact kr tk (.inr rfl) rfl rfl
theorem reply_Class_run (a0 : TReply) (r : Int × TFault) (hr : reply_Class a0 = some r) : Run Tryd.prog 8 [.agg [.i a0.Code, .l cS a0.Lines]] (.tup [.i r.1, .agg [.i r.2.Code, .i r.2.Index]]) := by
 unfold reply_Class at hr
 refine rf (fn := Tryd.f8) ⟨Tryd.func8, rfl, by kernel_rfl⟩ rfl (fun _ => rfl) fun g0 hg => ?_
 refine rn tk 11 rfl ?_
 obtain ⟨v1, h2, hr⟩ := bind_some hr
 refine cl (reply_Validate_run _ _ h2) rfl rfl ?_
 refine rn tk 7 rfl ?_
 obtain ⟨v3, h4, hr⟩ := bind_some hr
 refine cl (basic_Failed_run _ _ h4) rfl rfl ?_
 refine rn tk 2 rfl ?_
 refine ac 8 hr rfl (fun c5 hr => ?_) (fun c5 hr => ?_)
 ·
  refine rn tk 1 rfl ?_
  refine dr 2 [(2, .i 0), (9, .agg [.i v1.Code, .i v1.Index])] mixed (by kernel_rfl) rfl rfl (pq tk rfl (.plain rfl) (pq tk rfl (.plain rfl) .nil)) rfl ?_
  refine rn tk 5 rfl ?_
  cases hr
  exact kr tk (.inr rfl) rfl rfl
 ·
  refine rn tk 3 rfl ?_
  obtain ⟨v6, h7, hr⟩ := bind_some hr
  refine dr 4 [(13, .agg [.i v6.Code, .i v6.Index]), (12, .i ((iQuo a0.Code 100))), (11, .i a0.Code), (10, .ptr 1 0)] mixed (by kernel_rfl) rfl rfl (pq tk rfl (.plain rfl) (pq tk rfl (.plain rfl) (.run (.plain rfl) (opG_q (ev_iquo rfl rfl rfl)) (.run (.plain rfl) (opG_call (basic_None_run  v6 h7) rfl) .nil)))) rfl ?_
  refine rn tk 5 rfl ?_
  cases hr
  exact kr tk (.inr rfl) rfl rfl
end Go.Proofs.YtkoijpogjobgjaaDoor

/- Numerals of the library: the functions compute what their Lean functions do. -/
namespace Go.Proofs.YtkoijpogjobgjaaDoor
open Go.RowKit
set_option maxRecDepth 100000
theorem str_argN {g : G} {s : Str} {v : Value} (h : Rel g (.s s) v) : v = .string (strB s) := rel_b h
theorem pow_tab {g : G} (hg : Gl g) : Lib.TabIs Tryd.prog g.w "internal/strconv.uint64pow10" .u64 Lib.pow10Tab := by
  obtain ⟨t, fz, h⟩ := hg.2 (0, (Lib.pow10Tab.map fun z => Value.int .u64 z).toArray) (by simp [globK])
  have hn : Tryd.prog.globalNamed "internal/strconv.uint64pow10" = some 0 := by kernel_rfl
  unfold Lib.TabIs World.var?
  rw [hn]
  simp only [Option.bind_some]
  simp only at h
  rw [h]
theorem old_more (g : G) (q : Nat) (os : Array Obj) : Old (fun _ => False) g ⟨Go.Sort.grow (g.w.drewN q) os, g.u, g.loc⟩ := by
  have hb : ∀ k, k < g.w.heap.size → (Go.Sort.grow (g.w.drewN q) os).heap[k]? = g.w.heap[k]? := by
    intro k hk
    show (g.w.heap ++ os)[k]? = _
    rw [Array.getElem?_append_left hk]
  refine ⟨rfl, rfl, rfl, ⟨?_, fun _ _ => Nat.le_refl _, fun k i hk hi => ?_, fun r hr => (hb r (blk_lt hr)).trans hr⟩, fun k hk _ => ⟨hb k hk, rfl⟩⟩
  · show g.w.heap.size ≤ (g.w.heap ++ os).size
    simp
  · simp only [World.cell?]; rw [hb k hk]
theorem old_bytes (g : G) (e : TypeId) (s : ByteArray) : Old (fun _ => False) g ⟨Lib.bytesWorld g.w e s, g.u, g.loc⟩ := by
  generalize hw : Lib.bytesWorld g.w e s = w'
  unfold Lib.bytesWorld at hw
  have hother : ∀ q, q < g.w.heap.size → w'.heap[q]? = g.w.heap[q]? := by
    intro q hq
    subst hw
    simp only [World.freeze, Nat.one_ne_zero, if_false, Array.getElem?_modify]
    rw [if_neg (by omega)]
    exact Below.heap_alloc g.w.drew _ _ hq
  have hws : w'.heap.size = g.w.heap.size + 1 := by subst hw; simp [World.freeze]
  refine ⟨by subst hw; first | (simp [World.freeze]; done) | (simp [World.freeze]; rfl), by subst hw; first | (simp [World.freeze]; done) | (simp [World.freeze]; rfl), by subst hw; first | (simp [World.freeze]; done) | (simp [World.freeze]; rfl), ⟨by show g.w.heap.size ≤ w'.heap.size; omega, fun _ _ => Nat.le_refl _, fun k i hk hi => ?_, fun r hr => (hother r (blk_lt hr)).trans hr⟩, fun k hk _ => ⟨hother k hk, rfl⟩⟩
  simp only [World.cell?]; rw [hother k hk]
theorem strconv_Itoa_run (n : Int) (r : Str) (hr : strconv_Itoa n = some r) : Run Tryd.prog 20 [.i n] (.s r) := by
  unfold strconv_Itoa at hr
  split at hr
  case isFalse => cases hr
  rename_i hlen
  cases hr
  refine ⟨⟨_, _, ⟨Tryd.func20, rfl, by kernel_rfl⟩⟩, fun g vs hw hg ha => ?_⟩
  obtain ⟨hsz, hrel⟩ := ha
  obtain ⟨l⟩ := vs
  match l, hsz with
  | [x], _ =>
    have e2 : x = .int .i64 n := rel_b (hrel 0 _ rfl)
    subst e2
    refine callsIn_wide.2 ((Tryd.strconv_Itoa n hlen.1 hlen.2 g.w (pow_tab hg)).mono ?_)
    rintro e w' ⟨rfl, q, os, rfl⟩
    exact ⟨⟨Go.Sort.grow (g.w.drewN q) os, g.u, g.loc⟩, _, rfl, rfl, old_more g q os, fun k hk => hw k (Nat.le_trans (old_more g q os).ext.size hk), rfl, .pv (.b rfl)⟩
theorem strconv_Atoi_run (s : Str) (r : Int × Unit) (hr : strconv_Atoi s = some r) : Run Tryd.prog 31 [.s s] (.tup [.i r.1, .any]) := by
  unfold strconv_Atoi at hr
  split at hr
  case isFalse => cases hr
  rename_i hlen
  cases hn : Lib.atoi s with
  | none => rw [hn] at hr; cases hr
  | some n =>
    rw [hn] at hr
    cases hr
    refine ⟨⟨_, _, ⟨Tryd.func31, rfl, by kernel_rfl⟩⟩, fun g vs hw hg ha => ?_⟩
    obtain ⟨hsz, hrel⟩ := ha
    obtain ⟨l⟩ := vs
    match l, hsz with
    | [x], _ =>
      obtain rfl := str_argN (hrel 0 _ rfl)
      refine callsIn_wide.2 ((Tryd.strconv_Atoi (strB s) n (by rw [strB_size]; exact hlen) (by simpa [strB] using hn) g.w).mono ?_)
      rintro e w' ⟨rfl, t, rfl⟩
      exact ⟨⟨_, g.u, g.loc⟩, _, rfl, rfl, old_bytes g _ _, fun k hk => hw k (Nat.le_trans (old_bytes g _ _).ext.size hk), rfl, .tup rfl fun i c hi => by
        match i, hi with
        | 0, rfl => exact .pv (.b rfl)
        | 1, rfl => exact .any _⟩
end Go.Proofs.YtkoijpogjobgjaaDoor

namespace Go.Proofs.YtkoijpogjobgjaaDoor
open Go.RowKit
set_option maxRecDepth 100000
set_option maxHeartbeats 40000000
set_option linter.unusedVariables false
theorem basic_Digits_run (a0 : Str) (r : Bool) (hr : basic_Digits a0 = some r) : Run Tryd.prog 30 [.s a0] (.bo r) := by
 unfold basic_Digits at hr
 refine rf (fn := Tryd.f30) ⟨Tryd.func30, rfl, by kernel_rfl⟩ rfl (fun _ => rfl) fun g0 hg => ?_
 refine rn tk 14 rfl ?_
 refine al2 hr (fun s1 => [(0, .s a0), (5, .i ((a0.length : Int))), (6, .i s1)]) (fun s1 => []) (.exit 0) (fun b2 => [(0, .s a0)]) (fun b2 => []) .ret (fun b3 => [(2, .bo b3)]) (fun b3 => []) rfl rfl (fun s1 x5 hr => ?_) (fun b2 hr => ?_) (fun b3 hr => ?_)
 ·
  unfold basic_Digits_l1 at hr
  refine rn tk 6 rfl ?_
  refine ac 7 hr rfl (fun c6 hr => ?_) (fun c6 hr => ?_)
  ·
   refine rn tk 10 rfl ?_
   refine jb hr (fun j7 => [(0, .s a0), (5, .i ((a0.length : Int))), (6, .i s1), (18, .bo j7)]) (fun j7 => []) (fun j7 hr => ?_) (fun j7 hr => ?_)
   ·
    refine rn tk 3 rfl ?_
    obtain ⟨v8, h9, hr⟩ := bind_some hr
    refine ws tk h9 rfl rfl rfl rfl ?_
    refine rn tk 2 rfl ?_
    refine bs 13 hr rfl (fun c10 hr => ?_) (fun c10 hr => ?_)
    ·
     refine rn tk 6 rfl ?_
     cases hr
     exact jn _ rfl rfl rfl
    ·
     refine rn tk 2 rfl ?_
     obtain ⟨v11, h12, hr⟩ := bind_some hr
     refine ug rfl rfl rfl ?_
     refine ws tk h12 rfl rfl rfl rfl ?_
     refine rn tk 3 rfl ?_
     cases hr
     exact jn _ rfl rfl rfl
   ·
    refine ac 18 hr rfl (fun c13 hr => ?_) (fun c13 hr => ?_)
    ·
     refine rn tk 8 rfl ?_
     cases hr
     exact ato rfl rfl rfl rfl
    ·
     refine rn tk 7 rfl ?_
     cases hr
     exact atc rfl rfl
  ·
   refine rn tk 2 rfl ?_
   cases hr
   exact ato rfl rfl rfl rfl
 ·
  refine rn tk 10 rfl ?_
  cases hr
  exact kr tk (.inr rfl) rfl rfl
 ·
  refine rn tk 2 rfl ?_
  cases hr
  exact kr tk (.inr rfl) rfl rfl
theorem reply_read_run (a0 : Str) (r : Int × Str × Bool × Bool) (hr : reply_read a0 = some r) : Run Tryd.prog 26 [.s a0] (.tup [.i r.1, .s r.2.1, .bo r.2.2.1, .bo r.2.2.2]) := by
 unfold reply_read at hr
 refine rf (fn := Tryd.f26) ⟨Tryd.func26, rfl, by kernel_rfl⟩ rfl (fun _ => rfl) fun g0 hg => ?_
 refine rn tk 9 rfl ?_
 refine jb hr (fun j1 => [(0, .s a0), (30, .bo j1)]) (fun j1 => []) (fun j1 hr => ?_) (fun j1 hr => ?_)
 ·
  refine rn tk 5 rfl ?_
  refine bs 11 hr rfl (fun c2 hr => ?_) (fun c2 hr => ?_)
  ·
   refine rn tk 20 rfl ?_
   cases hr
   exact jn _ rfl rfl rfl
  ·
   refine rn tk 1 rfl ?_
   obtain ⟨v3, h4, hr⟩ := bind_some hr
   refine ug rfl rfl rfl ?_
   refine ws tk h4 rfl rfl rfl rfl ?_
   refine rn tk 2 rfl ?_
   refine bs 15 hr rfl (fun c5 hr => ?_) (fun c5 hr => ?_)
   ·
    refine rn tk 1 rfl ?_
    obtain ⟨v6, h7, hr⟩ := bind_some hr
    refine ug rfl rfl rfl ?_
    refine ws tk h7 rfl rfl rfl rfl ?_
    refine rn tk 4 rfl ?_
    refine bs 21 hr rfl (fun c8 hr => ?_) (fun c8 hr => ?_)
    ·
     refine rn tk 10 rfl ?_
     cases hr
     exact jn _ rfl rfl rfl
    ·
     refine rn tk 1 rfl ?_
     obtain ⟨v9, h10, hr⟩ := bind_some hr
     refine ug rfl rfl rfl ?_
     refine wscH tk h10 rfl rfl rfl rfl ?_
     obtain ⟨v11, h12, hr⟩ := bind_some hr
     refine ug rfl rfl rfl ?_
     refine cl (basic_Digits_run _ _ h12) rfl rfl ?_
     refine rn tk 3 rfl ?_
     refine bs 27 hr rfl (fun c13 hr => ?_) (fun c13 hr => ?_)
     ·
      refine rn tk 4 rfl ?_
      cases hr
      exact jn _ rfl rfl rfl
     ·
      refine rn tk 1 rfl ?_
      obtain ⟨v14, h15, hr⟩ := bind_some hr
      refine ug rfl rfl rfl ?_
      refine cl (strings_ContainsAny_run _ _ _ h15) rfl rfl ?_
      refine rn tk 2 rfl ?_
      cases hr
      exact jn _ rfl rfl rfl
   ·
    refine rn tk 7 rfl ?_
    obtain ⟨v16, h17, hr⟩ := bind_some hr
    refine ug rfl rfl rfl ?_
    refine wscH tk h17 rfl rfl rfl rfl ?_
    obtain ⟨v18, h19, hr⟩ := bind_some hr
    refine ug rfl rfl rfl ?_
    refine cl (basic_Digits_run _ _ h19) rfl rfl ?_
    refine rn tk 3 rfl ?_
    refine bs 27 hr rfl (fun c20 hr => ?_) (fun c20 hr => ?_)
    ·
     refine rn tk 4 rfl ?_
     cases hr
     exact jn _ rfl rfl rfl
    ·
     refine rn tk 1 rfl ?_
     obtain ⟨v21, h22, hr⟩ := bind_some hr
     refine ug rfl rfl rfl ?_
     refine cl (strings_ContainsAny_run _ _ _ h22) rfl rfl ?_
     refine rn tk 2 rfl ?_
     cases hr
     exact jn _ rfl rfl rfl
 ·
  refine ac 30 hr rfl (fun c23 hr => ?_) (fun c23 hr => ?_)
  ·
   refine rn tk 10 rfl ?_
   cases hr
   exact kr tk (.inr rfl) rfl rfl
  ·
   refine rn tk 5 rfl ?_
   obtain ⟨v24, h25, hr⟩ := bind_some hr
   refine wscH tk h25 rfl rfl rfl rfl ?_
   obtain ⟨v26, h27, hr⟩ := bind_some hr
   refine cl (strconv_Atoi_run _ _ h27) rfl rfl ?_
   refine rn tk 8 rfl ?_
   obtain ⟨v28, h29, hr⟩ := bind_some hr
   obtain ⟨v30, h31, hr⟩ := bind_some hr
   obtain ⟨v32, h33, hr⟩ := bind_some hr
   refine dr 10 [(3, .s v28), (2, .i v26.1), (44, .bo v32), (43, .i v26.1), (42, .bo (((v30.toNat : Int) == 32))), (41, .u8 v30), (40, .s a0), (39, .s v28), (38, .s a0), (37, .i v26.1)] mixed (by kernel_rfl) rfl rfl (pq tk rfl (.plain rfl) (pq tk rfl (.plain rfl) (.run (.plain rfl) (opG_q (ev_scutL rfl rfl ty_string h29)) (pq tk rfl (.plain rfl) (.run (.plain rfl) (opG_q (ev_sidx rfl rfl ty_string h31)) (pq tk rfl (.plain rfl) (pq tk rfl (.plain rfl) (.run (.plain rfl) (opG_call (reply_code_run v26.1 v32 h33) rfl) (pq tk rfl (.plain rfl) (pq tk rfl (.plain rfl) .nil)))))))))) rfl ?_
   refine rn tk 5 rfl ?_
   cases hr
   exact kr tk (.inr rfl) rfl rfl
theorem reply_Parse_run (a0 : List Str) (r : TReply × Int × TFault) (hr : reply_Parse a0 = some r) : Run Tryd.prog 13 [.l cS a0] (.tup [.agg [.i r.1.Code, .l cS r.1.Lines], .i r.2.1, .agg [.i r.2.2.Code, .i r.2.2.Index]]) := by
 unfold reply_Parse at hr
 refine rf (fn := Tryd.f13) ⟨Tryd.func13, rfl, by kernel_rfl⟩ rfl (fun _ => rfl) fun g0 hg => ?_
 refine rn tk 11 rfl ?_
 refine wn tk rfl rfl rfl ?_
 refine rn tk 3 rfl ?_
 refine ac 15 hr rfl (fun c1 hr => ?_) (fun c1 hr => ?_)
 ·
  refine rn tk 3 rfl ?_
  obtain ⟨v2, h3, hr⟩ := bind_some hr
  refine cl (basic_Fault_run _ _ _ h3) rfl rfl ?_
  refine rn tk 7 rfl ?_
  cases hr
  exact kr tk (.inr rfl) rfl rfl
 ·
  refine rn tk 5 rfl ?_
  refine awpl_adoptC 1005 (o := 5) (j := 1) 9 1 rfl rfl rfl rfl (hO ?_)
  refine rn tk 6 rfl ?_
  refine wn tk rfl rfl rfl ?_
  refine rn tk 4 rfl ?_
  refine al2 hr (fun s4 => [(2, .ptr 2 0), (4, .ptr 4 0), (5, .ptr 5 0), (18, .l cS a0), (19, .i ((a0.length : Int))), (20, .i s4.1)]) (fun s4 => [(1005, .row 9 false 1 (List.map cS s4.2.1)), (5, .cells [.i s4.2.2, .hs 1005 0]), (4, .cells [.i 0, .i 0]), (2, .cells [.i 0, .l cS ([])])]) (.exit 0) (fun b5 => [(2, .ptr 2 0), (4, .ptr 4 0)]) (fun b5 => [(4, .cells [.i 0, .i 0]), (2, .cells [.i 0, .l cS ([])])]) .ret (fun b6 => [(2, .ptr 2 0), (3, .i b6.2.1), (4, .ptr 4 0)]) (fun b6 => [(2, .cells [.i b6.1.Code, .l cS b6.1.Lines]), (4, .cells [.i b6.2.2.Code, .i b6.2.2.Index])]) rfl rfl (fun s4 x8 hr => ?_) (fun b5 hr => ?_) (fun b6 hr => ?_)
  ·
   unfold reply_Parse_l1 at hr
   refine rn tk 6 rfl ?_
   refine ac 21 hr rfl (fun c9 hr => ?_) (fun c9 hr => ?_)
   ·
    refine rn tk 7 rfl ?_
    obtain ⟨v10, h11, hr⟩ := bind_some hr
    refine wi tk h11 rfl rfl rfl rfl rfl ?_
    refine rn tk 8 rfl ?_
    obtain ⟨v12, h13, hr⟩ := bind_some hr
    refine cl (reply_read_run _ _ h13) rfl rfl ?_
    refine rn tk 16 rfl ?_
    refine jb hr (fun j14 => [(2, .ptr 2 0), (4, .ptr 4 0), (5, .ptr 5 0), (6, .i s4.1), (8, .i v12.1), (9, .s v12.2.1), (10, .bo v12.2.2.1), (12, .i j14), (18, .l cS a0), (19, .i ((a0.length : Int))), (20, .i s4.1)]) (fun j14 => [(1005, .row 9 false 1 (List.map cS s4.2.1)), (5, .cells [.i s4.2.2, .hs 1005 0]), (4, .cells [.i 0, .i 0]), (2, .cells [.i 0, .l cS ([])])]) (fun j14 hr => ?_) (fun j14 hr => ?_)
    ·
     refine rn tk 8 rfl ?_
     refine ac 32 hr rfl (fun c15 hr => ?_) (fun c15 hr => ?_)
     ·
      refine rn tk 4 rfl ?_
      cases hr
      exact jn _ rfl rfl rfl
     ·
      refine rn tk 7 rfl ?_
      refine ac 35 hr rfl (fun c16 hr => ?_) (fun c16 hr => ?_)
      ·
       refine rn tk 4 rfl ?_
       cases hr
       exact jn _ rfl rfl rfl
      ·
       refine rn tk 8 rfl ?_
       refine ac 38 hr rfl (fun c17 hr => ?_) (fun c17 hr => ?_)
       ·
        refine rn tk 4 rfl ?_
        cases hr
        exact jn _ rfl rfl rfl
       ·
        refine jb hr (fun j18 => [(2, .ptr 2 0), (4, .ptr 4 0), (5, .ptr 5 0), (6, .i s4.1), (8, .i v12.1), (9, .s v12.2.1), (10, .bo v12.2.2.1), (12, .i 0), (18, .l cS a0), (19, .i ((a0.length : Int))), (20, .i s4.1), (42, .bo j18)]) (fun j18 => [(1005, .row 9 false 1 (List.map cS s4.2.1)), (5, .cells [.i s4.2.2, .hs 1005 0]), (4, .cells [.i 0, .i 0]), (2, .cells [.i 0, .l cS ([])])]) (fun j18 hr => ?_) (fun j18 hr => ?_)
        ·
         refine rn tk 4 rfl ?_
         refine bs 45 hr rfl (fun c19 hr => ?_) (fun c19 hr => ?_)
         ·
          refine rn tk 7 rfl ?_
          cases hr
          exact jn _ rfl rfl rfl
         ·
          refine rn tk 7 rfl ?_
          cases hr
          exact jn _ rfl rfl rfl
        ·
         refine ac 42 hr rfl (fun c20 hr => ?_) (fun c20 hr => ?_)
         ·
          refine rn tk 4 rfl ?_
          cases hr
          exact jn _ rfl rfl rfl
         ·
          refine rn tk 2 rfl ?_
          cases hr
          exact jn _ rfl rfl rfl
    ·
     refine rn tk 7 rfl ?_
     refine ac 52 hr rfl (fun c21 hr => ?_) (fun c21 hr => ?_)
     ·
      refine rn tk 5 rfl ?_
      obtain ⟨v22, h23, hr⟩ := bind_some hr
      refine cl (basic_Fault_run _ _ _ h23) rfl rfl ?_
      refine rn tk 9 rfl ?_
      cases hr
      exact ato rfl rfl rfl rfl
     ·
      refine rn tk 14 rfl ?_
      refine wz cS ([v12.2.1] : List Str) tk rfl rfl (fun _ => rfl) rfl rfl rfl ?_
      obtain ⟨v24, h25, hr⟩ := bind_some hr
      refine wa tk h25 rfl rfl rfl rfl (fun _ => rfl) rfl rfl ?_
      refine rn tk 9 rfl ?_
      refine ac 65 hr rfl (fun c26 hr => ?_) (fun c26 hr => ?_)
      ·
       refine rn tk 1 rfl ?_
       obtain ⟨v27, h28, hr⟩ := bind_some hr
       refine drX 4 5 4 8 [1, 2] [(69, .agg [.i v27.Code, .i v27.Index]), (68, .i ((w64 (s4.1 + 1)))), (67, .i s4.1), (66, .agg [.i v12.1, .hs 1005 0])] [(2, .ptr 2 0), (4, .ptr 4 0), (68, .i ((w64 (s4.1 + 1)))), (69, .agg [.i v27.Code, .i v27.Index])] [(1005, .row 9 false 1 (List.map cS v24)), (5, .cells [.i v12.1, .hs 1005 0]), (4, .cells [.i 0, .i 0]), (2, .cells [.i v12.1, .hs 1005 0])] tk mixed (by kernel_rfl) rfl rfl rfl (pqX tk rfl (.plain rfl) (pqX tk rfl (.plain rfl) (pqX tk rfl (.plain rfl) (.run (.plain rfl) (opG_call (basic_None_run  v27 h28) rfl) .nil)))) rfl rfl rfl rfl (by kernel_rfl) ?_
       refine rn tk 4 rfl ?_
       refine awp_pubC (o := 2) (j := 1) (F := cS) (l := v24) rfl rfl rfl (hC ?_)
       refine rn tk 3 rfl ?_
       cases hr
       exact ato rfl rfl rfl rfl
      ·
       refine rn tk 7 rfl ?_
       cases hr
       exact atc rfl rfl
   ·
    refine rn tk 2 rfl ?_
    cases hr
    exact ato rfl rfl rfl rfl
  ·
   refine rn tk 5 rfl ?_
   obtain ⟨v29, h30, hr⟩ := bind_some hr
   refine cl (basic_Fault_run _ _ _ h30) rfl rfl ?_
   refine rn tk 6 rfl ?_
   cases hr
   exact kr tk (.inr rfl) rfl rfl
  ·
   refine rn tk 2 rfl ?_
   cases hr
   exact kr tk (.inr rfl) rfl rfl
theorem reply_Print_run (a0 : TReply) (r : (List Str) × TFault) (hr : reply_Print a0 = some r) : Run Tryd.prog 7 [.agg [.i a0.Code, .l cS a0.Lines]] (.tup [.l cS r.1, .agg [.i r.2.Code, .i r.2.Index]]) := by
 unfold reply_Print at hr
 refine rf (fn := Tryd.f7) ⟨Tryd.func7, rfl, by kernel_rfl⟩ rfl (fun _ => rfl) fun g0 hg => ?_
 refine rn tk 11 rfl ?_
 obtain ⟨v1, h2, hr⟩ := bind_some hr
 refine cl (reply_Validate_run _ _ h2) rfl rfl ?_
 refine rn tk 7 rfl ?_
 obtain ⟨v3, h4, hr⟩ := bind_some hr
 refine cl (basic_Failed_run _ _ h4) rfl rfl ?_
 refine rn tk 2 rfl ?_
 refine ac 12 hr rfl (fun c5 hr => ?_) (fun c5 hr => ?_)
 ·
  refine rn tk 1 rfl ?_
  refine dr 2 [(2, .pv (.sl (some true) [])), (13, .agg [.i v1.Code, .i v1.Index])] mixed (by kernel_rfl) rfl rfl (pq tk rfl (.plain rfl) (pq tk rfl (.plain rfl) .nil)) rfl ?_
  refine rn tk 5 rfl ?_
  cases hr
  exact kr tk (.inr rfl) rfl rfl
 ·
  refine rn tk 5 rfl ?_
  refine awpl_adopt 1005 (d := 5) 9 1 rfl rfl rfl (hO ?_)
  refine rn tk 7 rfl ?_
  refine wn tk rfl rfl rfl ?_
  refine rn tk 4 rfl ?_
  refine al1 hr (fun s6 => [(1, .ptr 1 0), (3, .ptr 3 0), (5, .hs 1005 0), (15, .l cS a0.Lines), (16, .i ((a0.Lines.length : Int))), (17, .i s6.1)]) (fun s6 => [(1005, .row 9 false 1 (List.map cS s6.2)), (3, .cells [.i 0, .i 0]), (1, .cells [.i a0.Code, .l cS a0.Lines])]) (.exit 0) (fun b7 => [(3, .ptr 3 0), (5, .hs 1005 0)]) (fun b7 => [(1005, .row 9 false 1 (List.map cS b7)), (3, .cells [.i 0, .i 0])]) rfl rfl (fun s6 x8 hr => ?_) (fun b7 hr => ?_)
  ·
   unfold reply_Print_l1 at hr
   refine rn tk 6 rfl ?_
   refine ac 18 hr rfl (fun c9 hr => ?_) (fun c9 hr => ?_)
   ·
    refine rn tk 7 rfl ?_
    obtain ⟨v10, h11, hr⟩ := bind_some hr
    refine wi tk h11 rfl rfl rfl rfl rfl ?_
    refine rn tk 10 rfl ?_
    refine jb hr (fun j12 => [(1, .ptr 1 0), (3, .ptr 3 0), (5, .hs 1005 0), (7, .s v10), (8, .s j12), (15, .l cS a0.Lines), (16, .i ((a0.Lines.length : Int))), (17, .i s6.1)]) (fun j12 => [(1005, .row 9 false 1 (List.map cS s6.2)), (3, .cells [.i 0, .i 0]), (1, .cells [.i a0.Code, .l cS a0.Lines])]) (fun j12 hr => ?_) (fun j12 hr => ?_)
    ·
     refine rn tk 5 rfl ?_
     refine wn tk rfl rfl rfl ?_
     refine rn tk 4 rfl ?_
     refine ac 27 hr rfl (fun c13 hr => ?_) (fun c13 hr => ?_)
     ·
      refine rn tk 3 rfl ?_
      cases hr
      exact jn _ rfl rfl rfl
     ·
      refine rn tk 1 rfl ?_
      cases hr
      exact jn _ rfl rfl rfl
    ·
     refine rn tk 4 rfl ?_
     obtain ⟨v14, h15, hr⟩ := bind_some hr
     refine cl (strconv_Itoa_run _ _ h15) rfl rfl ?_
     refine rn tk 1 rfl ?_
     obtain ⟨v16, h17, hr⟩ := bind_some hr
     refine wc h17 rfl rfl rfl ?_
     refine rn tk 1 rfl ?_
     obtain ⟨v18, h19, hr⟩ := bind_some hr
     refine wc h19 rfl rfl rfl ?_
     refine wz cS ([v18] : List Str) tk rfl rfl (fun _ => rfl) rfl rfl rfl ?_
     obtain ⟨v20, h21, hr⟩ := bind_some hr
     refine wa tk h21 rfl rfl rfl rfl (fun _ => rfl) rfl rfl ?_
     refine rn tk 8 rfl ?_
     cases hr
     exact atc rfl rfl
   ·
    refine rn tk 2 rfl ?_
    cases hr
    exact ato rfl rfl rfl rfl
  ·
   refine rn tk 5 rfl ?_
   obtain ⟨v22, h23, hr⟩ := bind_some hr
   refine cl (basic_None_run _ h23) rfl rfl ?_
   refine rn tk 4 rfl ?_
   refine awp_pub (d := 2) (F := cS) (l := b7) rfl rfl (hC ?_)
   refine rn tk 1 rfl ?_
   cases hr
   exact kr tk (.inr rfl) rfl rfl
theorem L_replies_run  (r : Bool) (hr : L_replies = some r) : Run Tryd.prog 9 [] (.bo r) := by
 unfold L_replies at hr
 refine rf (fn := Tryd.f9) ⟨Tryd.func9, rfl, by kernel_rfl⟩ rfl (fun _ => rfl) fun g0 hg => ?_
 refine rn tk 7 rfl ?_
 refine wz cS ([([97] : Str), ([98] : Str)] : List Str) tk rfl rfl (fun _ => rfl) rfl rfl rfl ?_
 refine rn tk 1 rfl ?_
 obtain ⟨v1, h2, hr⟩ := bind_some hr
 refine cl (reply_Print_run _ _ h2) rfl rfl ?_
 refine rn tk 10 rfl ?_
 refine wz cS ([([50, 53, 48, 45, 97] : Str), ([50, 53, 48, 32, 98] : Str), ([50, 50, 48, 32, 99] : Str)] : List Str) tk rfl rfl (fun _ => rfl) rfl rfl rfl ?_
 obtain ⟨v3, h4, hr⟩ := bind_some hr
 refine cl (reply_Parse_run _ _ h4) rfl rfl ?_
 refine rn tk 13 rfl ?_
 refine wz cS ([([] : Str)] : List Str) tk rfl rfl (fun _ => rfl) rfl rfl rfl ?_
 refine rn tk 1 rfl ?_
 obtain ⟨v5, h6, hr⟩ := bind_some hr
 refine cl (reply_Class_run _ _ h6) rfl rfl ?_
 refine rn tk 10 rfl ?_
 refine wz cS ([([50, 53, 48, 45, 97] : Str)] : List Str) tk rfl rfl (fun _ => rfl) rfl rfl rfl ?_
 obtain ⟨v7, h8, hr⟩ := bind_some hr
 refine cl (reply_Parse_run _ _ h8) rfl rfl ?_
 refine rn tk 11 rfl ?_
 refine jb hr (fun j9 => [(0, .bo j9)]) (fun j9 => []) (fun j9 hr => ?_) (fun j9 hr => ?_)
 ·
  refine bool_split ((v1.2.Code == 0)) (fun c10 => ?_) (fun c10 => ?_)
  ·
   replace hr := cond_t c10 hr
   refine bool_split ((v3.2.2.Code == 0)) (fun c11 => ?_) (fun c11 => ?_)
   ·
    replace hr := cond_t c11 hr
    refine bool_split ((v5.2.Code == 0)) (fun c12 => ?_) (fun c12 => ?_)
    ·
     replace hr := cond_t c12 hr
     obtain ⟨v13, h14, hr⟩ := bind_some hr
     refine bool_split ((allEq [(v7.2.2.Code == v13.Code), (v7.2.2.Index == v13.Index)])) (fun c15 => ?_) (fun c15 => ?_)
     ·
      replace hr := cond_t c15 hr
      obtain ⟨v16, h17, hr⟩ := bind_some hr
      refine bool_split v16 (fun c18 => ?_) (fun c18 => ?_)
      ·
       replace hr := cond_t c18 hr
       refine dr 27 [(61, .agg [.i 250, .l cS (([([97] : Str), ([98] : Str)] : List Str))]), (60, .l cS (([([97] : Str), ([98] : Str)] : List Str))), (59, .agg [.i v3.1.Code, .l cS v3.1.Lines]), (58, .bo v16), (57, .bo v16), (56, .bo v16), (55, .l cS (([([50, 53, 48, 45, 97] : Str), ([50, 53, 48, 32, 98] : Str)] : List Str))), (54, .l cS v1.1), (53, .bo ((allEq [(v7.2.2.Code == v13.Code), (v7.2.2.Index == v13.Index)]))), (52, .bo ((allEq [(v7.2.2.Code == v13.Code), (v7.2.2.Index == v13.Index)]))), (51, .bo ((allEq [(v7.2.2.Code == v13.Code), (v7.2.2.Index == v13.Index)]))), (50, .agg [.i v13.Code, .i v13.Index]), (49, .agg [.i v7.2.2.Code, .i v7.2.2.Index]), (48, .bo ((v5.2.Code == 0))), (47, .bo ((v5.2.Code == 0))), (46, .bo ((v5.2.Code == 0))), (45, .i v5.2.Code), (44, .ptr 7 0), (43, .bo ((v3.2.2.Code == 0))), (42, .bo ((v3.2.2.Code == 0))), (41, .bo ((v3.2.2.Code == 0))), (40, .i v3.2.2.Code), (39, .ptr 5 0), (38, .bo ((v1.2.Code == 0))), (37, .bo ((v1.2.Code == 0))), (36, .i v1.2.Code), (35, .ptr 2 0)] mixed (by kernel_rfl) rfl rfl (pq tk rfl (.plain rfl) (pq tk rfl (.plain rfl) (pq tk rfl (.plain rfl) (pq tk rfl (.plain rfl) (pq tk rfl (.yes (d := 38) rfl rfl rfl c10) (pq tk rfl (.yes (d := 38) rfl rfl rfl c10) (pq tk rfl (.yes (d := 38) rfl rfl rfl c10) (.run (.plain rfl) (opG_q (ev_pick_t rfl c10)) (pq tk rfl (.plain rfl) (pq tk rfl (.yes (d := 43) rfl rfl rfl c11) (pq tk rfl (.yes (d := 43) rfl rfl rfl c11) (pq tk rfl (.yes (d := 43) rfl rfl rfl c11) (.run (.plain rfl) (opG_q (ev_pick_t rfl c11)) (pq tk rfl (.plain rfl) (pq tk rfl (.yes (d := 48) rfl rfl rfl c12) (.run (.yes (d := 48) rfl rfl rfl c12) (opG_call (R_At_run 9 ((-2)) v13 h14) rfl) (.run (.yes (d := 48) rfl rfl rfl c12) (opG_q (ev_structeq rfl rfl ty_api_Fault cmp_api_Fault (.int rfl (by decide) ty_int (.int rfl (by decide) ty_int .nil)))) (.run (.plain rfl) (opG_q (ev_pick_t rfl c12)) (pq tk rfl (.plain rfl) (pq tk rfl (.yes (d := 53) rfl rfl rfl c15) (.run (.yes (d := 53) rfl rfl rfl c15) (opG_lit (F := cS) (l := ([([50, 53, 48, 45, 97] : Str), ([50, 53, 48, 32, 98] : Str)] : List Str)) ty_s_string ty_string rfl (fun _ => rfl) rfl rfl) (.run (.yes (d := 53) rfl rfl rfl c15) (opG_call (R_Strings_run v1.1 (([([50, 53, 48, 45, 97] : Str), ([50, 53, 48, 32, 98] : Str)] : List Str)) v16 h17) rfl) (.run (.plain rfl) (opG_q (ev_pick_t rfl c15)) (pq tk rfl (.plain rfl) (pq tk rfl (.yes (d := 58) rfl rfl rfl c18) (.run (.yes (d := 58) rfl rfl rfl c18) (opG_lit (F := cS) (l := ([([97] : Str), ([98] : Str)] : List Str)) ty_s_string ty_string rfl (fun _ => rfl) rfl rfl) (pq tk rfl (.yes (d := 58) rfl rfl rfl c18) .nil))))))))))))))))))))))))))) rfl ?_
       refine kn 58 c18 rfl ?_
       obtain ⟨v19, h20, hr⟩ := bind_some hr
       refine ug rfl rfl rfl ?_
       refine cl (R_SameReply_run _ _ _ h20) rfl rfl ?_
       refine rn tk 2 rfl ?_
       refine bs 64 hr rfl (fun c21 hr => ?_) (fun c21 hr => ?_)
       ·
        refine rn tk 4 rfl ?_
        refine bs 68 hr rfl (fun c22 hr => ?_) (fun c22 hr => ?_)
        ·
         refine rn tk 5 rfl ?_
         cases hr
         exact jn _ rfl rfl rfl
        ·
         refine rn tk 5 rfl ?_
         cases hr
         exact jn _ rfl rfl rfl
       ·
        refine rn tk 9 rfl ?_
        cases hr
        exact jn _ rfl rfl rfl
      ·
       replace hr := cond_f c18 hr
       refine dr 27 [(61, .tup []), (60, .tup []), (59, .tup []), (58, .bo v16), (57, .bo v16), (56, .bo v16), (55, .l cS (([([50, 53, 48, 45, 97] : Str), ([50, 53, 48, 32, 98] : Str)] : List Str))), (54, .l cS v1.1), (53, .bo ((allEq [(v7.2.2.Code == v13.Code), (v7.2.2.Index == v13.Index)]))), (52, .bo ((allEq [(v7.2.2.Code == v13.Code), (v7.2.2.Index == v13.Index)]))), (51, .bo ((allEq [(v7.2.2.Code == v13.Code), (v7.2.2.Index == v13.Index)]))), (50, .agg [.i v13.Code, .i v13.Index]), (49, .agg [.i v7.2.2.Code, .i v7.2.2.Index]), (48, .bo ((v5.2.Code == 0))), (47, .bo ((v5.2.Code == 0))), (46, .bo ((v5.2.Code == 0))), (45, .i v5.2.Code), (44, .ptr 7 0), (43, .bo ((v3.2.2.Code == 0))), (42, .bo ((v3.2.2.Code == 0))), (41, .bo ((v3.2.2.Code == 0))), (40, .i v3.2.2.Code), (39, .ptr 5 0), (38, .bo ((v1.2.Code == 0))), (37, .bo ((v1.2.Code == 0))), (36, .i v1.2.Code), (35, .ptr 2 0)] mixed (by kernel_rfl) rfl rfl (pq tk rfl (.plain rfl) (pq tk rfl (.plain rfl) (pq tk rfl (.plain rfl) (pq tk rfl (.plain rfl) (pq tk rfl (.yes (d := 38) rfl rfl rfl c10) (pq tk rfl (.yes (d := 38) rfl rfl rfl c10) (pq tk rfl (.yes (d := 38) rfl rfl rfl c10) (.run (.plain rfl) (opG_q (ev_pick_t rfl c10)) (pq tk rfl (.plain rfl) (pq tk rfl (.yes (d := 43) rfl rfl rfl c11) (pq tk rfl (.yes (d := 43) rfl rfl rfl c11) (pq tk rfl (.yes (d := 43) rfl rfl rfl c11) (.run (.plain rfl) (opG_q (ev_pick_t rfl c11)) (pq tk rfl (.plain rfl) (pq tk rfl (.yes (d := 48) rfl rfl rfl c12) (.run (.yes (d := 48) rfl rfl rfl c12) (opG_call (R_At_run 9 ((-2)) v13 h14) rfl) (.run (.yes (d := 48) rfl rfl rfl c12) (opG_q (ev_structeq rfl rfl ty_api_Fault cmp_api_Fault (.int rfl (by decide) ty_int (.int rfl (by decide) ty_int .nil)))) (.run (.plain rfl) (opG_q (ev_pick_t rfl c12)) (pq tk rfl (.plain rfl) (pq tk rfl (.yes (d := 53) rfl rfl rfl c15) (.run (.yes (d := 53) rfl rfl rfl c15) (opG_lit (F := cS) (l := ([([50, 53, 48, 45, 97] : Str), ([50, 53, 48, 32, 98] : Str)] : List Str)) ty_s_string ty_string rfl (fun _ => rfl) rfl rfl) (.run (.yes (d := 53) rfl rfl rfl c15) (opG_call (R_Strings_run v1.1 (([([50, 53, 48, 45, 97] : Str), ([50, 53, 48, 32, 98] : Str)] : List Str)) v16 h17) rfl) (.run (.plain rfl) (opG_q (ev_pick_t rfl c15)) (pq tk rfl (.plain rfl) (.skip (.no (d := 58) rfl rfl rfl c18) (.skip (.no (d := 58) rfl rfl rfl c18) (.skip (.no (d := 58) rfl rfl rfl c18) .nil))))))))))))))))))))))))))) rfl ?_
       refine kn 58 c18 rfl ?_
       refine rn tk 12 rfl ?_
       cases hr
       exact jn _ rfl rfl rfl
     ·
      replace hr := cond_f c15 hr
      refine dr 27 [(61, .tup []), (60, .tup []), (59, .tup []), (58, .bo false), (57, .bo false), (56, .tup []), (55, .tup []), (54, .tup []), (53, .bo ((allEq [(v7.2.2.Code == v13.Code), (v7.2.2.Index == v13.Index)]))), (52, .bo ((allEq [(v7.2.2.Code == v13.Code), (v7.2.2.Index == v13.Index)]))), (51, .bo ((allEq [(v7.2.2.Code == v13.Code), (v7.2.2.Index == v13.Index)]))), (50, .agg [.i v13.Code, .i v13.Index]), (49, .agg [.i v7.2.2.Code, .i v7.2.2.Index]), (48, .bo ((v5.2.Code == 0))), (47, .bo ((v5.2.Code == 0))), (46, .bo ((v5.2.Code == 0))), (45, .i v5.2.Code), (44, .ptr 7 0), (43, .bo ((v3.2.2.Code == 0))), (42, .bo ((v3.2.2.Code == 0))), (41, .bo ((v3.2.2.Code == 0))), (40, .i v3.2.2.Code), (39, .ptr 5 0), (38, .bo ((v1.2.Code == 0))), (37, .bo ((v1.2.Code == 0))), (36, .i v1.2.Code), (35, .ptr 2 0)] mixed (by kernel_rfl) rfl rfl (pq tk rfl (.plain rfl) (pq tk rfl (.plain rfl) (pq tk rfl (.plain rfl) (pq tk rfl (.plain rfl) (pq tk rfl (.yes (d := 38) rfl rfl rfl c10) (pq tk rfl (.yes (d := 38) rfl rfl rfl c10) (pq tk rfl (.yes (d := 38) rfl rfl rfl c10) (.run (.plain rfl) (opG_q (ev_pick_t rfl c10)) (pq tk rfl (.plain rfl) (pq tk rfl (.yes (d := 43) rfl rfl rfl c11) (pq tk rfl (.yes (d := 43) rfl rfl rfl c11) (pq tk rfl (.yes (d := 43) rfl rfl rfl c11) (.run (.plain rfl) (opG_q (ev_pick_t rfl c11)) (pq tk rfl (.plain rfl) (pq tk rfl (.yes (d := 48) rfl rfl rfl c12) (.run (.yes (d := 48) rfl rfl rfl c12) (opG_call (R_At_run 9 ((-2)) v13 h14) rfl) (.run (.yes (d := 48) rfl rfl rfl c12) (opG_q (ev_structeq rfl rfl ty_api_Fault cmp_api_Fault (.int rfl (by decide) ty_int (.int rfl (by decide) ty_int .nil)))) (.run (.plain rfl) (opG_q (ev_pick_t rfl c12)) (pq tk rfl (.plain rfl) (.skip (.no (d := 53) rfl rfl rfl c15) (.skip (.no (d := 53) rfl rfl rfl c15) (.skip (.no (d := 53) rfl rfl rfl c15) (.run (.plain rfl) (opG_q (ev_pick_f rfl c15)) (pq tk rfl (.plain rfl) (.skip (.no (d := 58) rfl rfl rfl rfl) (.skip (.no (d := 58) rfl rfl rfl rfl) (.skip (.no (d := 58) rfl rfl rfl rfl) .nil))))))))))))))))))))))))))) rfl ?_
      refine rn tk 12 rfl ?_
      cases hr
      exact jn _ rfl rfl rfl
    ·
     replace hr := cond_f c12 hr
     refine dr 27 [(61, .tup []), (60, .tup []), (59, .tup []), (58, .bo false), (57, .bo false), (56, .tup []), (55, .tup []), (54, .tup []), (53, .bo false), (52, .bo false), (51, .tup []), (50, .tup []), (49, .tup []), (48, .bo ((v5.2.Code == 0))), (47, .bo ((v5.2.Code == 0))), (46, .bo ((v5.2.Code == 0))), (45, .i v5.2.Code), (44, .ptr 7 0), (43, .bo ((v3.2.2.Code == 0))), (42, .bo ((v3.2.2.Code == 0))), (41, .bo ((v3.2.2.Code == 0))), (40, .i v3.2.2.Code), (39, .ptr 5 0), (38, .bo ((v1.2.Code == 0))), (37, .bo ((v1.2.Code == 0))), (36, .i v1.2.Code), (35, .ptr 2 0)] mixed (by kernel_rfl) rfl rfl (pq tk rfl (.plain rfl) (pq tk rfl (.plain rfl) (pq tk rfl (.plain rfl) (pq tk rfl (.plain rfl) (pq tk rfl (.yes (d := 38) rfl rfl rfl c10) (pq tk rfl (.yes (d := 38) rfl rfl rfl c10) (pq tk rfl (.yes (d := 38) rfl rfl rfl c10) (.run (.plain rfl) (opG_q (ev_pick_t rfl c10)) (pq tk rfl (.plain rfl) (pq tk rfl (.yes (d := 43) rfl rfl rfl c11) (pq tk rfl (.yes (d := 43) rfl rfl rfl c11) (pq tk rfl (.yes (d := 43) rfl rfl rfl c11) (.run (.plain rfl) (opG_q (ev_pick_t rfl c11)) (pq tk rfl (.plain rfl) (.skip (.no (d := 48) rfl rfl rfl c12) (.skip (.no (d := 48) rfl rfl rfl c12) (.skip (.no (d := 48) rfl rfl rfl c12) (.run (.plain rfl) (opG_q (ev_pick_f rfl c12)) (pq tk rfl (.plain rfl) (.skip (.no (d := 53) rfl rfl rfl rfl) (.skip (.no (d := 53) rfl rfl rfl rfl) (.skip (.no (d := 53) rfl rfl rfl rfl) (pq tk rfl (.plain rfl) (pq tk rfl (.plain rfl) (.skip (.no (d := 58) rfl rfl rfl rfl) (.skip (.no (d := 58) rfl rfl rfl rfl) (.skip (.no (d := 58) rfl rfl rfl rfl) .nil))))))))))))))))))))))))))) rfl ?_
     refine rn tk 12 rfl ?_
     cases hr
     exact jn _ rfl rfl rfl
   ·
    replace hr := cond_f c11 hr
    refine dr 27 [(61, .tup []), (60, .tup []), (59, .tup []), (58, .bo false), (57, .bo false), (56, .tup []), (55, .tup []), (54, .tup []), (53, .bo false), (52, .bo false), (51, .tup []), (50, .tup []), (49, .tup []), (48, .bo false), (47, .bo false), (46, .tup []), (45, .tup []), (44, .tup []), (43, .bo ((v3.2.2.Code == 0))), (42, .bo ((v3.2.2.Code == 0))), (41, .bo ((v3.2.2.Code == 0))), (40, .i v3.2.2.Code), (39, .ptr 5 0), (38, .bo ((v1.2.Code == 0))), (37, .bo ((v1.2.Code == 0))), (36, .i v1.2.Code), (35, .ptr 2 0)] mixed (by kernel_rfl) rfl rfl (pq tk rfl (.plain rfl) (pq tk rfl (.plain rfl) (pq tk rfl (.plain rfl) (pq tk rfl (.plain rfl) (pq tk rfl (.yes (d := 38) rfl rfl rfl c10) (pq tk rfl (.yes (d := 38) rfl rfl rfl c10) (pq tk rfl (.yes (d := 38) rfl rfl rfl c10) (.run (.plain rfl) (opG_q (ev_pick_t rfl c10)) (pq tk rfl (.plain rfl) (.skip (.no (d := 43) rfl rfl rfl c11) (.skip (.no (d := 43) rfl rfl rfl c11) (.skip (.no (d := 43) rfl rfl rfl c11) (.run (.plain rfl) (opG_q (ev_pick_f rfl c11)) (pq tk rfl (.plain rfl) (.skip (.no (d := 48) rfl rfl rfl rfl) (.skip (.no (d := 48) rfl rfl rfl rfl) (.skip (.no (d := 48) rfl rfl rfl rfl) (pq tk rfl (.plain rfl) (pq tk rfl (.plain rfl) (.skip (.no (d := 53) rfl rfl rfl rfl) (.skip (.no (d := 53) rfl rfl rfl rfl) (.skip (.no (d := 53) rfl rfl rfl rfl) (pq tk rfl (.plain rfl) (pq tk rfl (.plain rfl) (.skip (.no (d := 58) rfl rfl rfl rfl) (.skip (.no (d := 58) rfl rfl rfl rfl) (.skip (.no (d := 58) rfl rfl rfl rfl) .nil))))))))))))))))))))))))))) rfl ?_
    refine rn tk 12 rfl ?_
    cases hr
    exact jn _ rfl rfl rfl
  ·
   replace hr := cond_f c10 hr
   refine dr 27 [(61, .tup []), (60, .tup []), (59, .tup []), (58, .bo false), (57, .bo false), (56, .tup []), (55, .tup []), (54, .tup []), (53, .bo false), (52, .bo false), (51, .tup []), (50, .tup []), (49, .tup []), (48, .bo false), (47, .bo false), (46, .tup []), (45, .tup []), (44, .tup []), (43, .bo false), (42, .bo false), (41, .tup []), (40, .tup []), (39, .tup []), (38, .bo ((v1.2.Code == 0))), (37, .bo ((v1.2.Code == 0))), (36, .i v1.2.Code), (35, .ptr 2 0)] mixed (by kernel_rfl) rfl rfl (pq tk rfl (.plain rfl) (pq tk rfl (.plain rfl) (pq tk rfl (.plain rfl) (pq tk rfl (.plain rfl) (.skip (.no (d := 38) rfl rfl rfl c10) (.skip (.no (d := 38) rfl rfl rfl c10) (.skip (.no (d := 38) rfl rfl rfl c10) (.run (.plain rfl) (opG_q (ev_pick_f rfl c10)) (pq tk rfl (.plain rfl) (.skip (.no (d := 43) rfl rfl rfl rfl) (.skip (.no (d := 43) rfl rfl rfl rfl) (.skip (.no (d := 43) rfl rfl rfl rfl) (pq tk rfl (.plain rfl) (pq tk rfl (.plain rfl) (.skip (.no (d := 48) rfl rfl rfl rfl) (.skip (.no (d := 48) rfl rfl rfl rfl) (.skip (.no (d := 48) rfl rfl rfl rfl) (pq tk rfl (.plain rfl) (pq tk rfl (.plain rfl) (.skip (.no (d := 53) rfl rfl rfl rfl) (.skip (.no (d := 53) rfl rfl rfl rfl) (.skip (.no (d := 53) rfl rfl rfl rfl) (pq tk rfl (.plain rfl) (pq tk rfl (.plain rfl) (.skip (.no (d := 58) rfl rfl rfl rfl) (.skip (.no (d := 58) rfl rfl rfl rfl) (.skip (.no (d := 58) rfl rfl rfl rfl) .nil))))))))))))))))))))))))))) rfl ?_
   refine rn tk 12 rfl ?_
   cases hr
   exact jn _ rfl rfl rfl
 ·
  refine rn tk 1 rfl ?_
  cases hr
  exact kr tk (.inr rfl) rfl rfl
theorem L_ReplyRoundTrips_run (a0 : TReply) (a1 : List Str) (r : Bool) (hr : L_ReplyRoundTrips a0 a1 = some r) : Run Tryd.prog 5 [.agg [.i a0.Code, .l cS a0.Lines], .l cS a1] (.bo r) := by
 unfold L_ReplyRoundTrips at hr
 refine rf (fn := Tryd.f5) ⟨Tryd.func5, rfl, by kernel_rfl⟩ rfl (fun _ => rfl) fun g0 hg => ?_
 refine rn tk 9 rfl ?_
 obtain ⟨v1, h2, hr⟩ := bind_some hr
 refine cl (reply_Print_run _ _ h2) rfl rfl ?_
 refine rn tk 9 rfl ?_
 refine jb hr (fun j3 => [(1, .l cS a1), (2, .ptr 2 0), (5, .l cS v1.1), (6, .ptr 6 0), (31, .bo j3)]) (fun j3 => [(6, .cells [.i v1.2.Code, .i v1.2.Index]), (2, .cells [.i a0.Code, .l cS a0.Lines])]) (fun j3 hr => ?_) (fun j3 hr => ?_)
 ·
  refine rn tk 1 rfl ?_
  obtain ⟨v4, h5, hr⟩ := bind_some hr
  refine cl (L_replies_run _ h5) rfl rfl ?_
  refine rn tk 2 rfl ?_
  refine bs 22 hr rfl (fun c6 hr => ?_) (fun c6 hr => ?_)
  ·
   refine rn tk 10 rfl ?_
   cases hr
   exact jn _ rfl rfl rfl
  ·
   refine rn tk 5 rfl ?_
   refine bs 27 hr rfl (fun c7 hr => ?_) (fun c7 hr => ?_)
   ·
    refine rn tk 5 rfl ?_
    cases hr
    exact jn _ rfl rfl rfl
   ·
    refine rn tk 1 rfl ?_
    refine ug rfl rfl rfl ?_
    refine wn tk rfl rfl rfl ?_
    refine rn tk 3 rfl ?_
    cases hr
    exact jn _ rfl rfl rfl
 ·
  refine ac 31 hr rfl (fun c8 hr => ?_) (fun c8 hr => ?_)
  ·
   refine jb hr (fun j9 => [(4, .bo j9)]) (fun j9 => []) (fun j9 hr => ?_) (fun j9 hr => ?_)
   ·
    refine rn tk 1 rfl ?_
    obtain ⟨v10, h11, hr⟩ := bind_some hr
    refine cl (L_replies_run _ h11) rfl rfl ?_
    refine rn tk 1 rfl ?_
    refine bs 33 hr rfl (fun c12 hr => ?_) (fun c12 hr => ?_)
    ·
     refine rn tk 4 rfl ?_
     refine bs 37 hr rfl (fun c13 hr => ?_) (fun c13 hr => ?_)
     ·
      refine rn tk 7 rfl ?_
      cases hr
      exact jn _ rfl rfl rfl
     ·
      refine rn tk 1 rfl ?_
      refine ug rfl rfl rfl ?_
      refine wn tk rfl rfl rfl ?_
      refine rn tk 5 rfl ?_
      cases hr
      exact jn _ rfl rfl rfl
    ·
     refine rn tk 11 rfl ?_
     cases hr
     exact jn _ rfl rfl rfl
   ·
    refine rn tk 2 rfl ?_
    cases hr
    exact kr tk (.inr rfl) rfl rfl
  ·
   refine rn tk 6 rfl ?_
   refine wn tk rfl rfl rfl ?_
   refine rn tk 3 rfl ?_
   refine ac 45 hr rfl (fun c14 hr => ?_) (fun c14 hr => ?_)
   ·
    refine rn tk 7 rfl ?_
    cases hr
    exact kr tk (.inr rfl) rfl rfl
   ·
    refine rn tk 6 rfl ?_
    refine wn tk rfl rfl rfl ?_
    refine rn tk 1 rfl ?_
    obtain ⟨v15, h16, hr⟩ := bind_some hr
    refine wlH tk h16 rfl rfl rfl (fun _ => rfl) rfl ?_
    obtain ⟨v17, h18, hr⟩ := bind_some hr
    refine cl (reply_Parse_run _ _ h18) rfl rfl ?_
    refine rn tk 14 rfl ?_
    refine wn tk rfl rfl rfl ?_
    refine rn tk 6 rfl ?_
    refine awpl_adopt 1011 (d := 11) 9 1 rfl rfl rfl (hO ?_)
    refine rn tk 6 rfl ?_
    obtain ⟨v19, h20, hr⟩ := bind_some hr
    refine wa tk h20 rfl rfl rfl rfl (fun _ => rfl) rfl rfl ?_
    refine rn tk 7 rfl ?_
    obtain ⟨v21, h22, hr⟩ := bind_some hr
    refine wa tk h22 rfl rfl rfl rfl (fun _ => rfl) rfl rfl ?_
    refine awpl_pub (d := 64) (F := cS) (l := v21) rfl rfl (hO ?_)
    obtain ⟨v23, h24, hr⟩ := bind_some hr
    refine cl (reply_Parse_run _ _ h24) rfl rfl ?_
    refine rn tk 11 rfl ?_
    refine jb hr (fun j25 => [(4, .bo j25)]) (fun j25 => []) (fun j25 hr => ?_) (fun j25 hr => ?_)
    ·
     obtain ⟨v26, h27, hr⟩ := bind_some hr
     refine bool_split ((allEq [(v17.2.2.Code == v26.Code), (v17.2.2.Index == v26.Index)])) (fun c28 => ?_) (fun c28 => ?_)
     ·
      replace hr := cond_t c28 hr
      refine bool_split ((v23.2.2.Code == 0)) (fun c29 => ?_) (fun c29 => ?_)
      ·
       replace hr := cond_t c29 hr
       refine bool_split ((v23.2.1 == (v1.1.length : Int))) (fun c30 => ?_) (fun c30 => ?_)
       ·
        replace hr := cond_t c30 hr
        refine dr 16 [(84, .agg [.i a0.Code, .l cS a0.Lines]), (83, .agg [.i v23.1.Code, .l cS v23.1.Lines]), (82, .bo ((v23.2.1 == (v1.1.length : Int)))), (81, .bo ((v23.2.1 == (v1.1.length : Int)))), (80, .bo ((v23.2.1 == (v1.1.length : Int)))), (79, .i ((v1.1.length : Int))), (78, .i v23.2.1), (77, .bo ((v23.2.2.Code == 0))), (76, .bo ((v23.2.2.Code == 0))), (75, .bo ((v23.2.2.Code == 0))), (74, .i v23.2.2.Code), (73, .ptr 14 0), (72, .bo ((allEq [(v17.2.2.Code == v26.Code), (v17.2.2.Index == v26.Index)]))), (71, .bo ((allEq [(v17.2.2.Code == v26.Code), (v17.2.2.Index == v26.Index)]))), (70, .agg [.i v26.Code, .i v26.Index]), (69, .agg [.i v17.2.2.Code, .i v17.2.2.Index])] mixed (by kernel_rfl) rfl rfl (pq tk rfl (.plain rfl) (.run (.plain rfl) (opG_call (R_At_run 9 ((-2)) v26 h27) rfl) (.run (.plain rfl) (opG_q (ev_structeq rfl rfl ty_api_Fault cmp_api_Fault (.int rfl (by decide) ty_int (.int rfl (by decide) ty_int .nil)))) (pq tk rfl (.plain rfl) (pq tk rfl (.yes (d := 72) rfl rfl rfl c28) (pq tk rfl (.yes (d := 72) rfl rfl rfl c28) (pq tk rfl (.yes (d := 72) rfl rfl rfl c28) (.run (.plain rfl) (opG_q (ev_pick_t rfl c28)) (pq tk rfl (.plain rfl) (pq tk rfl (.yes (d := 77) rfl rfl rfl c29) (pq tk rfl (.yes (d := 77) rfl rfl rfl c29) (pq tk rfl (.yes (d := 77) rfl rfl rfl c29) (.run (.plain rfl) (opG_q (ev_pick_t rfl c29)) (pq tk rfl (.plain rfl) (pq tk rfl (.yes (d := 82) rfl rfl rfl c30) (pq tk rfl (.yes (d := 82) rfl rfl rfl c30) .nil)))))))))))))))) rfl ?_
        refine kn 82 c30 rfl ?_
        obtain ⟨v31, h32, hr⟩ := bind_some hr
        refine ug rfl rfl rfl ?_
        refine cl (R_SameReply_run _ _ _ h32) rfl rfl ?_
        refine rn tk 3 rfl ?_
        cases hr
        exact jn _ rfl rfl rfl
       ·
        replace hr := cond_f c30 hr
        refine dr 16 [(84, .tup []), (83, .tup []), (82, .bo ((v23.2.1 == (v1.1.length : Int)))), (81, .bo ((v23.2.1 == (v1.1.length : Int)))), (80, .bo ((v23.2.1 == (v1.1.length : Int)))), (79, .i ((v1.1.length : Int))), (78, .i v23.2.1), (77, .bo ((v23.2.2.Code == 0))), (76, .bo ((v23.2.2.Code == 0))), (75, .bo ((v23.2.2.Code == 0))), (74, .i v23.2.2.Code), (73, .ptr 14 0), (72, .bo ((allEq [(v17.2.2.Code == v26.Code), (v17.2.2.Index == v26.Index)]))), (71, .bo ((allEq [(v17.2.2.Code == v26.Code), (v17.2.2.Index == v26.Index)]))), (70, .agg [.i v26.Code, .i v26.Index]), (69, .agg [.i v17.2.2.Code, .i v17.2.2.Index])] mixed (by kernel_rfl) rfl rfl (pq tk rfl (.plain rfl) (.run (.plain rfl) (opG_call (R_At_run 9 ((-2)) v26 h27) rfl) (.run (.plain rfl) (opG_q (ev_structeq rfl rfl ty_api_Fault cmp_api_Fault (.int rfl (by decide) ty_int (.int rfl (by decide) ty_int .nil)))) (pq tk rfl (.plain rfl) (pq tk rfl (.yes (d := 72) rfl rfl rfl c28) (pq tk rfl (.yes (d := 72) rfl rfl rfl c28) (pq tk rfl (.yes (d := 72) rfl rfl rfl c28) (.run (.plain rfl) (opG_q (ev_pick_t rfl c28)) (pq tk rfl (.plain rfl) (pq tk rfl (.yes (d := 77) rfl rfl rfl c29) (pq tk rfl (.yes (d := 77) rfl rfl rfl c29) (pq tk rfl (.yes (d := 77) rfl rfl rfl c29) (.run (.plain rfl) (opG_q (ev_pick_t rfl c29)) (pq tk rfl (.plain rfl) (.skip (.no (d := 82) rfl rfl rfl c30) (.skip (.no (d := 82) rfl rfl rfl c30) .nil)))))))))))))))) rfl ?_
        refine kn 82 c30 rfl ?_
        refine rn tk 4 rfl ?_
        cases hr
        exact jn _ rfl rfl rfl
      ·
       replace hr := cond_f c29 hr
       refine dr 16 [(84, .tup []), (83, .tup []), (82, .bo false), (81, .bo false), (80, .tup []), (79, .tup []), (78, .tup []), (77, .bo ((v23.2.2.Code == 0))), (76, .bo ((v23.2.2.Code == 0))), (75, .bo ((v23.2.2.Code == 0))), (74, .i v23.2.2.Code), (73, .ptr 14 0), (72, .bo ((allEq [(v17.2.2.Code == v26.Code), (v17.2.2.Index == v26.Index)]))), (71, .bo ((allEq [(v17.2.2.Code == v26.Code), (v17.2.2.Index == v26.Index)]))), (70, .agg [.i v26.Code, .i v26.Index]), (69, .agg [.i v17.2.2.Code, .i v17.2.2.Index])] mixed (by kernel_rfl) rfl rfl (pq tk rfl (.plain rfl) (.run (.plain rfl) (opG_call (R_At_run 9 ((-2)) v26 h27) rfl) (.run (.plain rfl) (opG_q (ev_structeq rfl rfl ty_api_Fault cmp_api_Fault (.int rfl (by decide) ty_int (.int rfl (by decide) ty_int .nil)))) (pq tk rfl (.plain rfl) (pq tk rfl (.yes (d := 72) rfl rfl rfl c28) (pq tk rfl (.yes (d := 72) rfl rfl rfl c28) (pq tk rfl (.yes (d := 72) rfl rfl rfl c28) (.run (.plain rfl) (opG_q (ev_pick_t rfl c28)) (pq tk rfl (.plain rfl) (.skip (.no (d := 77) rfl rfl rfl c29) (.skip (.no (d := 77) rfl rfl rfl c29) (.skip (.no (d := 77) rfl rfl rfl c29) (.run (.plain rfl) (opG_q (ev_pick_f rfl c29)) (pq tk rfl (.plain rfl) (.skip (.no (d := 82) rfl rfl rfl rfl) (.skip (.no (d := 82) rfl rfl rfl rfl) .nil)))))))))))))))) rfl ?_
       refine rn tk 4 rfl ?_
       cases hr
       exact jn _ rfl rfl rfl
     ·
      replace hr := cond_f c28 hr
      refine dr 16 [(84, .tup []), (83, .tup []), (82, .bo false), (81, .bo false), (80, .tup []), (79, .tup []), (78, .tup []), (77, .bo false), (76, .bo false), (75, .tup []), (74, .tup []), (73, .tup []), (72, .bo ((allEq [(v17.2.2.Code == v26.Code), (v17.2.2.Index == v26.Index)]))), (71, .bo ((allEq [(v17.2.2.Code == v26.Code), (v17.2.2.Index == v26.Index)]))), (70, .agg [.i v26.Code, .i v26.Index]), (69, .agg [.i v17.2.2.Code, .i v17.2.2.Index])] mixed (by kernel_rfl) rfl rfl (pq tk rfl (.plain rfl) (.run (.plain rfl) (opG_call (R_At_run 9 ((-2)) v26 h27) rfl) (.run (.plain rfl) (opG_q (ev_structeq rfl rfl ty_api_Fault cmp_api_Fault (.int rfl (by decide) ty_int (.int rfl (by decide) ty_int .nil)))) (pq tk rfl (.plain rfl) (.skip (.no (d := 72) rfl rfl rfl c28) (.skip (.no (d := 72) rfl rfl rfl c28) (.skip (.no (d := 72) rfl rfl rfl c28) (.run (.plain rfl) (opG_q (ev_pick_f rfl c28)) (pq tk rfl (.plain rfl) (.skip (.no (d := 77) rfl rfl rfl rfl) (.skip (.no (d := 77) rfl rfl rfl rfl) (.skip (.no (d := 77) rfl rfl rfl rfl) (pq tk rfl (.plain rfl) (pq tk rfl (.plain rfl) (.skip (.no (d := 82) rfl rfl rfl rfl) (.skip (.no (d := 82) rfl rfl rfl rfl) .nil)))))))))))))))) rfl ?_
      refine rn tk 4 rfl ?_
      cases hr
      exact jn _ rfl rfl rfl
    ·
     refine rn tk 1 rfl ?_
     cases hr
     exact kr tk (.inr rfl) rfl rfl
end Go.Proofs.YtkoijpogjobgjaaDoor

namespace Go.Proofs.YtkoijpogjobgjaaDoor.replyRoundTrips
open Go.ChangeShapes Go.WideShapes Go.ChangeAt Go.RowKit
set_option linter.unusedVariables false
set_option maxRecDepth 100000

theorem contract (H : Type) (enc : TypeId × Value → H) (W : World) (base : Nat) (args : Array Value) (ds gs : List (DataW H)) (before : List MemPlace)
    (hval : ∀ (j : Nat) t v, Tryd.f5.params[j]? = some t → args[j]? = some v → Value.okWide Tryd.prog W .any base t v)
    (hW : DataW.Whole enc Tryd.prog Tryd.f5.params.toList Rows.replyRoundTripsSpec.vars false W args.toList ds gs before) (hk : Rows.uptoSmall H (ds ++ gs) = true) (hgl : Gl (gAll W)) :
    Calls Tryd.prog 5 args W fun e W' => ∃ v, e = .returned v ∧ Rows.replyRoundTripsSpec.post enc Tryd.prog Tryd.f5 false true false false W args v W' := by
  have hW' := hW
  obtain ⟨p, q, hA0, hV, rfl, hfz, hnd⟩ := hW
  have hA : DataW.TrodAll enc Tryd.prog W 0 (fun _ => true) true Tryd.f5.params.toList args.toList ds p := hA0
  rw [Tryd.params5] at hA hval
  obtain ⟨v0, vs0, d0, ds0, p0, q0, hargs, rfl, rfl, h0, r0⟩ := trodAll_cons hA
  obtain ⟨v1, vs1, d1, ds1, p1, q1, rfl, rfl, rfl, h1, r1⟩ := trodAll_cons r0
  obtain ⟨rfl, rfl, rfl⟩ := trodAll_nil r1
  obtain rfl : args = #[v0, v1] := by cases args; simp_all
  obtain ⟨rfl, rfl⟩ := trodVars_none hV
  obtain ⟨a0, e0, o0, k0⟩ := arg_agg op_api_Reply (by obtain ⟨cs, h, _⟩ := okWide_struct ty_api_Reply.u (hval 0 _ v0 rfl rfl); exact ⟨cs, h⟩) h0
  obtain ⟨a1, e1, o1, k1⟩ := arg_one op_s_string (by obtain ⟨_, _, _, h⟩ := okWide_slice ty_s_string.u (hval 1 _ v1 rfl rfl); rw [h]; rfl) h1
  have hk2 := of_decide_eq_true hk
  simp only [List.append_nil, Rows.uptoBulkAll] at hk2
  have ht := L_ReplyRoundTrips_true a0 a1 o0 o1 (by (try dsimp only); omega)
  have key : Calls Tryd.prog 5 #[v0, v1] W fun e W' => e = .returned (.bool true) ∧ Below W.heap.size W W' := calls_of_run (L_ReplyRoundTrips_run a0 a1 true ht) hgl (relArgs_of (.cons e0 (.cons (e1 _ rfl) .nil)))
  refine key.mono fun e W' ⟨he, hb⟩ => ⟨_, he, ?_⟩
  exact post_true laidOut (by kernel_rfl) Tryd.underlying4 (by kernel_rfl) rfl rfl hW' hb

theorem reads (os : Os) {H : Type} (enc : TypeId × Value → H) : ∃ places, DataW.whole enc Tryd.prog ((World.doorLaid Tryd.prog 62 os).forCall (fun _ _ => 0) ⟨#[], #[.agg #[.int .i64 0, .slice none 0 0], .slice none 0 0], []⟩).memory Tryd.f5.params.toList (Rows.OpenSpec.upto Rows.replyRoundTripsSpec).vars false (#[.agg #[.int .i64 0, .slice none 0 0], .slice none 0 0] : Array Value).toList 8 = some ([.agg [.lit (.int .i64 0), .nil], .nil], [], places) :=
  ⟨[], by kernel_rfl⟩
theorem lifted (os : Os) (started : os.Started) (H : Type) (enc : TypeId × Value → H) (F : Stop.Interp) :
    ReturnsInHanded {} Tryd.checked os 5 .any ((Rows.OpenSpec.upto Rows.replyRoundTripsSpec).preRow enc Tryd.prog Tryd.f5 Rows.replyRoundTripsUptoRow.domain false Rows.replyRoundTripsUptoRow.laid) (((Rows.OpenSpec.upto Rows.replyRoundTripsSpec).at F).post enc Tryd.prog Tryd.f5 false true false false) := by
  obtain ⟨places, hx⟩ := reads os enc
  refine returnsInHanded_of_row (C := Tryd.checked) (s := Rows.OpenSpec.upto Rows.replyRoundTripsSpec) own started (by kernel_rfl) Tryd.func5
    (witness_row_atRef (enc := enc) (C := Tryd.checked) false (World.doorLaid Tryd.prog 62 os) #[.agg #[.int .i64 0, .slice none 0 0], .slice none 0 0] rfl (by kernel_rfl) (by kernel_rfl) (by kernel_rfl)
      (OpenSpec.preRow_of_cond 8 hx (by kernel_rfl) (fun k hk => by cases hk; kernel_rfl) (by kernel_rfl) (laid_met os _))) ?_
  intro W base args ds gs before hval hW _ hk _ hL hsh _
  exact contract H enc W base args ds gs before hval hW (hk _ rfl) (gl_of_laid hsh hL)

theorem said : Rows.replyRoundTripsUptoRow.holds Tryd.pinned (Rows.OpenSpec.upto Rows.replyRoundTripsSpec) :=
  OpenClaim.holds_of_cond 5 Tryd.f5 rfl rfl rfl rfl rfl rfl rfl ⟨rfl, rfl, rfl, rfl, rfl⟩ rfl rfl rfl rfl rfl (by kernel_rfl) Tryd.func5 (by kernel_rfl)
    (of_decide_eq_true (by kernel_rfl)) (by unfold Func.isWrapper; first | (rw [if_pos (by decide +kernel)]; kernel_rfl) | (rw [if_neg (by decide +kernel)]; exact ⟨rfl, rfl⟩))
    (fun os started H enc _ F => by rw [OpenClaim.pre_eq_preRow]; exact lifted os started H enc F)

theorem plain (f : FuncId) (fn : Func) (hf : Tryd.pinned.checked.prog.funcNamed "posthouse/posthouselaw3.ReplyRoundTrips" = some f) (hfn : Tryd.pinned.checked.prog.funcs[f]? = some fn) :
    true = Tryd.pinned.checked.prog.looks [] ∧ ∀ (j : Nat) t, fn.params[j]? = some t → Tryd.pinned.checked.prog.wantsStandIn t = false := by
  obtain rfl : f = 5 := Option.some.inj ((show Tryd.prog.funcNamed "posthouse/posthouselaw3.ReplyRoundTrips" = some 5 by kernel_rfl).symm.trans hf) |>.symm
  obtain rfl : fn = Tryd.f5 := (Option.some.inj (Tryd.func5.symm.trans hfn)).symm
  refine ⟨by kernel_rfl, fun j t ht => ?_⟩
  rw [Tryd.params5] at ht
  have hm := Array.mem_of_getElem? ht
  simp only [List.mem_toArray, List.mem_cons, List.not_mem_nil, or_false] at hm
  rcases hm with rfl | rfl
  · exact (show Tryd.prog.wantsStandIn 24 = false by kernel_rfl)
  · exact (show Tryd.prog.wantsStandIn 22 = false by kernel_rfl)
theorem proved : Rows.ReplyRoundTripsUptoCardSaid :=
  Claim7.holds_tied_plain_at .later [] _ _ _ _ said (fun _ h => by cases h) (by kernel_rfl) (fun _ h => by cases h) replyRoundTripsUpto_row_tie rfl ⟨rfl, rfl⟩ (by kernel_rfl) rfl plain (by kernel_rfl)
#print axioms proved
end Go.Proofs.YtkoijpogjobgjaaDoor.replyRoundTrips
