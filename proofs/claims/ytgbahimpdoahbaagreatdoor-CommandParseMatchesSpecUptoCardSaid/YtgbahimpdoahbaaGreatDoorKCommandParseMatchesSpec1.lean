/- Part 1 of the proof of the law CommandParseMatchesSpec: what it needs. -/
import Derived.Test.YtgbahimpdoahbaaGreatDoorC4
import Derived.Test.YtgbahimpdoahbaaGreatDoorProg
import Derived.Lib.IndexMore
import Derived.Lib.IndexAny
import Derived.Lib.Atoi
import Derived.Lib.Join
import Derived.Lib.Repeat
import Derived.Lib.Split
import Derived.Lib.FieldsP
import Derived.Lib.Strings
import Derived.Lib.ItoaMem
import Derived.Laws.RangeAny
import Derived.Lib.SplitLaws
import Derived.Test.YtgbahimpdoahbaaGreatDoorShelf
set_option linter.unusedVariables false
set_option linter.unusedSimpArgs false
/- Go's structures as Lean's, and their cells. Written by program. -/
namespace Go.Proofs.YtgbahimpdoahbaaGreatDoor
open Go.RowKit
structure TFault where
  Code : Int
  Index : Int
def TFault.pc (x : TFault) : List PV := [pI x.Code, pI x.Index]
structure TAlias where
  Address : Str
  To : List Str
def TAlias.pc (x : TAlias) : List PV := [pS x.Address, pL cS x.To]
structure TRecipient where
  Address : Str
  Notify : Int
def TRecipient.pc (x : TRecipient) : List PV := [pS x.Address, pI x.Notify]
structure TEnvelope where
  From : Str
  To : List TRecipient
  Id : Str
def TEnvelope.pc (x : TEnvelope) : List PV := [pS x.From, pL TRecipient.pc x.To, pS x.Id]
structure TField where
  Name : Str
  Value : Str
def TField.pc (x : TField) : List PV := [pS x.Name, pS x.Value]
structure TMessage where
  Fields : List TField
  Body : List UInt8
def TMessage.pc (x : TMessage) : List PV := [pL TField.pc x.Fields, pL cU x.Body]
structure TMail where
  Envelope : TEnvelope
  Message : TMessage
def TMail.pc (x : TMail) : List PV := [pS x.Envelope.From, pL TRecipient.pc x.Envelope.To, pS x.Envelope.Id, pL TField.pc x.Message.Fields, pL cU x.Message.Body]
structure TForward where
  Address : Str
  To : List Str
  Keep : Bool
def TForward.pc (x : TForward) : List PV := [pS x.Address, pL cS x.To, pB x.Keep]
structure THeld where
  Number : Int
  Mail : TMail
def THeld.pc (x : THeld) : List PV := [pI x.Number, pS x.Mail.Envelope.From, pL TRecipient.pc x.Mail.Envelope.To, pS x.Mail.Envelope.Id, pL TField.pc x.Mail.Message.Fields, pL cU x.Mail.Message.Body]
structure TList where
  Address : Str
  Owner : Str
  Open : Bool
  Subscribers : List Str
  Moderators : List Str
  Held : List THeld
  Next : Int
def TList.pc (x : TList) : List PV := [pS x.Address, pS x.Owner, pB x.Open, pL cS x.Subscribers, pL cS x.Moderators, pL THeld.pc x.Held, pI x.Next]
structure TReply where
  Code : Int
  Lines : List Str
def TReply.pc (x : TReply) : List PV := [pI x.Code, pL cS x.Lines]
structure TDate where
  Year : Int
  Month : Int
  Day : Int
  Hour : Int
  Minute : Int
  Second : Int
  Zone : Int
def TDate.pc (x : TDate) : List PV := [pI x.Year, pI x.Month, pI x.Day, pI x.Hour, pI x.Minute, pI x.Second, pI x.Zone]
structure TCommand where
  Verb : Int
  Name : Str
  Address : Str
  Size : Int
  Notify : Int
  Last : Bool
def TCommand.pc (x : TCommand) : List PV := [pI x.Verb, pS x.Name, pS x.Address, pI x.Size, pI x.Notify, pB x.Last]
structure Tcommand_condition where
  n : Int
  word : Str
def Tcommand_condition.pc (x : Tcommand_condition) : List PV := [pI x.n, pS x.word]
end Go.Proofs.YtgbahimpdoahbaaGreatDoor

/- Rows of the table of types. Written by program. -/
namespace Go.Proofs.YtgbahimpdoahbaaGreatDoor
open Go.RowKit
set_option maxRecDepth 100000
set_option maxHeartbeats 40000000
set_option linter.unusedVariables false
theorem mixed : Tryz.prog.follows .mixedOrders = true := by kernel_rfl
theorem cmp_api_Command : CmpOk Tryz.prog 23 := ⟨by kernel_rfl, by kernel_rfl⟩
theorem cmp_api_Fault : CmpOk Tryz.prog 25 := ⟨by kernel_rfl, by kernel_rfl⟩
theorem pl_api_Command (w : World) : Sem.run Tryz.prog (Array.mapM (fun (f : Field) => do pure (f.offset, ← sizeOf f.type)) #[⟨"Verb", 3, 0, false, "", "", 0⟩, ⟨"Name", 9, 1, false, "", "", 8⟩, ⟨"Address", 9, 2, false, "", "", 24⟩, ⟨"Size", 3, 3, false, "", "", 40⟩, ⟨"Notify", 3, 4, false, "", "", 48⟩, ⟨"Last", 4, 5, false, "", "", 56⟩]) w = .ok #[(0, 1), (1, 1), (2, 1), (3, 1), (4, 1), (5, 1)] w := by kernel_rfl
theorem pl_api_Fault (w : World) : Sem.run Tryz.prog (Array.mapM (fun (f : Field) => do pure (f.offset, ← sizeOf f.type)) #[⟨"Code", 3, 0, false, "", "", 0⟩, ⟨"Index", 3, 1, false, "", "", 8⟩]) w = .ok #[(0, 1), (1, 1)] w := by kernel_rfl
theorem pl_command_condition (w : World) : Sem.run Tryz.prog (Array.mapM (fun (f : Field) => do pure (f.offset, ← sizeOf f.type)) #[⟨"n", 3, 0, false, "", "posthouse/command", 0⟩, ⟨"word", 9, 1, false, "", "posthouse/command", 8⟩]) w = .ok #[(0, 1), (1, 1)] w := by kernel_rfl
theorem ty__3_command_condition : TyOk Tryz.prog 58 6 72 (.agg #[.int .i64 0, .string ⟨#[]⟩, .int .i64 0, .string ⟨#[]⟩, .int .i64 0, .string ⟨#[]⟩]) (.array 3 57) := ⟨by kernel_rfl, by kernel_rfl⟩
theorem ty__8_string : TyOk Tryz.prog 38 8 128 (.agg #[.string ⟨#[]⟩, .string ⟨#[]⟩, .string ⟨#[]⟩, .string ⟨#[]⟩, .string ⟨#[]⟩, .string ⟨#[]⟩, .string ⟨#[]⟩, .string ⟨#[]⟩]) (.array 8 9) := ⟨by kernel_rfl, by kernel_rfl⟩
theorem ty_api_Command : TyOk Tryz.prog 23 6 64 (.agg #[.int .i64 0, .string ⟨#[]⟩, .string ⟨#[]⟩, .int .i64 0, .int .i64 0, .bool false]) (.struct #[⟨"Verb", 3, 0, false, "", "", 0⟩, ⟨"Name", 9, 1, false, "", "", 8⟩, ⟨"Address", 9, 2, false, "", "", 24⟩, ⟨"Size", 3, 3, false, "", "", 40⟩, ⟨"Notify", 3, 4, false, "", "", 48⟩, ⟨"Last", 4, 5, false, "", "", 56⟩]) := ⟨by kernel_rfl, by kernel_rfl⟩
theorem ty_api_Fault : TyOk Tryz.prog 25 2 16 (.agg #[.int .i64 0, .int .i64 0]) (.struct #[⟨"Code", 3, 0, false, "", "", 0⟩, ⟨"Index", 3, 1, false, "", "", 8⟩]) := ⟨by kernel_rfl, by kernel_rfl⟩
theorem ty_bool : TyOk Tryz.prog 4 1 1 (.bool false) .bool := ⟨by kernel_rfl, by kernel_rfl⟩
theorem ty_command_condition : TyOk Tryz.prog 57 2 24 (.agg #[.int .i64 0, .string ⟨#[]⟩]) (.struct #[⟨"n", 3, 0, false, "", "posthouse/command", 0⟩, ⟨"word", 9, 1, false, "", "posthouse/command", 8⟩]) := ⟨by kernel_rfl, by kernel_rfl⟩
theorem ty_error : TyOk Tryz.prog 80 1 16 (.nilIface) (.interface #[("Error", 83)]) := ⟨by kernel_rfl, by kernel_rfl⟩
theorem ty_int : TyOk Tryz.prog 3 1 8 (.int .i64 0) (.int .i64) := ⟨by kernel_rfl, by kernel_rfl⟩
theorem ty_int32 : TyOk Tryz.prog 21 1 4 (.int .i32 0) (.int .i32) := ⟨by kernel_rfl, by kernel_rfl⟩
theorem ty_s_int : TyOk Tryz.prog 51 1 24 (.slice none 0 0) (.slice 3) := ⟨by kernel_rfl, by kernel_rfl⟩
theorem ty_s_string : TyOk Tryz.prog 44 1 24 (.slice none 0 0) (.slice 9) := ⟨by kernel_rfl, by kernel_rfl⟩
theorem ty_s_uint8 : TyOk Tryz.prog 67 1 24 (.slice none 0 0) (.slice 5) := ⟨by kernel_rfl, by kernel_rfl⟩
theorem ty_string : TyOk Tryz.prog 9 1 16 (.string ⟨#[]⟩) .string := ⟨by kernel_rfl, by kernel_rfl⟩
theorem ty_uint8 : TyOk Tryz.prog 5 1 1 (.int .u8 0) (.int .u8) := ⟨by kernel_rfl, by kernel_rfl⟩
def tab : Tab := [(58, ⟨6, 72, (.agg #[.int .i64 0, .string ⟨#[]⟩, .int .i64 0, .string ⟨#[]⟩, .int .i64 0, .string ⟨#[]⟩]), (.array 3 57), none⟩), (38, ⟨8, 128, (.agg #[.string ⟨#[]⟩, .string ⟨#[]⟩, .string ⟨#[]⟩, .string ⟨#[]⟩, .string ⟨#[]⟩, .string ⟨#[]⟩, .string ⟨#[]⟩, .string ⟨#[]⟩]), (.array 8 9), none⟩), (23, ⟨6, 64, (.agg #[.int .i64 0, .string ⟨#[]⟩, .string ⟨#[]⟩, .int .i64 0, .int .i64 0, .bool false]), (.struct #[⟨"Verb", 3, 0, false, "", "", 0⟩, ⟨"Name", 9, 1, false, "", "", 8⟩, ⟨"Address", 9, 2, false, "", "", 24⟩, ⟨"Size", 3, 3, false, "", "", 40⟩, ⟨"Notify", 3, 4, false, "", "", 48⟩, ⟨"Last", 4, 5, false, "", "", 56⟩]), (some #[(0, 1), (1, 1), (2, 1), (3, 1), (4, 1), (5, 1)])⟩), (25, ⟨2, 16, (.agg #[.int .i64 0, .int .i64 0]), (.struct #[⟨"Code", 3, 0, false, "", "", 0⟩, ⟨"Index", 3, 1, false, "", "", 8⟩]), (some #[(0, 1), (1, 1)])⟩), (4, ⟨1, 1, (.bool false), .bool, none⟩), (57, ⟨2, 24, (.agg #[.int .i64 0, .string ⟨#[]⟩]), (.struct #[⟨"n", 3, 0, false, "", "posthouse/command", 0⟩, ⟨"word", 9, 1, false, "", "posthouse/command", 8⟩]), (some #[(0, 1), (1, 1)])⟩), (80, ⟨1, 16, (.nilIface), (.interface #[("Error", 83)]), none⟩), (3, ⟨1, 8, (.int .i64 0), (.int .i64), none⟩), (21, ⟨1, 4, (.int .i32 0), (.int .i32), none⟩), (51, ⟨1, 24, (.slice none 0 0), (.slice 3), none⟩), (44, ⟨1, 24, (.slice none 0 0), (.slice 9), none⟩), (67, ⟨1, 24, (.slice none 0 0), (.slice 5), none⟩), (9, ⟨1, 16, (.string ⟨#[]⟩), .string, none⟩), (5, ⟨1, 1, (.int .u8 0), (.int .u8), none⟩)]
theorem tk : TabOk Tryz.prog tab := (tab_cons ty__3_command_condition (tab_cons ty__8_string (tab_consP ty_api_Command pl_api_Command (tab_consP ty_api_Fault pl_api_Fault (tab_cons ty_bool (tab_consP ty_command_condition pl_command_condition (tab_cons ty_error (tab_cons ty_int (tab_cons ty_int32 (tab_cons ty_s_int (tab_cons ty_s_string (tab_cons ty_s_uint8 (tab_cons ty_string (tab_cons ty_uint8 tab_nil))))))))))))))
end Go.Proofs.YtgbahimpdoahbaaGreatDoor

/- Bounds and bulk of Go's structures. Written by program. -/
namespace Go.Proofs.YtgbahimpdoahbaaGreatDoor
open Go.RowKit
def TFault.ok (x : TFault) : Prop := ok64 x.Code ∧ ok64 x.Index
def TFault.bk (x : TFault) : Nat := (fun _ => 1) x.Code + (fun _ => 1) x.Index + 1
instance : Inhabited TFault := ⟨⟨default, default⟩⟩
def TAlias.ok (x : TAlias) : Prop := okStr x.Address ∧ (okL okStr) x.To
def TAlias.bk (x : TAlias) : Nat := (fun s => s.length + 1) x.Address + (bkL (fun s => s.length + 1)) x.To + 1
instance : Inhabited TAlias := ⟨⟨default, default⟩⟩
def TRecipient.ok (x : TRecipient) : Prop := okStr x.Address ∧ ok64 x.Notify
def TRecipient.bk (x : TRecipient) : Nat := (fun s => s.length + 1) x.Address + (fun _ => 1) x.Notify + 1
instance : Inhabited TRecipient := ⟨⟨default, default⟩⟩
def TEnvelope.ok (x : TEnvelope) : Prop := okStr x.From ∧ (okL TRecipient.ok) x.To ∧ okStr x.Id
def TEnvelope.bk (x : TEnvelope) : Nat := (fun s => s.length + 1) x.From + (bkL TRecipient.bk) x.To + (fun s => s.length + 1) x.Id + 1
instance : Inhabited TEnvelope := ⟨⟨default, default, default⟩⟩
def TField.ok (x : TField) : Prop := okStr x.Name ∧ okStr x.Value
def TField.bk (x : TField) : Nat := (fun s => s.length + 1) x.Name + (fun s => s.length + 1) x.Value + 1
instance : Inhabited TField := ⟨⟨default, default⟩⟩
def TMessage.ok (x : TMessage) : Prop := (okL TField.ok) x.Fields ∧ (okL (fun _ => True)) x.Body
def TMessage.bk (x : TMessage) : Nat := (bkL TField.bk) x.Fields + (bkL (fun _ => 1)) x.Body + 1
instance : Inhabited TMessage := ⟨⟨default, default⟩⟩
def TMail.ok (x : TMail) : Prop := TEnvelope.ok x.Envelope ∧ TMessage.ok x.Message
def TMail.bk (x : TMail) : Nat := TEnvelope.bk x.Envelope + TMessage.bk x.Message + 1
instance : Inhabited TMail := ⟨⟨default, default⟩⟩
def TForward.ok (x : TForward) : Prop := okStr x.Address ∧ (okL okStr) x.To ∧ (fun _ => True) x.Keep
def TForward.bk (x : TForward) : Nat := (fun s => s.length + 1) x.Address + (bkL (fun s => s.length + 1)) x.To + (fun _ => 1) x.Keep + 1
instance : Inhabited TForward := ⟨⟨default, default, default⟩⟩
def THeld.ok (x : THeld) : Prop := ok64 x.Number ∧ TMail.ok x.Mail
def THeld.bk (x : THeld) : Nat := (fun _ => 1) x.Number + TMail.bk x.Mail + 1
instance : Inhabited THeld := ⟨⟨default, default⟩⟩
def TList.ok (x : TList) : Prop := okStr x.Address ∧ okStr x.Owner ∧ (fun _ => True) x.Open ∧ (okL okStr) x.Subscribers ∧ (okL okStr) x.Moderators ∧ (okL THeld.ok) x.Held ∧ ok64 x.Next
def TList.bk (x : TList) : Nat := (fun s => s.length + 1) x.Address + (fun s => s.length + 1) x.Owner + (fun _ => 1) x.Open + (bkL (fun s => s.length + 1)) x.Subscribers + (bkL (fun s => s.length + 1)) x.Moderators + (bkL THeld.bk) x.Held + (fun _ => 1) x.Next + 1
instance : Inhabited TList := ⟨⟨default, default, default, default, default, default, default⟩⟩
def TReply.ok (x : TReply) : Prop := ok64 x.Code ∧ (okL okStr) x.Lines
def TReply.bk (x : TReply) : Nat := (fun _ => 1) x.Code + (bkL (fun s => s.length + 1)) x.Lines + 1
instance : Inhabited TReply := ⟨⟨default, default⟩⟩
def TDate.ok (x : TDate) : Prop := ok64 x.Year ∧ ok64 x.Month ∧ ok64 x.Day ∧ ok64 x.Hour ∧ ok64 x.Minute ∧ ok64 x.Second ∧ ok64 x.Zone
def TDate.bk (x : TDate) : Nat := (fun _ => 1) x.Year + (fun _ => 1) x.Month + (fun _ => 1) x.Day + (fun _ => 1) x.Hour + (fun _ => 1) x.Minute + (fun _ => 1) x.Second + (fun _ => 1) x.Zone + 1
instance : Inhabited TDate := ⟨⟨default, default, default, default, default, default, default⟩⟩
def TCommand.ok (x : TCommand) : Prop := ok64 x.Verb ∧ okStr x.Name ∧ okStr x.Address ∧ ok64 x.Size ∧ ok64 x.Notify ∧ (fun _ => True) x.Last
def TCommand.bk (x : TCommand) : Nat := (fun _ => 1) x.Verb + (fun s => s.length + 1) x.Name + (fun s => s.length + 1) x.Address + (fun _ => 1) x.Size + (fun _ => 1) x.Notify + (fun _ => 1) x.Last + 1
instance : Inhabited TCommand := ⟨⟨default, default, default, default, default, default⟩⟩
def Tcommand_condition.ok (x : Tcommand_condition) : Prop := ok64 x.n ∧ okStr x.word
def Tcommand_condition.bk (x : Tcommand_condition) : Nat := (fun _ => 1) x.n + (fun s => s.length + 1) x.word + 1
instance : Inhabited Tcommand_condition := ⟨⟨default, default⟩⟩
end Go.Proofs.YtgbahimpdoahbaaGreatDoor

/- How the laws' arguments are read. Written by program. -/
namespace Go.Proofs.YtgbahimpdoahbaaGreatDoor
open Go.RowKit
set_option maxRecDepth 100000
set_option linter.unusedVariables false
theorem op_string : Opens Tryz.prog 9 1 cS okStr (fun s => s.length + 1) := opens_S ty_string.u (by kernel_rfl)
end Go.Proofs.YtgbahimpdoahbaaGreatDoor

/- Functions of the program as Lean functions: what they compute. Written by program. -/
namespace Go.Proofs.YtgbahimpdoahbaaGreatDoor
open Go.RowKit
set_option maxRecDepth 100000
set_option maxHeartbeats 40000000
set_option linter.unusedVariables false
def R_In (a0 : Int) (a1 : Int) (a2 : Int) : Option Bool :=
  ((bif decide (a1 ≤ a0) then some (decide (a0 ≤ a2)) else some false) : Option Bool).bind fun (j1 : Bool) => some j1
def R_At (a0 : Int) (a1 : Int) : Option TFault :=
  some ((TFault.mk a0 a1))
def R_letterOrDigit (a0 : UInt8) : Option Bool :=
  ((R_In ((a0.toNat : Int)) 97 122).bind fun v2 => (bif v2 then some true else (R_In ((a0.toNat : Int)) 65 90).bind fun v5 => (bif v5 then some true else (R_In ((a0.toNat : Int)) 48 57).bind fun v8 => some v8)) : Option Bool).bind fun (j1 : Bool) => some j1
def R_sign_l1 (a0 : Str) (s1 : Int) : Option (Step Int (Unit ⊕ Int)) :=
  (bif decide (s1 < (a0.length : Int)) then (idx a0 s1).bind fun v7 => (bif ((v7.toNat : Int) == 64) then some (.out (.inr s1)) else some (.cont (w64 (s1 + 1)))) else some (.out (.inl (()))))
noncomputable def R_sign (a0 : Str) : Option Int :=
  (iter (R_sign_l1 a0) 0).bind (Sum.elim (fun b2 => some ((a0.length : Int))) (fun b3 => some b3))
def R_DomainOk_l1 (a0 : Str) (s1 : Int) : Option (Step Int (Unit ⊕ Bool)) :=
  (bif decide (s1 < (a0.length : Int)) then (idx a0 s1).bind fun v7 => ((idx a0 s1).bind fun v10 => (bif ((v10.toNat : Int) == 46) then (bif (s1 == 0) then some true else (bif (s1 == (w64 ((a0.length : Int) - 1))) then some true else (idx a0 ((w64 (s1 - 1)))).bind fun v15 => some (((v15.toNat : Int) == 46)))) else some false) : Option Bool).bind fun (j9 : Bool) => (bif j9 then some (.out (.inr false)) else ((R_In ((v7.toNat : Int)) 97 122).bind fun v19 => (bif (!v19) then (R_In ((v7.toNat : Int)) 48 57).bind fun v22 => (bif (!v22) then (idx a0 s1).bind fun v25 => (bif ((v25.toNat : Int) != 45) then (idx a0 s1).bind fun v28 => some (((v28.toNat : Int) != 46)) else some false) else some false) else some false) : Option Bool).bind fun (j18 : Bool) => (bif j18 then some (.out (.inr false)) else some (.cont (w64 (s1 + 1))))) else some (.out (.inl (()))))
noncomputable def R_DomainOk (a0 : Str) : Option Bool :=
  (iter (R_DomainOk_l1 a0) 0).bind (Sum.elim (fun b2 => (R_In ((a0.length : Int)) 1 60).bind fun v31 => some v31) (fun b3 => some b3))
def R_AddressOk_l1 (a0 : Str) (v1 : Int) (s3 : Int) : Option (Step Int (Unit ⊕ Bool)) :=
  (bif decide (s3 < v1) then (idx a0 s3).bind fun v9 => ((R_letterOrDigit v9).bind fun v12 => (bif (!v12) then (bif ((v9.toNat : Int) != 45) then (bif ((v9.toNat : Int) != 95) then (bif ((v9.toNat : Int) != 46) then (bif ((v9.toNat : Int) != 43) then some (((v9.toNat : Int) != 61)) else some false) else some false) else some false) else some false) else some false) : Option Bool).bind fun (j11 : Bool) => (bif j11 then some (.out (.inr false)) else some (.cont (w64 (s3 + 1)))) else some (.out (.inl (()))))
noncomputable def R_AddressOk (a0 : Str) : Option Bool :=
  (R_sign a0).bind fun v1 => (iter (R_AddressOk_l1 a0 v1) 0).bind (Sum.elim (fun b4 => ((R_In v1 1 60).bind fun v21 => (bif v21 then (bif decide (v1 < (a0.length : Int)) then (cut a0 ((w64 (v1 + 1))) ((a0.length : Int))).bind fun v25 => (R_DomainOk v25).bind fun v27 => some v27 else some false) else some false) : Option Bool).bind fun (j20 : Bool) => some j20) (fun b5 => some b5))
def basic_Fault (a0 : Int) (a1 : Int) : Option TFault :=
  some ((TFault.mk a0 a1))
def basic_None  : Option TFault :=
  some ((TFault.mk 0 0))
def basic_Failed (a0 : TFault) : Option Bool :=
  some ((a0.Code != 0))
def basic_Letter (a0 : UInt8) : Option Bool :=
  ((bif decide (97 ≤ (a0.toNat : Int)) then (bif decide ((a0.toNat : Int) ≤ 122) then some true else (bif decide (65 ≤ (a0.toNat : Int)) then (bif decide ((a0.toNat : Int) ≤ 90) then some true else (bif decide (48 ≤ (a0.toNat : Int)) then some (decide ((a0.toNat : Int) ≤ 57)) else some false)) else (bif decide (48 ≤ (a0.toNat : Int)) then some (decide ((a0.toNat : Int) ≤ 57)) else some false))) else (bif decide (65 ≤ (a0.toNat : Int)) then (bif decide ((a0.toNat : Int) ≤ 90) then some true else (bif decide (48 ≤ (a0.toNat : Int)) then some (decide ((a0.toNat : Int) ≤ 57)) else some false)) else (bif decide (48 ≤ (a0.toNat : Int)) then some (decide ((a0.toNat : Int) ≤ 57)) else some false))) : Option Bool).bind fun (j1 : Bool) => some j1
end Go.Proofs.YtgbahimpdoahbaaGreatDoor

/- Library functions as Lean functions. -/
namespace Go.Proofs.YtgbahimpdoahbaaGreatDoor
open Go.RowKit
def strings_IndexByte (s : Str) (c : UInt8) : Option Int := some (Lib.indexByte s c)
def strings_Contains (s t : Str) : Option Bool := if s.length < 4294967281 then some (Lib.contains s t) else none
def strings_Cut (s t : Str) : Option (Str × Str × Bool) := if s.length < 4294967281 then some (Lib.cut s t) else none
end Go.Proofs.YtgbahimpdoahbaaGreatDoor

/- Functions of the program as Lean functions: what they compute. Written by program. -/
namespace Go.Proofs.YtgbahimpdoahbaaGreatDoor
open Go.RowKit
set_option maxRecDepth 100000
set_option maxHeartbeats 40000000
set_option linter.unusedVariables false
end Go.Proofs.YtgbahimpdoahbaaGreatDoor

/- Library functions as Lean functions. -/
namespace Go.Proofs.YtgbahimpdoahbaaGreatDoor
open Go.RowKit
end Go.Proofs.YtgbahimpdoahbaaGreatDoor

/- Functions of the program as Lean functions: what they compute. Written by program. -/
namespace Go.Proofs.YtgbahimpdoahbaaGreatDoor
open Go.RowKit
set_option maxRecDepth 100000
set_option maxHeartbeats 40000000
set_option linter.unusedVariables false
end Go.Proofs.YtgbahimpdoahbaaGreatDoor

/- Functions of the program as Lean functions: what they compute. Written by program. -/
namespace Go.Proofs.YtgbahimpdoahbaaGreatDoor
open Go.RowKit
set_option maxRecDepth 100000
set_option maxHeartbeats 40000000
set_option linter.unusedVariables false
end Go.Proofs.YtgbahimpdoahbaaGreatDoor

/- Functions of the program as Lean functions: what they compute. Written by program. -/
namespace Go.Proofs.YtgbahimpdoahbaaGreatDoor
open Go.RowKit
set_option maxRecDepth 100000
set_option maxHeartbeats 40000000
set_option linter.unusedVariables false
end Go.Proofs.YtgbahimpdoahbaaGreatDoor

/- Functions of the program as Lean functions: what they compute. Written by program. -/
namespace Go.Proofs.YtgbahimpdoahbaaGreatDoor
open Go.RowKit
set_option maxRecDepth 100000
set_option maxHeartbeats 40000000
set_option linter.unusedVariables false
def internal_stringslite_HasPrefix (a0 : Str) (a1 : Str) : Option Bool :=
  ((bif decide ((a1.length : Int) ≤ (a0.length : Int)) then (cut a0 0 ((a1.length : Int))).bind fun v3 => some ((v3 == a1)) else some false) : Option Bool).bind fun (j1 : Bool) => some j1
def strings_HasPrefix (a0 : Str) (a1 : Str) : Option Bool :=
  (internal_stringslite_HasPrefix a0 a1).bind fun v1 => some v1
def internal_stringslite_HasSuffix (a0 : Str) (a1 : Str) : Option Bool :=
  ((bif decide ((a1.length : Int) ≤ (a0.length : Int)) then (cut a0 ((w64 ((a0.length : Int) - (a1.length : Int)))) ((a0.length : Int))).bind fun v3 => some ((v3 == a1)) else some false) : Option Bool).bind fun (j1 : Bool) => some j1
def strings_HasSuffix (a0 : Str) (a1 : Str) : Option Bool :=
  (internal_stringslite_HasSuffix a0 a1).bind fun v1 => some v1
def envelope_Domain_l1 (a0 : Str) (s5 : Int) : Option (Step Int (Unit ⊕ Unit)) :=
  (bif decide (s5 < (a0.length : Int)) then (idx a0 s5).bind fun v11 => ((bif decide (97 ≤ (v11.toNat : Int)) then (bif decide ((v11.toNat : Int) ≤ 122) then some true else (bif decide (48 ≤ (v11.toNat : Int)) then (bif decide ((v11.toNat : Int) ≤ 57) then some true else (bif ((v11.toNat : Int) == 45) then some true else some (((v11.toNat : Int) == 46)))) else (bif ((v11.toNat : Int) == 45) then some true else some (((v11.toNat : Int) == 46))))) else (bif decide (48 ≤ (v11.toNat : Int)) then (bif decide ((v11.toNat : Int) ≤ 57) then some true else (bif ((v11.toNat : Int) == 45) then some true else some (((v11.toNat : Int) == 46)))) else (bif ((v11.toNat : Int) == 45) then some true else some (((v11.toNat : Int) == 46))))) : Option Bool).bind fun (j13 : Bool) => (bif (!j13) then some (.out (.inr (()))) else some (.cont (w64 (s5 + 1)))) else some (.out (.inl (()))))
noncomputable def envelope_Domain (a0 : Str) : Option Bool :=
  ((bif (a0 != ([] : Str)) then (bif decide ((a0.length : Int) ≤ 60) then ((iter (envelope_Domain_l1 a0) 0).bind (Sum.elim (fun b6 => some true) (fun b7 => some false)) : Option Bool).bind fun (j4 : Bool) => (bif j4 then (strings_HasPrefix a0 (([46] : Str))).bind fun v26 => (bif (!v26) then (strings_HasSuffix a0 (([46] : Str))).bind fun v29 => (bif (!v29) then (strings_Contains a0 (([46, 46] : Str))).bind fun v32 => some ((!v32)) else some false) else some false) else some false) else some false) else some false) : Option Bool).bind fun (j1 : Bool) => some j1
def envelope_Split_l1 (v1 : Str × Str × Bool) (s8 : Int) : Option (Step Int (Unit ⊕ Unit)) :=
  (bif decide (s8 < (v1.1.length : Int)) then (idx v1.1 s8).bind fun v14 => ((basic_Letter v14).bind fun v17 => (bif v17 then some true else (strings_IndexByte (([45, 95, 46, 43, 61] : Str)) v14).bind fun v20 => some (decide (0 ≤ v20))) : Option Bool).bind fun (j16 : Bool) => (bif (!j16) then some (.out (.inr (()))) else some (.cont (w64 (s8 + 1)))) else some (.out (.inl (()))))
noncomputable def envelope_Split (a0 : Str) : Option (Str × Str × Bool) :=
  (strings_Cut a0 (([64] : Str))).bind fun v1 => ((bif v1.2.2 then (bif (v1.1 != ([] : Str)) then (bif decide ((v1.1.length : Int) ≤ 60) then ((iter (envelope_Split_l1 v1) 0).bind (Sum.elim (fun b9 => some true) (fun b10 => some false)) : Option Bool).bind fun (j7 : Bool) => (bif j7 then (envelope_Domain v1.2.1).bind fun v24 => some v24 else some false) else some false) else some false) else some false) : Option Bool).bind fun (j3 : Bool) => some ((v1.1, v1.2.1, j3))
noncomputable def envelope_Address (a0 : Str) : Option Bool :=
  (envelope_Split a0).bind fun v1 => some v1.2.2
end Go.Proofs.YtgbahimpdoahbaaGreatDoor

/- Functions of the program as Lean functions: what they compute. Written by program. -/
namespace Go.Proofs.YtgbahimpdoahbaaGreatDoor
open Go.RowKit
set_option maxRecDepth 100000
set_option maxHeartbeats 40000000
set_option linter.unusedVariables false
end Go.Proofs.YtgbahimpdoahbaaGreatDoor

/- Functions of the program as Lean functions: what they compute. Written by program. -/
namespace Go.Proofs.YtgbahimpdoahbaaGreatDoor
open Go.RowKit
set_option maxRecDepth 100000
set_option maxHeartbeats 40000000
set_option linter.unusedVariables false
def R_NameOk_l1 (a0 : Str) (s1 : Int) : Option (Step Int (Unit ⊕ Bool)) :=
  (bif decide (s1 < (a0.length : Int)) then ((idx a0 s1).bind fun v8 => (R_letterOrDigit v8).bind fun v10 => (bif (!v10) then (idx a0 s1).bind fun v13 => (bif ((v13.toNat : Int) != 45) then (idx a0 s1).bind fun v16 => (bif ((v16.toNat : Int) != 95) then (idx a0 s1).bind fun v19 => some (((v19.toNat : Int) != 46)) else some false) else some false) else some false) : Option Bool).bind fun (j7 : Bool) => (bif j7 then some (.out (.inr false)) else some (.cont (w64 (s1 + 1)))) else some (.out (.inl (()))))
noncomputable def R_NameOk (a0 : Str) : Option Bool :=
  (iter (R_NameOk_l1 a0) 0).bind (Sum.elim (fun b2 => (R_In ((a0.length : Int)) 1 60).bind fun v22 => some v22) (fun b3 => some b3))
def basic_Name_l1 (a0 : Str) (s5 : Int) : Option (Step Int (Unit ⊕ Unit)) :=
  (bif decide (s5 < (a0.length : Int)) then (idx a0 s5).bind fun v11 => ((basic_Letter v11).bind fun v14 => (bif v14 then some true else (bif ((v11.toNat : Int) == 45) then some true else (bif ((v11.toNat : Int) == 95) then some true else some (((v11.toNat : Int) == 46))))) : Option Bool).bind fun (j13 : Bool) => (bif (!j13) then some (.out (.inr (()))) else some (.cont (w64 (s5 + 1)))) else some (.out (.inl (()))))
noncomputable def basic_Name (a0 : Str) : Option Bool :=
  ((bif (a0 != ([] : Str)) then (bif decide ((a0.length : Int) ≤ 60) then ((iter (basic_Name_l1 a0) 0).bind (Sum.elim (fun b6 => some true) (fun b7 => some false)) : Option Bool).bind fun (j4 : Bool) => some j4 else some false) else some false) : Option Bool).bind fun (j1 : Bool) => some j1
def envelope_Notify (a0 : Int) : Option Bool :=
  ((bif decide (0 ≤ a0) then some (decide (a0 ≤ 7)) else some false) : Option Bool).bind fun (j1 : Bool) => some j1
end Go.Proofs.YtgbahimpdoahbaaGreatDoor

/- Functions of the program as Lean functions: what they compute. Written by program. -/
namespace Go.Proofs.YtgbahimpdoahbaaGreatDoor
open Go.RowKit
set_option maxRecDepth 100000
set_option maxHeartbeats 40000000
set_option linter.unusedVariables false
end Go.Proofs.YtgbahimpdoahbaaGreatDoor

/- Functions of the program as Lean functions: what they compute. Written by program. -/
namespace Go.Proofs.YtgbahimpdoahbaaGreatDoor
open Go.RowKit
set_option maxRecDepth 100000
set_option maxHeartbeats 40000000
set_option linter.unusedVariables false
end Go.Proofs.YtgbahimpdoahbaaGreatDoor

/- Functions of the program as Lean functions: what they compute. Written by program. -/
namespace Go.Proofs.YtgbahimpdoahbaaGreatDoor
open Go.RowKit
set_option maxRecDepth 100000
set_option maxHeartbeats 40000000
set_option linter.unusedVariables false
def basic_Lower_l1 (a0 : Str) (s1 : Int × (List UInt8)) : Option (Step (Int × (List UInt8)) (List UInt8)) :=
  (bif decide (s1.1 < (a0.length : Int)) then ((idx s1.2 s1.1).bind fun v6 => (idx s1.2 s1.1).bind fun v8 => ((bif decide (65 ≤ (v8.toNat : Int)) then some (decide ((v8.toNat : Int) ≤ 90)) else some false) : Option Bool).bind fun (j10 : Bool) => (bif j10 then (idx s1.2 s1.1).bind fun v13 => (idx s1.2 s1.1).bind fun v15 => some ((List.set s1.2 (Int.toNat s1.1) (((v8 + (97 : UInt8)) - (65 : UInt8))))) else some s1.2) : Option (List UInt8)).bind fun (j5 : List UInt8) => some (.cont ((w64 (s1.1 + 1)), j5)) else some (.out s1.2))
noncomputable def basic_Lower (a0 : Str) : Option Str :=
  (iter (basic_Lower_l1 a0) ((0, a0))).bind fun b2 => some b2
end Go.Proofs.YtgbahimpdoahbaaGreatDoor

/- Functions of the program as Lean functions: what they compute. Written by program. -/
namespace Go.Proofs.YtgbahimpdoahbaaGreatDoor
open Go.RowKit
set_option maxRecDepth 100000
set_option maxHeartbeats 40000000
set_option linter.unusedVariables false
def R_Small_l1 (a0 : Str) (s1 : Int × (List UInt8)) : Option (Step (Int × (List UInt8)) (List UInt8)) :=
  (bif decide (s1.1 < (a0.length : Int)) then (idx a0 s1.1).bind fun v5 => ((R_In ((v5.toNat : Int)) 65 90).bind fun v8 => (bif v8 then some ((v5 + (32 : UInt8))) else some v5) : Option UInt8).bind fun (j7 : UInt8) => (app 140737488355328 s1.2 (([j7] : List UInt8))).bind fun v11 => some (.cont ((w64 (s1.1 + 1)), v11)) else some (.out s1.2))
noncomputable def R_Small (a0 : Str) : Option Str :=
  (iter (R_Small_l1 a0) ((0, ([] : List UInt8)))).bind fun b2 => some b2
end Go.Proofs.YtgbahimpdoahbaaGreatDoor

/- Functions of the program as Lean functions: what they compute. Written by program. -/
namespace Go.Proofs.YtgbahimpdoahbaaGreatDoor
open Go.RowKit
set_option maxRecDepth 100000
set_option maxHeartbeats 40000000
set_option linter.unusedVariables false
end Go.Proofs.YtgbahimpdoahbaaGreatDoor

/- Functions of the program as Lean functions: what they compute. Written by program. -/
namespace Go.Proofs.YtgbahimpdoahbaaGreatDoor
open Go.RowKit
set_option maxRecDepth 100000
set_option maxHeartbeats 40000000
set_option linter.unusedVariables false
end Go.Proofs.YtgbahimpdoahbaaGreatDoor

/- Functions of the program as Lean functions: what they compute. Written by program. -/
namespace Go.Proofs.YtgbahimpdoahbaaGreatDoor
open Go.RowKit
set_option maxRecDepth 100000
set_option maxHeartbeats 40000000
set_option linter.unusedVariables false
end Go.Proofs.YtgbahimpdoahbaaGreatDoor

/- Numerals of the library as Lean functions. -/
namespace Go.Proofs.YtgbahimpdoahbaaGreatDoor
open Go.RowKit
def strconv_Itoa (n : Int) : Option Str := if -9223372036854775808 ≤ n ∧ n ≤ 9223372036854775807 then some (Lib.itoa n) else none
def strconv_Atoi (s : Str) : Option (Int × Bool) := if s.length ≤ 18 then (match Lib.atoi s with | some n => some (n, false) | none => some (0, true)) else none
end Go.Proofs.YtgbahimpdoahbaaGreatDoor

/- Functions of the program as Lean functions: what they compute. Written by program. -/
namespace Go.Proofs.YtgbahimpdoahbaaGreatDoor
open Go.RowKit
set_option maxRecDepth 100000
set_option maxHeartbeats 40000000
set_option linter.unusedVariables false
def R_Amount_l1 (a0 : Str) (s9 : Int × Int) : Option (Step (Int × Int) (Int ⊕ Int)) :=
  (bif decide (s9.2 < (a0.length : Int)) then (idx a0 s9.2).bind fun v15 => (R_In ((v15.toNat : Int)) 48 57).bind fun v17 => (bif (!v17) then some (.out (.inr ((-1)))) else (idx a0 s9.2).bind fun v20 => some (.cont ((w64 ((w64 (10 * s9.1)) + (((v20 - (48 : UInt8))).toNat : Int))), (w64 (s9.2 + 1))))) else some (.out (.inl s9.1)))
noncomputable def R_Amount (a0 : Str) : Option Int :=
  ((R_In ((a0.length : Int)) 1 9).bind fun v2 => (bif (!v2) then some true else (bif decide (1 < (a0.length : Int)) then (idx a0 0).bind fun v6 => some (((v6.toNat : Int) == 48)) else some false)) : Option Bool).bind fun (j1 : Bool) => (bif j1 then some ((-1)) else (iter (R_Amount_l1 a0) ((0, 0))).bind (Sum.elim (fun b10 => some b10) (fun b11 => some b11)))
end Go.Proofs.YtgbahimpdoahbaaGreatDoor

/- Library functions as Lean functions: texts joined and repeated. -/
namespace Go.Proofs.YtgbahimpdoahbaaGreatDoor
open Go.RowKit
def strings_Join (l : List Str) (s : Str) : Option Str := if l.length ≤ 140737488355328 ∧ (Lib.join l s).length ≤ 140737488355328 then some (Lib.join l s) else none
end Go.Proofs.YtgbahimpdoahbaaGreatDoor

/- Library functions as Lean functions: texts split. -/
namespace Go.Proofs.YtgbahimpdoahbaaGreatDoor
open Go.RowKit
end Go.Proofs.YtgbahimpdoahbaaGreatDoor

/- Functions of the program as Lean functions: what they compute. Written by program. -/
namespace Go.Proofs.YtgbahimpdoahbaaGreatDoor
open Go.RowKit
set_option maxRecDepth 100000
set_option maxHeartbeats 40000000
set_option linter.unusedVariables false
end Go.Proofs.YtgbahimpdoahbaaGreatDoor

/- Library functions as Lean functions: texts divided at spaces. -/
namespace Go.Proofs.YtgbahimpdoahbaaGreatDoor
open Go.RowKit
def sp32 (x : Nat) : Bool := decide ((x : Int) = 32)
def strings_FieldsFunc_sp (s : Str) : Option (List Str) := if s.length ≤ 4294967296 then some ((Lib.goFieldsP sp32 (strB s)).map fun b => b.data.toList) else none
end Go.Proofs.YtgbahimpdoahbaaGreatDoor

/- Library functions as Lean functions: beginnings and ends taken away. -/
namespace Go.Proofs.YtgbahimpdoahbaaGreatDoor
open Go.RowKit
def strings_CutPrefix (s t : Str) : Option (Str × Bool) := some (Lib.trimPrefix s t, Lib.hasPrefix s t)
def strings_CutSuffix (s t : Str) : Option (Str × Bool) := if s.length ≤ 9223372036854775807 then some (Lib.trimSuffix s t, Lib.hasSuffix s t) else none
end Go.Proofs.YtgbahimpdoahbaaGreatDoor

/- Functions of the program as Lean functions: what they compute. Written by program. -/
namespace Go.Proofs.YtgbahimpdoahbaaGreatDoor
open Go.RowKit
set_option maxRecDepth 100000
set_option maxHeartbeats 40000000
set_option linter.unusedVariables false
def command_used (a0 : TCommand) : Option TCommand :=
  ((bif (a0.Verb == 1) then some ((a0.Name, ([] : Str), 0, 0, false)) else (bif (a0.Verb == 2) then some ((([] : Str), a0.Address, a0.Size, 0, false)) else (bif (a0.Verb == 3) then some ((([] : Str), a0.Address, 0, a0.Notify, false)) else (bif (a0.Verb == 5) then some ((([] : Str), ([] : Str), a0.Size, 0, a0.Last)) else some ((([] : Str), ([] : Str), 0, 0, false)))))) : Option (Str × Str × Int × Int × Bool)).bind fun (j1 : Str × Str × Int × Int × Bool) => some ((TCommand.mk a0.Verb j1.1 j1.2.1 j1.2.2.1 j1.2.2.2.1 j1.2.2.2.2))
noncomputable def command_Validate (a0 : TCommand) : Option TFault :=
  ((bif (a0.Verb == 3) then some true else (bif (a0.Verb == 2) then some ((a0.Address != ([] : Str))) else some false)) : Option Bool).bind fun (j1 : Bool) => ((bif decide (a0.Verb < 1) then some true else some (decide (8 < a0.Verb))) : Option Bool).bind fun (j4 : Bool) => (bif j4 then (basic_Fault 4 ((-2))).bind fun v7 => some v7 else (command_used a0).bind fun v9 => (bif (!(allEq [(a0.Verb == v9.Verb), (a0.Name == v9.Name), (a0.Address == v9.Address), (a0.Size == v9.Size), (a0.Notify == v9.Notify), (a0.Last == v9.Last)])) then (basic_Fault 5 ((-3))).bind fun v12 => some v12 else ((bif (a0.Verb == 1) then (basic_Name a0.Name).bind fun v16 => some ((!v16)) else some false) : Option Bool).bind fun (j14 : Bool) => (bif j14 then (basic_Fault 10 ((-4))).bind fun v19 => some v19 else ((bif j1 then (envelope_Address a0.Address).bind fun v23 => some ((!v23)) else some false) : Option Bool).bind fun (j21 : Bool) => (bif j21 then (basic_Fault 10 ((-5))).bind fun v26 => some v26 else ((bif decide (a0.Size < 0) then some true else some (decide (1000000 < a0.Size))) : Option Bool).bind fun (j28 : Bool) => (bif j28 then (basic_Fault 3 ((-6))).bind fun v31 => some v31 else (envelope_Notify a0.Notify).bind fun v33 => (bif (!v33) then (basic_Fault 3 ((-7))).bind fun v36 => some v36 else (basic_None).bind fun v38 => some v38))))))
def command_words  : Option (Str × Str × Str × Str × Str × Str × Str × Str) :=
  some ((([104, 101, 108, 108, 111] : Str), ([109, 97, 105, 108] : Str), ([114, 99, 112, 116] : Str), ([100, 97, 116, 97] : Str), ([99, 104, 117, 110, 107] : Str), ([114, 101, 115, 101, 116] : Str), ([110, 111, 111, 112] : Str), ([113, 117, 105, 116] : Str)))
def command_conditions  : Option (Tcommand_condition × Tcommand_condition × Tcommand_condition) :=
  some (((Tcommand_condition.mk 1 (([102, 97, 105, 108, 117, 114, 101] : Str))), (Tcommand_condition.mk 2 (([100, 101, 108, 97, 121] : Str))), (Tcommand_condition.mk 4 (([115, 117, 99, 99, 101, 115, 115] : Str)))))
def command_notify_l1 (a0 : Int) (v1 : Tcommand_condition × Tcommand_condition × Tcommand_condition) (s3 : Int × (List Str)) : Option (Step (Int × (List Str)) (List Str)) :=
  (bif decide (s3.1 < 3) then ((idx ([v1.1, v1.2.1, v1.2.2] : List Tcommand_condition) s3.1).bind fun v8 => (bif ((iAnd a0 v8.n) != 0) then (app 8796093022208 s3.2 (([v8.word] : List Str))).bind fun v11 => some v11 else some s3.2) : Option (List Str)).bind fun (j7 : List Str) => some (.cont ((w64 (s3.1 + 1)), j7)) else some (.out s3.2))
noncomputable def command_notify (a0 : Int) : Option Str :=
  (command_conditions).bind fun v1 => (iter (command_notify_l1 a0 v1) ((0, ([] : List Str)))).bind fun b4 => (bif ((b4.length : Int) == 0) then some (([110, 101, 118, 101, 114] : Str)) else (strings_Join b4 (([44] : Str))).bind fun v14 => some v14)
noncomputable def command_Print (a0 : TCommand) : Option (Str × TFault) :=
  (command_Validate a0).bind fun v1 => (basic_Failed v1).bind fun v3 => (bif v3 then some ((([] : Str), v1)) else (command_words).bind fun v6 => (idx ([v6.1, v6.2.1, v6.2.2.1, v6.2.2.2.1, v6.2.2.2.2.1, v6.2.2.2.2.2.1, v6.2.2.2.2.2.2.1, v6.2.2.2.2.2.2.2] : List Str) ((w64 (a0.Verb - 1)))).bind fun v8 => ((bif (a0.Verb == 1) then (cat (([32] : Str)) a0.Name).bind fun v12 => (cat v8 v12).bind fun v14 => some v14 else (bif (a0.Verb == 2) then (cat (([32, 60] : Str)) a0.Address).bind fun v17 => (cat v17 (([62] : Str))).bind fun v19 => (cat v8 v19).bind fun v21 => (bif (a0.Size != 0) then (strconv_Itoa a0.Size).bind fun v24 => (cat (([32, 115, 105, 122, 101, 61] : Str)) v24).bind fun v26 => (cat v21 v26).bind fun v28 => some v28 else some v21) else (bif (a0.Verb == 3) then (cat (([32, 60] : Str)) a0.Address).bind fun v31 => (cat v31 (([62] : Str))).bind fun v33 => (cat v8 v33).bind fun v35 => (bif (a0.Notify != 1) then (command_notify a0.Notify).bind fun v38 => (cat (([32, 110, 111, 116, 105, 102, 121, 61] : Str)) v38).bind fun v40 => (cat v35 v40).bind fun v42 => some v42 else some v35) else (bif (a0.Verb == 5) then (strconv_Itoa a0.Size).bind fun v45 => (cat (([32] : Str)) v45).bind fun v47 => (cat v8 v47).bind fun v49 => (bif a0.Last then (cat v49 (([32, 108, 97, 115, 116] : Str))).bind fun v52 => some v52 else some v49) else some v8)))) : Option Str).bind fun (j10 : Str) => (basic_None).bind fun v54 => some ((j10, v54)))
noncomputable def command_address (a0 : Str) : Option (Str × Bool) :=
  (strings_CutPrefix a0 (([60] : Str))).bind fun v1 => (strings_CutSuffix v1.1 (([62] : Str))).bind fun v3 => ((bif v1.2 then some v3.2 else some false) : Option Bool).bind fun (j5 : Bool) => some ((v3.1, j5))
noncomputable def command_option (a0 : List Str) (a1 : Str) : Option (Str × Bool) :=
  (bif ((a0.length : Int) != 1) then some ((([] : Str), false)) else (idx a0 0).bind fun v2 => (basic_Lower v2).bind fun v4 => (cat a1 (([61] : Str))).bind fun v6 => (strings_CutPrefix v4 v6).bind fun v8 => some ((v8.1, v8.2)))
noncomputable def basic_Number (a0 : Str) (a1 : Int) : Option (Int × Bool) :=
  (strconv_Atoi a0).bind fun v1 => ((bif v1.2 then some true else (strconv_Itoa v1.1).bind fun v5 => (bif (v5 != a0) then some true else (bif decide (v1.1 < 0) then some true else some (decide (a1 < v1.1))))) : Option Bool).bind fun (j3 : Bool) => (bif j3 then some ((0, false)) else some ((v1.1, true)))
noncomputable def command_number (a0 : Str) : Option (Int × Bool) :=
  (bif decide (9 < (a0.length : Int)) then some ((0, false)) else (basic_Number a0 999999999).bind fun v2 => some ((v2.1, v2.2)))
noncomputable def command_told_l1 (a0 : Str) (a1 : Bool) (s1 : Int) : Option (Step Int (Unit ⊕ (Int × Bool))) :=
  (bif decide (s1 < 8) then ((bif a1 then (command_notify s1).bind fun v9 => some ((v9 == a0)) else some false) : Option Bool).bind fun (j7 : Bool) => (bif j7 then some (.out (.inr ((s1, true)))) else some (.cont (w64 (s1 + 1)))) else some (.out (.inl (()))))
noncomputable def command_told (a0 : Str) (a1 : Bool) : Option (Int × Bool) :=
  (iter (command_told_l1 a0 a1) 0).bind (Sum.elim (fun b2 => some ((0, false))) (fun b3 => some ((b3.1, b3.2))))
def command_read_1 (a0 : Int) (a1 : Int) (c0_0 : List Str) : Option Bool :=
  ((bif decide (a0 ≤ (c0_0.length : Int)) then some (decide ((c0_0.length : Int) ≤ a1)) else some false) : Option Bool).bind fun (j1 : Bool) => some j1
def command_read_k1 (a0 : Int) (j1 : Bool × Bool × Str × Str × Int × Int × Bool) : Option (TCommand × Bool) :=
  ((bif j1.1 then some j1.2.1 else some false) : Option Bool).bind fun (j2 : Bool) => some (((TCommand.mk a0 j1.2.2.1 j1.2.2.2.1 j1.2.2.2.2.1 j1.2.2.2.2.2.1 j1.2.2.2.2.2.2), j2))
noncomputable def command_read (a0 : Int) (a1 : List Str) : Option (TCommand × Bool) :=
  (bif (a0 == 1) then ((bif decide (1 ≤ (a1.length : Int)) then some (decide ((a1.length : Int) ≤ 1)) else some false) : Option Bool).bind fun (j5 : Bool) => (bif (!j5) then some (((TCommand.mk a0 (([] : Str)) (([] : Str)) 0 0 false), false)) else (idx a1 0).bind fun v8 => (command_read_k1 a0 (true, true, v8, ([] : Str), 0, 0, false))) else (bif (a0 == 2) then ((bif decide (1 ≤ (a1.length : Int)) then some (decide ((a1.length : Int) ≤ 2)) else some false) : Option Bool).bind fun (j11 : Bool) => (bif (!j11) then some (((TCommand.mk a0 (([] : Str)) (([] : Str)) 0 0 false), false)) else (idx a1 0).bind fun v14 => (command_address v14).bind fun v16 => (bif ((a1.length : Int) == 2) then (cut a1 1 ((a1.length : Int))).bind fun v19 => (command_option v19 (([115, 105, 122, 101] : Str))).bind fun v21 => (command_number v21.1).bind fun v23 => (bif v23.2 then (command_read_k1 a0 (v16.2, v21.2, ([] : Str), v16.1, v23.1, 0, false)) else (command_read_k1 a0 (v16.2, false, ([] : Str), v16.1, v23.1, 0, false))) else (command_read_k1 a0 (v16.2, true, ([] : Str), v16.1, 0, 0, false)))) else (bif (a0 == 3) then ((bif decide (1 ≤ (a1.length : Int)) then some (decide ((a1.length : Int) ≤ 2)) else some false) : Option Bool).bind fun (j27 : Bool) => (bif (!j27) then some (((TCommand.mk a0 (([] : Str)) (([] : Str)) 0 0 false), false)) else (idx a1 0).bind fun v30 => (command_address v30).bind fun v32 => (bif ((a1.length : Int) == 2) then (cut a1 1 ((a1.length : Int))).bind fun v35 => (command_option v35 (([110, 111, 116, 105, 102, 121] : Str))).bind fun v37 => (command_told v37.1 v37.2).bind fun v39 => (command_read_k1 a0 (v32.2, v39.2, ([] : Str), v32.1, 0, v39.1, false)) else (command_read_k1 a0 (v32.2, true, ([] : Str), v32.1, 0, 1, false)))) else (bif (a0 == 5) then ((bif decide (1 ≤ (a1.length : Int)) then some (decide ((a1.length : Int) ≤ 2)) else some false) : Option Bool).bind fun (j42 : Bool) => (bif (!j42) then some (((TCommand.mk a0 (([] : Str)) (([] : Str)) 0 0 false), false)) else (idx a1 0).bind fun v45 => (command_number v45).bind fun v47 => (bif (!(((a1.length : Int) == 2))) then (command_read_k1 a0 (v47.2, true, ([] : Str), ([] : Str), v47.1, 0, ((a1.length : Int) == 2))) else (idx a1 1).bind fun v50 => (basic_Lower v50).bind fun v52 => (command_read_k1 a0 (v47.2, (v52 == ([108, 97, 115, 116] : Str)), ([] : Str), ([] : Str), v47.1, 0, ((a1.length : Int) == 2))))) else (command_read_1 0 0 a1).bind fun v54 => some (((TCommand.mk a0 (([] : Str)) (([] : Str)) 0 0 false), v54))))))
noncomputable def command_Parse_l1 (v4 : List Str) (v6 : Str × Str × Str × Str × Str × Str × Str × Str) (s8 : Int × Int) : Option (Step (Int × Int) Int) :=
  (bif decide (s8.2 < 8) then ((idx ([v6.1, v6.2.1, v6.2.2.1, v6.2.2.2.1, v6.2.2.2.2.1, v6.2.2.2.2.2.1, v6.2.2.2.2.2.2.1, v6.2.2.2.2.2.2.2] : List Str) s8.2).bind fun v13 => ((bif decide (0 < (v4.length : Int)) then (idx v4 0).bind fun v17 => (basic_Lower v17).bind fun v19 => some ((v19 == v13)) else some false) : Option Bool).bind fun (j15 : Bool) => (bif j15 then some ((w64 (s8.2 + 1))) else some s8.1) : Option Int).bind fun (j12 : Int) => some (.cont (j12, (w64 (s8.2 + 1)))) else some (.out s8.1))
noncomputable def command_Parse (a0 : Str) : Option (TCommand × TFault) :=
  (bif decide (4000 < (a0.length : Int)) then (basic_Fault 1 ((-1))).bind fun v2 => some (((TCommand.mk 0 (([] : Str)) (([] : Str)) 0 0 false), v2)) else (strings_FieldsFunc_sp a0).bind fun v4 => (command_words).bind fun v6 => (iter (command_Parse_l1 v4 v6) ((0, 0))).bind fun b9 => (bif (b9 == 0) then (basic_Fault 18 ((-2))).bind fun v23 => some (((TCommand.mk 0 (([] : Str)) (([] : Str)) 0 0 false), v23)) else (cut v4 1 ((v4.length : Int))).bind fun v25 => (command_read b9 v25).bind fun v27 => (bif (!v27.2) then (basic_Fault 11 ((-3))).bind fun v30 => some (((TCommand.mk 0 (([] : Str)) (([] : Str)) 0 0 false), v30)) else (command_Validate v27.1).bind fun v32 => (basic_Failed v32).bind fun v34 => (bif v34 then some (((TCommand.mk 0 (([] : Str)) (([] : Str)) 0 0 false), v32)) else (basic_None).bind fun v37 => some ((v27.1, v37))))))
noncomputable def L_commands  : Option Bool :=
  (command_Parse (([77, 65, 73, 76, 32, 32, 60, 97, 64, 98, 62, 32, 115, 105, 122, 101, 61, 49, 48] : Str))).bind fun v1 => (command_Print ((TCommand.mk 2 (([] : Str)) (([97, 64, 98] : Str)) 10 0 false))).bind fun v3 => (command_Parse (([109, 97, 105, 108, 32, 97, 64, 98] : Str))).bind fun v5 => ((bif (v1.2.Code == 0) then (bif (v3.2.Code == 0) then (R_At 11 ((-3))).bind fun v10 => (bif (allEq [(v5.2.Code == v10.Code), (v5.2.Index == v10.Index)]) then (bif (allEq [(v1.1.Verb == 2), (v1.1.Name == ([] : Str)), (v1.1.Address == ([97, 64, 98] : Str)), (v1.1.Size == 10), (v1.1.Notify == 0), (v1.1.Last == false)]) then (bif (v3.1 == ([109, 97, 105, 108, 32, 60, 97, 64, 98, 62, 32, 115, 105, 122, 101, 61, 49, 48] : Str)) then (command_Validate ((TCommand.mk 0 (([] : Str)) (([] : Str)) 0 0 false))).bind fun v15 => (R_At 4 ((-2))).bind fun v17 => some ((allEq [(v15.Code == v17.Code), (v15.Index == v17.Index)])) else some false) else some false) else some false) else some false) else some false) : Option Bool).bind fun (j7 : Bool) => some j7
end Go.Proofs.YtgbahimpdoahbaaGreatDoor

/- Functions of the program as Lean functions: what they compute. Written by program. -/
namespace Go.Proofs.YtgbahimpdoahbaaGreatDoor
open Go.RowKit
set_option maxRecDepth 100000
set_option maxHeartbeats 40000000
set_option linter.unusedVariables false
noncomputable def R_CommandFault (a0 : TCommand) : Option TFault :=
  (R_In a0.Verb 1 8).bind fun v1 => (bif (!v1) then (R_At 4 ((-2))).bind fun v4 => some v4 else ((bif (a0.Verb != 1) then (bif (a0.Name != ([] : Str)) then some true else (bif (a0.Verb != 2) then (bif (a0.Verb != 3) then (bif (a0.Address != ([] : Str)) then some true else (bif (a0.Verb != 5) then (bif (a0.Size != 0) then some true else (bif (a0.Notify != 0) then some true else some a0.Last)) else (bif (a0.Notify != 0) then some true else some false))) else (bif (a0.Verb != 5) then (bif (a0.Size != 0) then some true else some a0.Last) else some false)) else (bif (a0.Verb != 3) then (bif (a0.Notify != 0) then some true else (bif (a0.Verb != 5) then some a0.Last else some false)) else (bif (a0.Verb != 5) then some a0.Last else some false)))) else (bif (a0.Verb != 2) then (bif (a0.Verb != 3) then (bif (a0.Address != ([] : Str)) then some true else (bif (a0.Verb != 5) then (bif (a0.Size != 0) then some true else (bif (a0.Notify != 0) then some true else some a0.Last)) else (bif (a0.Notify != 0) then some true else some false))) else (bif (a0.Verb != 5) then (bif (a0.Size != 0) then some true else some a0.Last) else some false)) else (bif (a0.Verb != 3) then (bif (a0.Notify != 0) then some true else (bif (a0.Verb != 5) then some a0.Last else some false)) else (bif (a0.Verb != 5) then some a0.Last else some false)))) : Option Bool).bind fun (j6 : Bool) => (bif j6 then (R_At 5 ((-3))).bind fun v36 => some v36 else ((bif (a0.Verb == 1) then (R_NameOk a0.Name).bind fun v40 => some ((!v40)) else some false) : Option Bool).bind fun (j38 : Bool) => (bif j38 then (R_At 10 ((-4))).bind fun v43 => some v43 else ((bif (a0.Verb == 2) then (bif (a0.Address != ([] : Str)) then (R_AddressOk a0.Address).bind fun v48 => some ((!v48)) else (bif (a0.Verb == 3) then (R_AddressOk a0.Address).bind fun v51 => some ((!v51)) else some false)) else (bif (a0.Verb == 3) then (R_AddressOk a0.Address).bind fun v54 => some ((!v54)) else some false)) : Option Bool).bind fun (j45 : Bool) => (bif j45 then (R_At 10 ((-5))).bind fun v57 => some v57 else ((bif (a0.Verb == 2) then (R_In a0.Size 0 1000000).bind fun v61 => some ((!v61)) else (bif (a0.Verb == 5) then (R_In a0.Size 0 1000000).bind fun v64 => some ((!v64)) else some false)) : Option Bool).bind fun (j59 : Bool) => (bif j59 then (R_At 3 ((-6))).bind fun v67 => some v67 else ((bif (a0.Verb == 3) then (R_In a0.Notify 0 7).bind fun v71 => some ((!v71)) else some false) : Option Bool).bind fun (j69 : Bool) => (bif j69 then (R_At 3 ((-7))).bind fun v74 => some v74 else some ((TFault.mk 0 0))))))))
def R_verb (a0 : Int) : Option Str :=
  (idx (([([104, 101, 108, 108, 111] : Str), ([109, 97, 105, 108] : Str), ([114, 99, 112, 116] : Str), ([100, 97, 116, 97] : Str), ([99, 104, 117, 110, 107] : Str), ([114, 101, 115, 101, 116] : Str), ([110, 111, 111, 112] : Str), ([113, 117, 105, 116] : Str)] : List Str)) ((w64 (a0 - 1)))).bind fun v1 => some v1
def R_Conditions (a0 : Int) : Option Str :=
  (idx (([([110, 101, 118, 101, 114] : Str), ([102, 97, 105, 108, 117, 114, 101] : Str), ([100, 101, 108, 97, 121] : Str), ([102, 97, 105, 108, 117, 114, 101, 44, 100, 101, 108, 97, 121] : Str), ([115, 117, 99, 99, 101, 115, 115] : Str), ([102, 97, 105, 108, 117, 114, 101, 44, 115, 117, 99, 99, 101, 115, 115] : Str), ([100, 101, 108, 97, 121, 44, 115, 117, 99, 99, 101, 115, 115] : Str), ([102, 97, 105, 108, 117, 114, 101, 44, 100, 101, 108, 97, 121, 44, 115, 117, 99, 99, 101, 115, 115] : Str)] : List Str)) a0).bind fun v1 => some v1
def R_Words_l1 (a0 : Str) (s1 : Str × Int × (List Str)) : Option (Step (Str × Int × (List Str)) (List Str)) :=
  (bif decide (s1.2.1 ≤ (a0.length : Int)) then (((bif decide (s1.2.1 < (a0.length : Int)) then (idx a0 s1.2.1).bind fun v8 => some (((v8.toNat : Int) != 32)) else some false) : Option Bool).bind fun (j6 : Bool) => (bif j6 then (cut a0 s1.2.1 ((w64 (s1.2.1 + 1)))).bind fun v11 => (cat s1.1 v11).bind fun v13 => some ((v13, s1.2.2)) else ((bif (s1.1 != ([] : Str)) then (app 8796093022208 s1.2.2 (([s1.1] : List Str))).bind fun v17 => some v17 else some s1.2.2) : Option (List Str)).bind fun (j15 : List Str) => some ((([] : Str), j15))) : Option (Str × (List Str))).bind fun (j5 : Str × (List Str)) => some (.cont (j5.1, (w64 (s1.2.1 + 1)), j5.2)) else some (.out s1.2.2))
noncomputable def R_Words (a0 : Str) : Option (List Str) :=
  (iter (R_Words_l1 a0) ((([] : Str), 0, ([] : List Str)))).bind fun b2 => some b2
noncomputable def R_after (a0 : Str) (a1 : Str) : Option (Str × Bool) :=
  (R_Small a0).bind fun v1 => ((bif decide ((v1.length : Int) < (a1.length : Int)) then some true else (cut v1 0 ((a1.length : Int))).bind fun v5 => some ((v5 != a1))) : Option Bool).bind fun (j3 : Bool) => (bif j3 then some ((([] : Str), false)) else (cut v1 ((a1.length : Int)) ((v1.length : Int))).bind fun v8 => some ((v8, true)))
noncomputable def R_CommandOf_l1 (v4 : List Str) (s6 : Int × Int) : Option (Step (Int × Int) Int) :=
  ((bif decide (s6.1 ≤ 8) then some (decide (0 < (v4.length : Int))) else some false) : Option Bool).bind fun (j9 : Bool) => (bif j9 then ((idx v4 0).bind fun v13 => (R_Small v13).bind fun v15 => (R_verb s6.1).bind fun v17 => (bif (v15 == v17) then some s6.1 else some s6.2) : Option Int).bind fun (j12 : Int) => some (.cont ((w64 (s6.1 + 1)), j12)) else some (.out s6.2))
noncomputable def R_CommandOf_k3 (b7 : Int) (j34 : Str × Str × Int) (j37 : Int × Int × Bool) : Option (TCommand × TFault) :=
  (R_CommandFault ((TCommand.mk b7 j34.1 j34.2.1 j37.1 j37.2.1 j37.2.2))).bind fun v38 => (bif (v38.Code != 0) then some (((TCommand.mk 0 (([] : Str)) (([] : Str)) 0 0 false), v38)) else some (((TCommand.mk b7 j34.1 j34.2.1 j37.1 j37.2.1 j37.2.2), v38)))
def R_CommandOf_l4 (v54 : Str × Bool) (s56 : Bool × Int × Int) : Option (Step (Bool × Int × Int) (Bool × Int)) :=
  ((bif decide (s56.2.1 < 8) then some v54.2 else some false) : Option Bool).bind fun (j59 : Bool) => (bif j59 then ((R_Conditions s56.2.1).bind fun v63 => (bif (v63 == v54.1) then some ((true, s56.2.1)) else some ((s56.1, s56.2.2))) : Option (Bool × Int)).bind fun (j62 : Bool × Int) => some (.cont (j62.1, (w64 (s56.2.1 + 1)), j62.2)) else some (.out ((s56.1, s56.2.2))))
noncomputable def R_CommandOf_k2 (b7 : Int) (v23 : TFault) (v25 : List Str) (j34 : Str × Str × Int) : Option (TCommand × TFault) :=
  ((bif (b7 == 3) then some 1 else some 0) : Option Int).bind fun (j35 : Int) => (bif ((v25.length : Int) == 2) then ((bif (b7 == 2) then (idx v25 1).bind fun v44 => (R_after v44 (([115, 105, 122, 101, 61] : Str))).bind fun v46 => (R_Amount v46.1).bind fun v48 => (bif v46.2 then some ((decide (0 ≤ v48), v48, j35, false)) else some ((false, v48, j35, false))) else (bif (b7 == 3) then (idx v25 1).bind fun v52 => (R_after v52 (([110, 111, 116, 105, 102, 121, 61] : Str))).bind fun v54 => (iter (R_CommandOf_l4 v54) ((false, 0, j35))).bind fun b57 => some ((b57.1, j34.2.2, b57.2, false)) else (bif (b7 == 5) then (idx v25 1).bind fun v67 => (R_Small v67).bind fun v69 => some (((v69 == ([108, 97, 115, 116] : Str)), j34.2.2, j35, true)) else some ((false, j34.2.2, j35, false))))) : Option (Bool × Int × Int × Bool)).bind fun (j42 : Bool × Int × Int × Bool) => (bif (!j42.1) then some (((TCommand.mk 0 (([] : Str)) (([] : Str)) 0 0 false), v23)) else (R_CommandOf_k3 b7 j34 (j42.2.1, j42.2.2.1, j42.2.2.2))) else (R_CommandOf_k3 b7 j34 (j34.2.2, j35, false)))
noncomputable def R_CommandOf (a0 : Str) : Option (TCommand × TFault) :=
  (bif decide (4000 < (a0.length : Int)) then (R_At 1 ((-1))).bind fun v2 => some (((TCommand.mk 0 (([] : Str)) (([] : Str)) 0 0 false), v2)) else (R_Words a0).bind fun v4 => (iter (R_CommandOf_l1 v4) ((1, 0))).bind fun b7 => (bif (b7 == 0) then (R_At 18 ((-2))).bind fun v21 => some (((TCommand.mk 0 (([] : Str)) (([] : Str)) 0 0 false), v21)) else (R_At 11 ((-3))).bind fun v23 => (cut v4 1 ((v4.length : Int))).bind fun v25 => (idx (([1, 1, 1, 0, 1, 0, 0, 0] : List Int)) ((w64 (b7 - 1)))).bind fun v27 => (idx (([1, 2, 2, 0, 2, 0, 0, 0] : List Int)) ((w64 (b7 - 1)))).bind fun v29 => (R_In ((v25.length : Int)) v27 v29).bind fun v31 => (bif (!v31) then some (((TCommand.mk 0 (([] : Str)) (([] : Str)) 0 0 false), v23)) else (bif (b7 == 1) then (idx v25 0).bind fun v73 => (R_CommandOf_k2 b7 v23 v25 (v73, ([] : Str), 0)) else ((bif (b7 == 2) then some true else some ((b7 == 3))) : Option Bool).bind fun (j75 : Bool) => (bif j75 then (idx v25 0).bind fun v78 => ((bif decide ((v78.length : Int) < 2) then some true else (idx v25 0).bind fun v82 => (idx v82 0).bind fun v84 => (bif ((v84.toNat : Int) != 60) then some true else (idx v25 0).bind fun v87 => (idx v87 ((w64 ((v78.length : Int) - 1)))).bind fun v89 => some (((v89.toNat : Int) != 62)))) : Option Bool).bind fun (j80 : Bool) => (bif j80 then some (((TCommand.mk 0 (([] : Str)) (([] : Str)) 0 0 false), v23)) else (idx v25 0).bind fun v92 => (cut v92 1 ((w64 ((v78.length : Int) - 1)))).bind fun v94 => (R_CommandOf_k2 b7 v23 v25 (([] : Str), v94, 0))) else (bif (b7 == 5) then (idx v25 0).bind fun v97 => (R_Amount v97).bind fun v99 => (bif decide (v99 < 0) then some (((TCommand.mk 0 (([] : Str)) (([] : Str)) 0 0 false), v23)) else (R_CommandOf_k2 b7 v23 v25 (([] : Str), ([] : Str), v99))) else (R_CommandOf_k2 b7 v23 v25 (([] : Str), ([] : Str), 0))))))))
noncomputable def L_CommandParseMatchesSpec (a0 : Str) : Option Bool :=
  (command_Parse a0).bind fun v1 => (R_CommandOf a0).bind fun v3 => ((L_commands).bind fun v6 => (bif v6 then (bif (allEq [(v1.1.Verb == v3.1.Verb), (v1.1.Name == v3.1.Name), (v1.1.Address == v3.1.Address), (v1.1.Size == v3.1.Size), (v1.1.Notify == v3.1.Notify), (v1.1.Last == v3.1.Last)]) then some ((allEq [(v1.2.Code == v3.2.Code), (v1.2.Index == v3.2.Index)])) else some false) else some false) : Option Bool).bind fun (j5 : Bool) => some j5
end Go.Proofs.YtgbahimpdoahbaaGreatDoor

/- Plain lemmas on the operations of typed functions: no program is named. -/
namespace Go.Proofs.YtgbahimpdoahbaaGreatDoor
open Go.RowKit

theorem w64_ns (a b : Nat) (h : b ≤ a) (ha : a ≤ 9223372036854775807) : w64 ((a : Int) - (b : Int)) = ((a - b : Nat) : Int) := by
  rw [w64_id (by omega) (by omega)]; omega
theorem w64_n (a : Nat) (h : a ≤ 9223372036854775807) : w64 (a : Int) = (a : Int) := w64_id (by omega) (by omega)

theorem u8_eq (c : UInt8) (k : Nat) (hk : OfNat.ofNat k < 256) : ((c.toNat : Int) == no_index (OfNat.ofNat k : Int)) = (c == OfNat.ofNat k) := by
  have e : (OfNat.ofNat k : Int) = ((OfNat.ofNat k : Nat) : Int) := rfl
  have h2 : (OfNat.ofNat k : UInt8).toNat = (OfNat.ofNat k : Nat) := by
    show (UInt8.ofNat k).toNat = k
    rw [UInt8.toNat_ofNat']; exact Nat.mod_eq_of_lt hk
  rw [Bool.eq_iff_iff, beq_iff_eq, beq_iff_eq, ← UInt8.toNat_inj, h2, e]
  omega
theorem u8_ne (c : UInt8) (k : Nat) (hk : OfNat.ofNat k < 256) : ((c.toNat : Int) != no_index (OfNat.ofNat k : Int)) = (c != OfNat.ofNat k) := by
  unfold bne; rw [u8_eq c k hk]
section
variable {α : Type}
theorem idx_nat (l : List α) (i : Nat) : idx l (i : Int) = l[i]? := by unfold idx; rw [if_pos (by omega)]; simp
theorem idx_lt {l : List α} {i : Nat} (h : i < l.length) : idx l (i : Int) = some l[i] := by rw [idx_nat]; exact List.getElem?_eq_getElem h
theorem idx_app (p : List α) (x : α) (r : List α) : idx (p ++ x :: r) (p.length : Int) = some x := by rw [idx_nat]; simp
theorem cut_nn {l : List α} {a b : Nat} (h1 : a ≤ b) (h2 : b ≤ l.length) : cut l (a : Int) (b : Int) = some ((l.drop a).take (b - a)) := by
  unfold cut; rw [if_pos (by omega)]; simp
theorem cut_nl {l : List α} {a : Nat} (h1 : a ≤ l.length) : cut l (a : Int) (l.length : Int) = some (l.drop a) := by
  rw [cut_nn h1 (Nat.le_refl _)]; rw [List.take_of_length_le (by simp)]
theorem cut_0n {l : List α} {b : Nat} (h2 : b ≤ l.length) : cut l 0 (b : Int) = some (l.take b) := by
  have := cut_nn (l := l) (a := 0) (b := b) (by omega) h2
  simpa using this
theorem app_ok {lim : Nat} {l xs : List α} (h : l.length + xs.length ≤ lim) : app lim l xs = some (l ++ xs) := by unfold app; rw [if_pos h]
theorem cat_ok {a b : Str} (h : a.length + b.length ≤ 9223372036854775807) : cat a b = some (a ++ b) := by unfold cat; rw [if_pos h]
end

section
variable {A R : Type} {body : A → Option (Step A R)}
/-- a loop that goes through a list, with an accumulator -/
theorem iter_list {α S : Type} (l : List α) (enc : Nat → S → A) (spec : Nat → List α → S → R)
    (h0 : ∀ s, body (enc l.length s) = some (.out (spec l.length [] s)))
    (h1 : ∀ p x r s, l = p ++ x :: r → (body (enc p.length s) = some (.out (spec p.length (x :: r) s))) ∨ ∃ s', body (enc p.length s) = some (.cont (enc (p.length + 1) s')) ∧ spec p.length (x :: r) s = spec (p.length + 1) r s') :
    ∀ {s0 : A} (s : S) (_ : s0 = enc 0 s), iter body s0 = some (spec 0 l s) := by
  have key : ∀ r p s, l = p ++ r → iter body (enc p.length s) = some (spec p.length r s) := by
    intro r
    induction r with
    | nil =>
      intro p s h
      have : p = l := by simp [h]
      subst this
      exact iter_out (h0 s)
    | cons x r ih =>
      intro p s h
      rcases h1 p x r s h with hb | ⟨s', hb, hs⟩
      · exact iter_out hb
      · rw [iter_cont hb, hs]
        have := ih (p ++ [x]) s' (by simp [h])
        simpa using this
  rintro _ s rfl
  exact key l [] s rfl
end
end Go.Proofs.YtgbahimpdoahbaaGreatDoor

/- Plain lemmas on loops of typed functions: first hits, folds. No program is named. -/
namespace Go.Proofs.YtgbahimpdoahbaaGreatDoor
open Go.RowKit
section
variable {α R O A S : Type}
/-- the first hit, with its number -/
def firstI (q : Nat → α → Option R) : Nat → List α → Option R
  | _, [] => none
  | i, x :: r => match q i x with | some y => some y | none => firstI q (i + 1) r
theorem iter_first (l : List α) (q : Nat → α → Option R) (oN : O) (oS : R → O) {body : Int → Option (Step Int O)} (hl : body (l.length : Int) = some (.out oN))
    (hs : ∀ (i : Nat) x, l[i]? = some x → body (i : Int) = some ((q i x).elim (.cont ((i + 1 : Nat) : Int)) fun r => .out (oS r))) :
    iter body 0 = some ((firstI q 0 l).elim oN oS) := by
  have key : ∀ r p, l = p ++ r → iter body (p.length : Int) = some ((firstI q p.length r).elim oN oS) := by
    intro r
    induction r with
    | nil => intro p h; have : p = l := by simp [h]
             subst this; exact iter_out hl
    | cons x r ih =>
      intro p h
      have hx := hs p.length x (by simp [h])
      unfold firstI
      cases hq : q p.length x with
      | some y => rw [hq] at hx; exact iter_out hx
      | none =>
        rw [hq] at hx
        rw [iter_cont hx]
        have := ih (p ++ [x]) (by simp [h])
        simpa using this
  exact key l [] rfl
/-- a loop with a counter and a state that goes on to its end -/
theorem iter_foldI (l : List α) (enc : Int → S → A) (f : Nat → S → α → S) (out : S → O) (Inv : Nat → S → Prop) {body : A → Option (Step A O)}
    (hl : ∀ s, Inv l.length s → body (enc l.length s) = some (.out (out s)))
    (hs : ∀ (i : Nat) x s, l[i]? = some x → Inv i s → body (enc i s) = some (.cont (enc ((i + 1 : Nat) : Int) (f i s x))) ∧ Inv (i + 1) (f i s x)) (s : S) (h0 : Inv 0 s) :
    ∃ t, iter body (enc 0 s) = some (out t) ∧ Inv l.length t ∧ t = (l.zipIdx.foldl (fun s p => f p.2 s p.1) s) := by
  have key : ∀ r p s, l = p ++ r → Inv p.length s → ∃ t, iter body (enc (p.length : Int) s) = some (out t) ∧ Inv l.length t ∧ t = ((r.zipIdx p.length).foldl (fun s p => f p.2 s p.1) s) := by
    intro r
    induction r with
    | nil => intro p s h hi; have : p = l := by simp [h]
             subst this; exact ⟨s, iter_out (hl s hi), hi, rfl⟩
    | cons x r ih =>
      intro p s h hi
      obtain ⟨h1, h2⟩ := hs p.length x s (by simp [h]) hi
      rw [iter_cont h1]
      obtain ⟨t, h3, h4, h5⟩ := ih (p ++ [x]) (f p.length s x) (by simp [h]) (by simpa using h2)
      refine ⟨t, by simpa using h3, h4, ?_⟩
      rw [h5]; simp
  exact key l [] s rfl h0
theorem foldl_zipIdx (f : S → α → S) (l : List α) : ∀ (n : Nat) (s : S), (l.zipIdx n).foldl (fun s p => f s p.1) s = l.foldl f s := by
  induction l with
  | nil => intro n s; rfl
  | cons x r ih => intro n s; simp [ih]
/-- the same, where the number does not matter -/
theorem iter_fold (l : List α) (enc : Int → S → A) (f : S → α → S) (out : S → O) (Inv : Nat → S → Prop) {body : A → Option (Step A O)}
    (hl : ∀ s, Inv l.length s → body (enc l.length s) = some (.out (out s)))
    (hs : ∀ (i : Nat) x s, l[i]? = some x → Inv i s → body (enc i s) = some (.cont (enc ((i + 1 : Nat) : Int) (f s x))) ∧ Inv (i + 1) (f s x)) (s : S) (h0 : Inv 0 s) :
    iter body (enc 0 s) = some (out (l.foldl f s)) ∧ Inv l.length (l.foldl f s) := by
  obtain ⟨t, h1, h2, h3⟩ := iter_foldI l enc (fun _ => f) out Inv hl hs s h0
  have : t = l.foldl f s := by rw [h3]; exact foldl_zipIdx f l 0 s
  subst this
  exact ⟨h1, h2⟩
theorem firstI_any (c : α → Bool) (r : R) (l : List α) (n : Nat) : firstI (fun _ x => if c x then some r else none) n l = if l.any c then some r else none := by
  induction l generalizing n with
  | nil => rfl
  | cons x l ih => unfold firstI; cases h : c x <;> simp [h, ih]
theorem firstI_none {q : Nat → α → Option R} {l : List α} {n : Nat} : firstI q n l = none ↔ ∀ (i : Nat) x, l[i]? = some x → q (n + i) x = none := by
  induction l generalizing n with
  | nil => simp [firstI]
  | cons x l ih =>
    unfold firstI
    cases h : q n x with
    | some y =>
      simp only [reduceCtorEq, false_iff]
      intro hh
      have := hh 0 x rfl
      rw [Nat.add_zero, h] at this; cases this
    | none =>
      rw [ih]
      constructor
      · intro hh i y hy
        cases i with
        | zero => simp at hy; subst hy; exact h
        | succ i => rw [show n + (i + 1) = n + 1 + i by omega]; exact hh i y (by simpa using hy)
      · intro hh i y hy
        rw [show n + 1 + i = n + (i + 1) by omega]; exact hh (i + 1) y (by simpa using hy)
theorem lt_get {l : List α} {i : Nat} {x : α} (h : l[i]? = some x) : i < l.length := (List.getElem?_eq_some_iff.1 h).1
theorem dec_lt {l : List α} {i : Nat} {x : α} (h : l[i]? = some x) : decide ((i : Int) < (l.length : Int)) = true := by have := lt_get h; simp; omega
theorem dec_len (l : List α) : decide ((l.length : Int) < (l.length : Int)) = false := by simp
theorem idx_get {l : List α} {i : Nat} {x : α} (h : l[i]? = some x) : idx l (i : Int) = some x := by rw [idx_nat]; exact h
end
end Go.Proofs.YtgbahimpdoahbaaGreatDoor

/- Plain lemmas: bulk, counters, copying down in a list. No program is named. -/
namespace Go.Proofs.YtgbahimpdoahbaaGreatDoor
open Go.RowKit
theorem sc (i : Nat) (h : i < 9223372036854775807) : w64 ((i : Int) + 1) = ((i + 1 : Nat) : Int) := by rw [show ((i : Int) + 1) = ((i + 1 : Nat) : Int) by omega, w64_n _ (by omega)]

section
variable {α : Type}
end
theorem mget_mputG {V : Type} (m : List (Str × V)) (k : Str) (v : V) (x : Str) : mget (mput m k v) x = if k == x then some v else mget m x := by
  induction m with
  | nil => rfl
  | cons p m ih =>
    obtain ⟨k', v'⟩ := p
    unfold mput
    by_cases h : k' = k
    · subst h
      simp only [beq_self_eq_true, if_true, mget]
      cases k' == x <;> simp
    · have h1 : (k' == k) = false := by simpa using h
      rw [h1]
      simp only [Bool.false_eq_true, if_false, mget]
      rw [ih]
      by_cases h2 : k' = x
      · subst h2
        have : (k == k') = false := by simpa using fun h' => h h'.symm
        simp [this]
      · have : (k' == x) = false := by simpa using h2
        rw [this]; simp

section
variable {α A S O : Type}
end
end Go.Proofs.YtgbahimpdoahbaaGreatDoor

/- Numerals: strconv.Itoa, the reference's Digits and Fill, dates.pad. -/
namespace Go.Proofs.YtgbahimpdoahbaaGreatDoor
open Go.RowKit
set_option linter.unusedVariables false
set_option maxHeartbeats 1000000
theorem decD_small {u : Nat} (h : u < 10) : Lib.decDigits u = [UInt8.ofNat (48 + u)] := by rw [Lib.decDigits, dif_pos h]
theorem decD_big {u : Nat} (h : ¬ u < 10) : Lib.decDigits u = Lib.decDigits (u / 10) ++ Lib.decDigits (u % 10) := by
  rw [Lib.decDigits, dif_neg h, decD_small (show u % 10 < 10 by omega)]
theorem decD_len : ∀ (k u : Nat), u < 10 ^ (k + 1) → (Lib.decDigits u).length ≤ k + 1
  | 0, u, h => by rw [decD_small (by simpa using h)]; simp
  | k + 1, u, h => by
    by_cases h10 : u < 10
    · rw [decD_small h10]; simp
    · have := decD_len k (u / 10) (by rw [Nat.pow_succ] at h; omega)
      rw [decD_big h10, decD_small (show u % 10 < 10 by omega)]
      simp; omega
theorem decD_pos (u : Nat) : 1 ≤ (Lib.decDigits u).length := by
  by_cases h10 : u < 10
  · rw [decD_small h10]; simp
  · rw [decD_big h10, decD_small (show u % 10 < 10 by omega)]; simp
theorem strconv_Itoa_eq (u : Nat) (h : u ≤ 9223372036854775807) : strconv_Itoa (u : Int) = some (Lib.decDigits u) := by
  unfold strconv_Itoa
  rw [if_pos (by omega), Lib.itoa_nonneg]
end Go.Proofs.YtgbahimpdoahbaaGreatDoor

/- Domains and addresses: the plain functions, and what the typed functions compute. -/
namespace Go.Proofs.YtgbahimpdoahbaaGreatDoor
open Go.RowKit
set_option linter.unusedVariables false
set_option maxHeartbeats 1000000

def lettC (c : UInt8) : Bool := (decide (97 ≤ c) && decide (c ≤ 122)) || (decide (65 ≤ c) && decide (c ≤ 90)) || (decide (48 ≤ c) && decide (c ≤ 57))
def smallC (c : UInt8) : Bool := (decide (97 ≤ c) && decide (c ≤ 122)) || (decide (48 ≤ c) && decide (c ≤ 57)) || c == 45 || c == 46
def goodC (c : UInt8) : Bool := lettC c || c == 45 || c == 95 || c == 46 || c == 43 || c == 61
/-- no dot at the front or behind a dot (p: there is one, or the front), none at the end -/
def dotsOk : Bool → Str → Bool
  | p, [] => !p
  | p, c :: r => if c = 46 then !p && dotsOk true r else dotsOk false r
def domP (s : Str) : Bool := decide (s.length ≤ 60) && s.all smallC && dotsOk true s
def atP (s : Str) : Nat := s.findIdx (· == 64)
def addrP (s : Str) : Bool := decide (atP s < s.length) && decide (1 ≤ atP s) && decide (atP s ≤ 60) && (s.take (atP s)).all goodC && domP (s.drop (atP s + 1))

theorem u8_le1 (k : Nat) (c : UInt8) (hk : OfNat.ofNat k < 256) : decide ((no_index (OfNat.ofNat k : Int)) ≤ (c.toNat : Int)) = decide ((OfNat.ofNat k : UInt8) ≤ c) := by
  have e : (OfNat.ofNat k : Int) = ((OfNat.ofNat k : Nat) : Int) := rfl
  have h2 : (OfNat.ofNat k : UInt8).toNat = (OfNat.ofNat k : Nat) := by
    show (UInt8.ofNat k).toNat = k
    rw [UInt8.toNat_ofNat']; exact Nat.mod_eq_of_lt hk
  rw [Bool.eq_iff_iff, decide_eq_true_eq, decide_eq_true_eq, UInt8.le_iff_toNat_le, h2, e]; omega
theorem u8_le2 (k : Nat) (c : UInt8) (hk : OfNat.ofNat k < 256) : decide ((c.toNat : Int) ≤ (no_index (OfNat.ofNat k : Int))) = decide (c ≤ (OfNat.ofNat k : UInt8)) := by
  have e : (OfNat.ofNat k : Int) = ((OfNat.ofNat k : Nat) : Int) := rfl
  have h2 : (OfNat.ofNat k : UInt8).toNat = (OfNat.ofNat k : Nat) := by
    show (UInt8.ofNat k).toNat = k
    rw [UInt8.toNat_ofNat']; exact Nat.mod_eq_of_lt hk
  rw [Bool.eq_iff_iff, decide_eq_true_eq, decide_eq_true_eq, UInt8.le_iff_toNat_le, h2, e]; omega

theorem R_In_eq (a b c : Int) : R_In a b c = some (decide (b ≤ a) && decide (a ≤ c)) := by
  unfold R_In; cases decide (b ≤ a) <;> rfl
theorem R_letterOrDigit_eq (c : UInt8) : R_letterOrDigit c = some (lettC c) := by
  unfold R_letterOrDigit lettC
  simp only [R_In_eq, Option.bind_some, u8_le1 97 c (by decide), u8_le2 122 c (by decide), u8_le1 65 c (by decide), u8_le2 90 c (by decide), u8_le1 48 c (by decide), u8_le2 57 c (by decide)]
  generalize (decide ((97 : UInt8) ≤ c) && decide (c ≤ 122)) = x
  generalize (decide ((65 : UInt8) ≤ c) && decide (c ≤ 90)) = y
  cases x <;> cases y <;> simp
theorem basic_Letter_eq (c : UInt8) : basic_Letter c = some (lettC c) := by
  unfold basic_Letter lettC
  simp only [u8_le1 97 c (by decide), u8_le2 122 c (by decide), u8_le1 65 c (by decide), u8_le2 90 c (by decide), u8_le1 48 c (by decide), u8_le2 57 c (by decide)]
  cases decide ((97 : UInt8) ≤ c) <;> cases decide (c ≤ 122) <;> cases decide ((65 : UInt8) ≤ c) <;> cases decide (c ≤ 90) <;> cases decide ((48 : UInt8) ≤ c) <;> cases decide (c ≤ 57) <;> rfl


/-! ### the reference's domains -/
/-- is there a dot, or the front, before place i? -/
def prevDot (s : Str) (i : Nat) : Bool := if i = 0 then true else s[i - 1]? == some 46
def domLoop : Bool → Str → Bool
  | _, [] => true
  | p, c :: r => if c = 46 then !p && !r.isEmpty && domLoop true r else smallC c && domLoop false r
theorem domLoop_cons (p : Bool) (c : UInt8) (r : Str) : domLoop p (c :: r) = if c = 46 then !p && !r.isEmpty && domLoop true r else smallC c && domLoop false r := rfl
theorem domLoop_eq (s : Str) (p : Bool) (h : s ≠ [] ∨ p = false) : domLoop p s = (s.all smallC && dotsOk p s) := by
  induction s generalizing p with
  | nil => simp [domLoop, dotsOk]; rcases h with h | h <;> simp_all
  | cons c r ih =>
    unfold domLoop dotsOk
    by_cases hc : c = 46
    · subst hc
      simp only [if_true, List.all_cons, show smallC 46 = true by decide, Bool.true_and]
      cases r with
      | nil => simp [dotsOk]
      | cons d r =>
        rw [ih true (.inl (by simp))]
        cases p <;> simp
    · rw [if_neg hc, if_neg hc]
      rw [ih false (.inr rfl), List.all_cons, Bool.and_assoc]
theorem R_DomainOk_loop (s : Str) (hs : s.length ≤ 9223372036854775806) : iter (R_DomainOk_l1 s) 0 = some (if domLoop true s then .inl () else .inr false) := by
  have := iter_list (body := R_DomainOk_l1 s) s (fun i (_ : Unit) => (i : Int)) (fun i r _ => if domLoop (prevDot s i) r then .inl () else .inr false) (fun _ => by
      unfold R_DomainOk_l1
      rw [dec_len]; simp [domLoop]) (fun p c r _ h => ?_) (s0 := 0) () rfl
  · simpa [prevDot] using this
  · have hc : s[p.length]? = some c := by simp [h]
    have hidx := idx_get hc
    have hlen : s.length = p.length + r.length + 1 := by rw [h]; simp; omega
    have e1 : w64 ((s.length : Int) - 1) = ((s.length - 1 : Nat) : Int) := by rw [w64_id (by omega) (by omega)]; omega
    have e2 : w64 ((p.length : Int) + 1) = ((p.length + 1 : Nat) : Int) := by rw [show ((p.length : Int) + 1) = ((p.length + 1 : Nat) : Int) by omega, w64_n _ (by omega)]
    have hbody : R_DomainOk_l1 s (p.length : Int) = some (if c = 46 then (if prevDot s p.length || r.isEmpty then .out (.inr false) else .cont ((p.length + 1 : Nat) : Int)) else if smallC c then .cont ((p.length + 1 : Nat) : Int) else .out (.inr false)) := by
      unfold R_DomainOk_l1
      rw [dec_lt hc, hidx]
      simp only [cond_true, Option.bind_some, R_In_eq, u8_eq c 46 (by decide), u8_ne c 45 (by decide), u8_ne c 46 (by decide), u8_le1 97 c (by decide), u8_le2 122 c (by decide), u8_le1 48 c (by decide), u8_le2 57 c (by decide), e1, e2]
      by_cases h46 : c = 46
      · subst h46
        have hsm : (!(decide ((97 : UInt8) ≤ 46) && decide ((46 : UInt8) ≤ 122))) = true := by decide
        have hsm2 : (!(decide ((48 : UInt8) ≤ 46) && decide ((46 : UInt8) ≤ 57))) = true := by decide
        simp only [beq_self_eq_true, cond_true, hsm, hsm2, if_true, bne_self_eq_false]
        by_cases h0 : p.length = 0
        · simp [h0, prevDot]
        · have h0' : ((p.length : Int) == 0) = false := by rw [beq_eq_false_iff_ne]; omega
          by_cases hl : r = []
          · subst hl
            have : ((p.length : Int) == ((s.length - 1 : Nat) : Int)) = true := by rw [hlen]; simp
            simp [h0', this]
          · have hr : r.isEmpty = false := by simpa using hl
            have hrl : 0 < r.length := List.length_pos_iff.2 hl
            have : ((p.length : Int) == ((s.length - 1 : Nat) : Int)) = false := by rw [hlen]; simp; omega
            have e3 : w64 ((p.length : Int) - 1) = ((p.length - 1 : Nat) : Int) := by rw [w64_id (by omega) (by omega)]; omega
            have hlt : p.length - 1 < s.length := by omega
            simp only [h0', this, cond_false, e3, idx_lt hlt, Option.bind_some, hr, Bool.or_false, prevDot, if_neg h0, List.getElem?_eq_getElem hlt]
            rw [u8_eq _ 46 (by decide)]
            by_cases hd : s[p.length - 1] = 46
            · simp [hd]
            · have : (s[p.length - 1] == 46) = false := by simpa using hd
              simp [this, hd]
      · have h1 : (c == 46) = false := by simpa using h46
        have h2 : (c != 46) = true := by simpa using h46
        simp only [h1, cond_false, if_neg h46, Option.bind_some, smallC, h2]
        by_cases ha : (decide ((97 : UInt8) ≤ c) && decide (c ≤ 122)) = true
        · simp [ha]
        · have ha : (decide ((97 : UInt8) ≤ c) && decide (c ≤ 122)) = false := by simpa using ha
          by_cases hb : (decide ((48 : UInt8) ≤ c) && decide (c ≤ 57)) = true
          · simp [ha, hb]
          · have hb : (decide ((48 : UInt8) ≤ c) && decide (c ≤ 57)) = false := by simpa using hb
            by_cases h45 : c = 45
            · subst h45; simp [ha, hb]
            · have : (c == 45) = false := by simpa using h45
              simp [ha, hb, this, bne]
    have hp1 : prevDot s (p.length + 1) = decide (c = 46) := by
      unfold prevDot
      simp only [Nat.add_sub_cancel, Nat.add_one_ne_zero, if_false, hc]
      rw [Bool.eq_iff_iff]; simp
    rw [hbody]
    rw [domLoop_cons]
    by_cases h46 : c = 46
    · subst h46
      simp only [if_true]
      cases hq : (prevDot s p.length || r.isEmpty) with
      | true =>
        left
        simp only [if_true]
        have : (!prevDot s p.length && !r.isEmpty && domLoop true r) = false := by
          cases hp : prevDot s p.length <;> simp_all
        rw [this]; rfl
      | false =>
        right
        refine ⟨(), rfl, ?_⟩
        have h3 : prevDot s p.length = false := by cases hp : prevDot s p.length <;> simp_all
        have h4 : r.isEmpty = false := by cases hp : r.isEmpty <;> simp_all
        rw [h3, h4, hp1]; simp
    · simp only [if_neg h46]
      cases hq : smallC c with
      | true => right; exact ⟨(), rfl, by rw [hp1]; simp [h46]⟩
      | false => left; simp
theorem R_DomainOk_eq (s : Str) (hs : s.length ≤ 9223372036854775806) : R_DomainOk s = some (domP s) := by
  unfold R_DomainOk
  rw [R_DomainOk_loop s hs]
  by_cases hn : s = []
  · subst hn; simp [domLoop, R_In_eq, domP, dotsOk]
  · rw [domLoop_eq s true (.inl hn)]
    have hpos : 0 < s.length := List.length_pos_iff.2 hn
    unfold domP
    cases h : (s.all smallC && dotsOk true s) with
    | false =>
      rw [Bool.and_assoc, h]; simp
    | true =>
      rw [Bool.and_assoc, h]
      simp only [if_true, Option.bind_some, R_In_eq, Bool.and_true, Sum.elim_inl, Option.some.injEq]
      rw [Bool.eq_iff_iff]; simp; omega
/-! ### the reference's addresses -/
theorem R_sign_eq (s : Str) (hs : s.length ≤ 9223372036854775806) : R_sign s = some ((atP s : Nat) : Int) := by
  unfold R_sign
  rw [iter_first s (fun i c => if c == 64 then some (i : Int) else none) (.inl ()) .inr]
  · simp only [Option.bind_some]
    have key : ∀ (r : Str) (n : Nat), (firstI (fun i (c : UInt8) => if c == 64 then some (i : Int) else none) n r).getD ((n + r.length : Nat) : Int) = ((n + r.findIdx (· == 64) : Nat) : Int) := by
      intro r
      induction r with
      | nil => intro n; simp [firstI]
      | cons c r ih =>
        intro n
        unfold firstI
        rw [List.findIdx_cons]
        cases hc : (c == 64) with
        | true => simp
        | false =>
          simp only [Bool.false_eq_true, if_false, cond_false]
          have := ih (n + 1)
          rw [show n + (c :: r).length = n + 1 + r.length by simp; omega, show n + (r.findIdx (· == 64) + 1) = n + 1 + r.findIdx (· == 64) by omega]
          exact this
    have := key s 0
    rw [Nat.zero_add, Nat.zero_add] at this
    unfold atP
    rw [← this]
    cases firstI (fun i (c : UInt8) => if c == 64 then some (i : Int) else none) 0 s <;> rfl
  · unfold R_sign_l1; rw [dec_len]; rfl
  · intro i c hc
    unfold R_sign_l1
    have hi := lt_get hc
    rw [dec_lt hc, idx_get hc]
    simp only [cond_true, Option.bind_some, u8_eq c 64 (by decide)]
    cases c == 64 with
    | true => rfl
    | false =>
      simp only [cond_false, Bool.false_eq_true, if_false]
      rw [show ((i : Int) + 1) = ((i + 1 : Nat) : Int) by omega, w64_n _ (by omega)]; rfl
theorem R_AddressOk_eq (s : Str) (hs : s.length ≤ 9223372036854775806) : R_AddressOk s = some (addrP s) := by
  have hat : atP s ≤ s.length := List.findIdx_le_length
  unfold R_AddressOk
  rw [R_sign_eq s hs]
  simp only [Option.bind_some]
  have hloop : iter (R_AddressOk_l1 s (atP s : Int)) 0 = some ((firstI (fun _ c => if !goodC c then some false else none) 0 (s.take (atP s))).elim (.inl ()) .inr) := by
    refine iter_first (s.take (atP s)) _ (Sum.inl ()) Sum.inr ?_ ?_
    · have : ((s.take (atP s)).length : Int) = (atP s : Int) := by simp; omega
      unfold R_AddressOk_l1; rw [this]; simp
    · intro i c hc
      have hi := lt_get hc
      simp at hi
      have hc2 : s[i]? = some c := by rw [List.getElem?_take_of_lt (by omega)] at hc; exact hc
      unfold R_AddressOk_l1
      have : decide ((i : Int) < (atP s : Int)) = true := by simp; omega
      rw [this, idx_get hc2]
      simp only [cond_true, Option.bind_some, R_letterOrDigit_eq, u8_ne c 45 (by decide), u8_ne c 95 (by decide), u8_ne c 46 (by decide), u8_ne c 43 (by decide), u8_ne c 61 (by decide)]
      rw [show ((i : Int) + 1) = ((i + 1 : Nat) : Int) by omega, w64_n _ (by omega)]
      unfold goodC
      cases lettC c <;> cases h1 : (c == 45) <;> cases h2 : (c == 95) <;> cases h3 : (c == 46) <;> cases h4 : (c == 43) <;> cases h5 : (c == 61) <;> simp [bne, h1, h2, h3, h4, h5]
  rw [hloop, firstI_any]
  unfold addrP
  have hall : (s.take (atP s)).any (fun c => !goodC c) = !((s.take (atP s)).all goodC) := by simp [List.not_all_eq_any_not]
  rw [hall]
  cases hg : (s.take (atP s)).all goodC with
  | false => simp
  | true =>
    simp only [Bool.not_true, Bool.false_eq_true, if_false, Option.bind_some, R_In_eq, Bool.and_true]
    by_cases h1 : 1 ≤ atP s ∧ atP s ≤ 60
    · have e1 : (decide ((1 : Int) ≤ (atP s : Int)) && decide ((atP s : Int) ≤ 60)) = true := by simp; omega
      rw [e1]
      by_cases h2 : atP s < s.length
      · have e2 : decide ((atP s : Int) < (s.length : Int)) = true := by simp; omega
        rw [e2]
        simp only [cond_true]
        rw [show ((atP s : Int) + 1) = ((atP s + 1 : Nat) : Int) by omega, w64_n _ (by omega), cut_nl (by omega)]
        simp only [Option.bind_some]
        rw [R_DomainOk_eq _ (by simp; omega)]
        simp [h1, h2]
      · have e2 : decide ((atP s : Int) < (s.length : Int)) = false := by simp; omega
        rw [e2]; simp [h2]
    · have e1 : (decide ((1 : Int) ≤ (atP s : Int)) && decide ((atP s : Int) ≤ 60)) = false := by
        rw [Bool.eq_false_iff]; simp; omega
      rw [e1]
      simp only [cond_false, Option.bind_some]
      congr 1
      symm
      rcases Nat.lt_or_ge (atP s) 1 with h | h
      · have : decide (1 ≤ atP s) = false := by simp; omega
        rw [this]; simp
      · have : decide (atP s ≤ 60) = false := by simp; omega
        rw [this]; simp

/-! ### the program's domains and addresses -/
theorem dots_contains (s : Str) : ∀ p, dotsOk p s = (!(p && (s.isEmpty || s.head? == some 46)) && !(s.getLast? == some 46) && !Lib.contains s [46, 46]) := by
  induction s with
  | nil => intro p; cases p <;> simp [dotsOk, Lib.contains, Lib.index]
  | cons c r ih =>
    intro p
    have hcont : Lib.contains (c :: r) [46, 46] = ((c == 46 && r.head? == some 46) || Lib.contains r [46, 46]) := by
      unfold Lib.contains
      rw [Lib.index]
      have hpre : ([46, 46] : List UInt8).isPrefixOf (c :: r) = (c == 46 && r.head? == some 46) := by
        cases r with
        | nil => simp [List.isPrefixOf]
        | cons d r => simp only [List.isPrefixOf, List.head?_cons, Bool.and_true]; rw [Bool.eq_iff_iff]; simp; constructor <;> rintro ⟨rfl, rfl⟩ <;> exact ⟨rfl, rfl⟩
      rw [hpre]
      have hg := Lib.index_ge r [46, 46]
      cases c == 46 && r.head? == some 46 with
      | true => simp
      | false =>
        simp only [Bool.false_eq_true, if_false, Bool.false_or]
        by_cases h : Lib.index r [46, 46] = -1
        · simp [h]
        · have : (Lib.index r [46, 46] == -1) = false := by simpa using h
          rw [this]
          simp only [Bool.false_eq_true, if_false]
          rw [Bool.eq_iff_iff]; simp; omega
    rw [hcont, dotsOk]
    have hlast : (c :: r).getLast? = if r.isEmpty then some c else r.getLast? := by cases r <;> simp
    rw [hlast]
    by_cases hc : c = 46
    · subst hc
      rw [if_pos rfl, ih true]
      cases r with
      | nil => simp
      | cons d r => cases p <;> cases hd : (d == 46) <;> simp_all [Bool.and_comm, Bool.and_assoc, Bool.and_left_comm]
    · have h1 : (c == 46) = false := by simpa using hc
      have h2 : (some c == some (46 : UInt8)) = false := by simpa using hc
      rw [if_neg hc, ih false]
      cases r with
      | nil => simp [h1, h2, Lib.contains, Lib.index, hc]
      | cons d r => simp [h1, h2, hc]
theorem strings_HasPrefix_eq (s t : Str) : strings_HasPrefix s t = some (t.isPrefixOf s) := by
  unfold strings_HasPrefix internal_stringslite_HasPrefix
  by_cases h : t.length ≤ s.length
  · have : decide ((t.length : Int) ≤ (s.length : Int)) = true := by simp; omega
    rw [this, cut_0n h]
    simp only [cond_true, Option.bind_some, Option.some.injEq]
    rw [Bool.eq_iff_iff, beq_iff_eq, List.isPrefixOf_iff_prefix, List.prefix_iff_eq_take]
    constructor <;> exact fun h => h.symm
  · have : decide ((t.length : Int) ≤ (s.length : Int)) = false := by simp; omega
    rw [this]
    simp only [cond_false, Option.bind_some, Option.some.injEq]
    symm
    rw [Bool.eq_false_iff]
    intro hp
    exact h (List.isPrefixOf_iff_prefix.1 hp).length_le
theorem strings_HasSuffix_eq (s t : Str) (hs : s.length ≤ 9223372036854775806) : strings_HasSuffix s t = some (t.isSuffixOf s) := by
  unfold strings_HasSuffix internal_stringslite_HasSuffix
  by_cases h : t.length ≤ s.length
  · have : decide ((t.length : Int) ≤ (s.length : Int)) = true := by simp; omega
    rw [this, w64_ns _ _ h (by omega), cut_nl (by omega)]
    simp only [cond_true, Option.bind_some, Option.some.injEq]
    rw [Bool.eq_iff_iff, beq_iff_eq, List.isSuffixOf_iff_suffix, List.suffix_iff_eq_drop]
    constructor <;> exact fun h => h.symm
  · have : decide ((t.length : Int) ≤ (s.length : Int)) = false := by simp; omega
    rw [this]
    simp only [cond_false, Option.bind_some, Option.some.injEq]
    symm
    rw [Bool.eq_false_iff]
    intro hp
    exact h (List.isSuffixOf_iff_suffix.1 hp).length_le
theorem dom_char (c : UInt8) : ((bif decide ((97 : UInt8) ≤ c) then (bif decide (c ≤ 122) then some true else (bif decide ((48 : UInt8) ≤ c) then (bif decide (c ≤ 57) then some true else (bif (c == 45) then some true else some (c == 46))) else (bif (c == 45) then some true else some (c == 46)))) else (bif decide ((48 : UInt8) ≤ c) then (bif decide (c ≤ 57) then some true else (bif (c == 45) then some true else some (c == 46))) else (bif (c == 45) then some true else some (c == 46)))) : Option Bool) = some (smallC c) := by
  unfold smallC
  cases decide ((97 : UInt8) ≤ c) <;> cases decide (c ≤ 122) <;> cases decide ((48 : UInt8) ≤ c) <;> cases decide (c ≤ 57) <;> cases (c == 45) <;> rfl
theorem envelope_Domain_eq (s : Str) (hs : s.length < 4294967281) : envelope_Domain s = some (domP s) := by
  have hloop : iter (envelope_Domain_l1 s) 0 = some ((firstI (fun _ c => if !smallC c then some () else none) 0 s).elim (.inl ()) .inr) := by
    refine iter_first s _ (Sum.inl ()) Sum.inr ?_ ?_
    · unfold envelope_Domain_l1; rw [dec_len]; rfl
    · intro i c hc
      have hi := lt_get hc
      unfold envelope_Domain_l1
      rw [dec_lt hc, idx_get hc]
      simp only [cond_true, Option.bind_some, u8_eq c 45 (by decide), u8_eq c 46 (by decide), u8_le1 97 c (by decide), u8_le2 122 c (by decide), u8_le1 48 c (by decide), u8_le2 57 c (by decide), dom_char]
      rw [show ((i : Int) + 1) = ((i + 1 : Nat) : Int) by omega, w64_n _ (by omega)]
      cases smallC c <;> rfl
  unfold envelope_Domain domP
  rw [hloop, firstI_any, dots_contains]
  by_cases hn : s = []
  · subst hn; simp
  · have h1 : (s != ([] : Str)) = true := by simpa using hn
    rw [h1]
    simp only [cond_true]
    by_cases hl : s.length ≤ 60
    · have h2 : decide ((s.length : Int) ≤ 60) = true := by simp; omega
      rw [h2]
      have hall : s.any (fun c => !smallC c) = !(s.all smallC) := by simp [List.not_all_eq_any_not]
      rw [hall]
      cases hg : s.all smallC with
      | false => simp [hl]
      | true =>
        simp only [Bool.not_true, Bool.false_eq_true, if_false, Option.elim, Option.bind_some, cond_true, strings_HasPrefix_eq, strings_HasSuffix_eq s [46] (by omega), strings_Contains, if_pos hs]
        have hp : ([46] : Str).isPrefixOf s = (s.head? == some 46) := by
          cases s with
          | nil => rfl
          | cons d r => simp only [List.isPrefixOf, List.head?_cons, Bool.and_true]; rw [Bool.eq_iff_iff]; simp; exact ⟨fun h => h.symm, fun h => h.symm⟩
        have hsf : ([46] : Str).isSuffixOf s = (s.getLast? == some 46) := by
          rw [Bool.eq_iff_iff, List.isSuffixOf_iff_suffix, beq_iff_eq]
          constructor
          · rintro ⟨t, rfl⟩; simp
          · intro h
            obtain ⟨ys, rfl⟩ := List.getLast?_eq_some_iff.1 h
            exact ⟨ys, rfl⟩
        have he : s.isEmpty = false := by simpa using hn
        rw [hp, hsf, he]
        cases s.head? == some 46 <;> cases s.getLast? == some 46 <;> cases Lib.contains s [46, 46] <;> simp [hl]
    · have h2 : decide ((s.length : Int) ≤ 60) = false := by simp; omega
      rw [h2]; simp [hl]
theorem indexByte_atP (s : Str) : Lib.index s [64] = if atP s < s.length then (atP s : Int) else -1 := by
  rw [Lib.index_one]
  unfold atP
  induction s with
  | nil => rfl
  | cons c r ih =>
    rw [Lib.indexByte, List.findIdx_cons]
    cases hc : (c == 64) with
    | true => simp
    | false =>
      simp only [Bool.false_eq_true, if_false, cond_false, List.length_cons]
      rw [ih]
      by_cases h : r.findIdx (· == 64) < r.length
      · simp only [if_pos h, if_pos (show r.findIdx (· == 64) + 1 < r.length + 1 by omega)]
        have : (((r.findIdx (· == 64) : Nat) : Int) == -1) = false := by rw [beq_eq_false_iff_ne]; omega
        rw [this]; simp
      · simp only [if_neg h, if_neg (show ¬ (r.findIdx (· == 64) + 1 < r.length + 1) by omega)]; simp
theorem cut_at (s : Str) : Lib.cut s [64] = if atP s < s.length then (s.take (atP s), s.drop (atP s + 1), true) else (s, [], false) := by
  unfold Lib.cut
  rw [indexByte_atP]
  by_cases h : atP s < s.length
  · rw [if_pos h, if_pos h, if_pos (by omega)]; simp
  · rw [if_neg h, if_neg h, if_neg (by omega)]
def splitP (s : Str) : Str × Str × Bool := if atP s < s.length then (s.take (atP s), s.drop (atP s + 1), addrP s) else (s, [], false)
theorem good_char (c : UInt8) : (lettC c || decide (0 ≤ Lib.indexByte [45, 95, 46, 43, 61] c)) = goodC c := by
  unfold goodC
  by_cases h1 : c = 45
  · subst h1; decide
  by_cases h2 : c = 95
  · subst h2; decide
  by_cases h3 : c = 46
  · subst h3; decide
  by_cases h4 : c = 43
  · subst h4; decide
  by_cases h5 : c = 61
  · subst h5; decide
  rw [beq_eq_false_iff_ne.2 h1, beq_eq_false_iff_ne.2 h2, beq_eq_false_iff_ne.2 h3, beq_eq_false_iff_ne.2 h4, beq_eq_false_iff_ne.2 h5]
  simp [Lib.indexByte, Ne.symm h1, Ne.symm h2, Ne.symm h3, Ne.symm h4, Ne.symm h5]
theorem envelope_Split_eq (s : Str) (hs : s.length < 4294967281) : envelope_Split s = some (splitP s) := by
  have hloop : ∀ v : Str × Str × Bool, v.1.length < 4294967281 → iter (envelope_Split_l1 v) 0 = some ((firstI (fun _ c => if !goodC c then some () else none) 0 v.1).elim (.inl ()) .inr) := by
    intro v hv
    refine iter_first v.1 _ (Sum.inl ()) Sum.inr ?_ ?_
    · unfold envelope_Split_l1; rw [dec_len]; rfl
    · intro i c hc
      have hi := lt_get hc
      unfold envelope_Split_l1
      rw [dec_lt hc, idx_get hc]
      simp only [cond_true, Option.bind_some, basic_Letter_eq, strings_IndexByte]
      rw [show ((i : Int) + 1) = ((i + 1 : Nat) : Int) by omega, w64_n _ (by omega)]
      have hg := good_char c
      cases hl : lettC c with
      | true => rw [hl] at hg; simp only [Bool.true_or] at hg; rw [← hg]; rfl
      | false => rw [hl] at hg; simp only [Bool.false_or] at hg; rw [← hg]; cases decide (0 ≤ Lib.indexByte [45, 95, 46, 43, 61] c) <;> rfl
  unfold envelope_Split strings_Cut
  rw [if_pos hs, cut_at]
  simp only [Option.bind_some]
  unfold splitP
  by_cases h : atP s < s.length
  · simp only [if_pos h, cond_true]
    rw [hloop _ (by simp; omega), firstI_any]
    have hall : (s.take (atP s)).any (fun c => !goodC c) = !((s.take (atP s)).all goodC) := by simp [List.not_all_eq_any_not]
    simp only [hall]
    have hlen : (s.take (atP s)).length = atP s := by simp; omega
    rw [hlen, envelope_Domain_eq _ (by simp; omega)]
    unfold addrP
    by_cases h0 : atP s = 0
    · simp [h0]
    · have hne : (s.take (atP s) != ([] : Str)) = true := by
        simp only [bne_iff_ne, ne_eq]
        intro hx
        have := congrArg List.length hx
        rw [hlen] at this; simp at this; omega
      rw [hne]
      by_cases h60 : atP s ≤ 60
      · have e : decide ((atP s : Int) ≤ 60) = true := by simp; omega
        rw [e]
        cases (s.take (atP s)).all goodC <;> simp [h, h60] <;> omega
      · have e : decide ((atP s : Int) ≤ 60) = false := by simp; omega
        rw [e]; simp [h60]
  · simp [if_neg h]
theorem addrP_split (s : Str) : (splitP s).2.2 = addrP s := by
  unfold splitP
  by_cases h : atP s < s.length
  · rw [if_pos h]
  · rw [if_neg h]; unfold addrP; simp [h]
theorem envelope_Address_eq (s : Str) (hs : s.length < 4294967281) : envelope_Address s = some (addrP s) := by
  unfold envelope_Address; rw [envelope_Split_eq s hs]; simp [addrP_split]

/-! ### small things -/
end Go.Proofs.YtgbahimpdoahbaaGreatDoor

/- Small laws on faults and first hits. -/
namespace Go.Proofs.YtgbahimpdoahbaaGreatDoor
open Go.RowKit
set_option linter.unusedVariables false
theorem elim_unit_bool (o : Option Unit) (a b : Bool) : Sum.elim (fun _ => some a) (fun _ => some b) (o.elim (Sum.inl ()) Sum.inr : Unit ⊕ Unit) = some (bif o.isSome then b else a) := by cases o <;> rfl
theorem firstI_isSome {α R : Type} (c : α → Bool) (r : R) (l : List α) (n : Nat) : (firstI (fun _ x => if c x then some r else none) n l).isSome = l.any c := by
  rw [firstI_any]; cases l.any c <;> rfl
theorem not_all {α : Type} (l : List α) (p : α → Bool) : l.any (fun x => !p x) = !l.all p := by simp [List.not_all_eq_any_not]
theorem R_At_eq (a b : Int) : R_At a b = some ⟨a, b⟩ := rfl
theorem basic_Fault_eq (a b : Int) : basic_Fault a b = some ⟨a, b⟩ := rfl
theorem basic_None_eq : basic_None = some ⟨0, 0⟩ := rfl
theorem basic_Failed_eq (f : TFault) : basic_Failed f = some (f.Code != 0) := rfl
end Go.Proofs.YtgbahimpdoahbaaGreatDoor

/- Envelopes: the plain functions, and what the typed functions compute. -/
namespace Go.Proofs.YtgbahimpdoahbaaGreatDoor
open Go.RowKit
set_option linter.unusedVariables false
set_option maxHeartbeats 1000000

def nameC (c : UInt8) : Bool := lettC c || c == 45 || c == 95 || c == 46
def nameP (s : Str) : Bool := decide (1 ≤ s.length) && decide (s.length ≤ 60) && s.all nameC
theorem nameP_len {s : Str} (h : nameP s = true) : 1 ≤ s.length ∧ s.length ≤ 60 := by
  unfold nameP at h
  simp only [Bool.and_eq_true, decide_eq_true_eq] at h
  exact ⟨h.1.1, h.1.2⟩
theorem R_NameOk_eq (s : Str) (hs : s.length ≤ 1048576) : R_NameOk s = some (nameP s) := by
  unfold R_NameOk
  rw [iter_first s (fun _ c => if !nameC c then some false else none) (.inl ()) .inr, firstI_any, not_all]
  · simp only [Option.bind_some, R_In_eq]
    unfold nameP
    have e1 : decide ((1 : Int) ≤ (s.length : Int)) = decide (1 ≤ s.length) := by rw [Bool.eq_iff_iff]; simp; omega
    have e2 : decide ((s.length : Int) ≤ 60) = decide (s.length ≤ 60) := by rw [Bool.eq_iff_iff]; simp; omega
    rw [← e1, ← e2]
    cases s.all nameC <;> simp
  · unfold R_NameOk_l1; rw [dec_len]; rfl
  · intro i c hc
    have hi := lt_get hc
    unfold R_NameOk_l1
    rw [dec_lt hc, idx_get hc]
    simp only [cond_true, Option.bind_some, R_letterOrDigit_eq, u8_ne c 45 (by decide), u8_ne c 95 (by decide), u8_ne c 46 (by decide), sc i (by omega)]
    unfold nameC bne
    cases lettC c <;> cases (c == 45) <;> cases (c == 95) <;> cases (c == 46) <;> rfl
theorem basic_Name_eq (s : Str) (hs : s.length ≤ 1048576) : basic_Name s = some (nameP s) := by
  have hloop : iter (basic_Name_l1 s) 0 = some ((firstI (fun _ c => if !nameC c then some () else none) 0 s).elim (.inl ()) .inr) := by
    refine iter_first s _ (Sum.inl ()) Sum.inr ?_ ?_
    · unfold basic_Name_l1; rw [dec_len]; rfl
    · intro i c hc
      have hi := lt_get hc
      unfold basic_Name_l1
      rw [dec_lt hc, idx_get hc]
      simp only [cond_true, Option.bind_some, basic_Letter_eq, u8_eq c 45 (by decide), u8_eq c 95 (by decide), u8_eq c 46 (by decide), sc i (by omega)]
      unfold nameC
      cases lettC c <;> cases (c == 45) <;> cases (c == 95) <;> cases (c == 46) <;> rfl
  unfold basic_Name nameP
  rw [hloop]
  simp only [Option.bind_some, elim_unit_bool, firstI_isSome, not_all]
  by_cases hn : s = []
  · subst hn; rfl
  · have h1 : (s != ([] : Str)) = true := by simpa using hn
    have h2 : decide (1 ≤ s.length) = true := by have := List.length_pos_iff.2 hn; simp; omega
    have e2 : decide ((s.length : Int) ≤ 60) = decide (s.length ≤ 60) := by rw [Bool.eq_iff_iff]; simp; omega
    rw [h1, h2, e2]
    cases decide (s.length ≤ 60) <;> cases s.all nameC <;> rfl

/-! ### recipients, envelopes -/
def noteP (n : Int) : Bool := decide (0 ≤ n) && decide (n ≤ 7)
theorem envelope_Notify_eq (n : Int) : envelope_Notify n = some (noteP n) := by unfold envelope_Notify noteP; cases decide (0 ≤ n) <;> rfl
end Go.Proofs.YtgbahimpdoahbaaGreatDoor

/- Numerals that are read: strconv.Atoi with Itoa, basic.Number, the reference's Amount. -/
namespace Go.Proofs.YtgbahimpdoahbaaGreatDoor
open Go.RowKit
set_option linter.unusedVariables false
set_option maxHeartbeats 1000000
theorem decFrom_snoc (b : UInt8) : ∀ (l : Str) (acc : Nat), Lib.decFrom acc (l ++ [b]) = (Lib.decFrom acc l).bind fun n => (Lib.digitVal b).map fun d => n * 10 + d
  | [], acc => by
    simp only [List.nil_append, Lib.decFrom, Option.bind_some]
    cases Lib.digitVal b <;> rfl
  | x :: l, acc => by
    rw [List.cons_append, Lib.decFrom, Lib.decFrom]
    cases Lib.digitVal x with
    | none => rfl
    | some d => exact decFrom_snoc b l _
theorem digitVal_ofNat {d : Nat} (h : d < 10) : Lib.digitVal (UInt8.ofNat (48 + d)) = some d := by
  have e : (UInt8.ofNat (48 + d)).toNat = 48 + d := by rw [UInt8.toNat_ofNat']; omega
  unfold Lib.digitVal
  rw [e, if_pos (by omega)]
  congr 1; omega
theorem decFrom_dec : ∀ (k u : Nat), u < 10 ^ (k + 1) → Lib.decFrom 0 (Lib.decDigits u) = some u
  | 0, u, h => by
    rw [decD_small (by simpa using h), Lib.decFrom, digitVal_ofNat (show u < 10 by simpa using h)]
    simp [Lib.decFrom]
  | k + 1, u, h => by
    by_cases h10 : u < 10
    · rw [decD_small h10, Lib.decFrom, digitVal_ofNat h10]; simp [Lib.decFrom]
    · rw [decD_big h10, decD_small (show u % 10 < 10 by omega), decFrom_snoc, decFrom_dec k (u / 10) (by rw [Nat.pow_succ] at h; omega), digitVal_ofNat (by omega)]
      simp; omega
theorem decFrom_all (u : Nat) : Lib.decFrom 0 (Lib.decDigits u) = some u := by
  refine decFrom_dec u u ?_
  exact Nat.lt_of_lt_of_le (Nat.lt_pow_self (by omega)) (Nat.pow_le_pow_right (by omega) (by omega))
theorem decD_ne (u : Nat) : Lib.decDigits u ≠ [] := by
  intro h
  have := decD_pos u
  rw [h] at this
  simp at this
theorem decNat_all (u : Nat) : Lib.decNat (Lib.decDigits u) = some u := by
  unfold Lib.decNat
  have : (Lib.decDigits u).isEmpty = false := by
    cases h : Lib.decDigits u with
    | nil => exact absurd h (decD_ne u)
    | cons x l => rfl
  rw [this]
  exact decFrom_all u
/-- a digit at the front, no zero there but alone -/
theorem decD_head (u : Nat) : ∃ (d : Nat) (r : Str), d < 10 ∧ Lib.decDigits u = UInt8.ofNat (48 + d) :: r ∧ (10 ≤ u → 1 ≤ d) ∧ (u < 10 → r = []) := by
  induction u using Nat.strongRecOn with
  | _ u ih =>
    by_cases h10 : u < 10
    · exact ⟨u, [], h10, decD_small h10, by omega, fun _ => rfl⟩
    · obtain ⟨d, r, h1, h2, h3, h4⟩ := ih (u / 10) (by omega)
      refine ⟨d, r ++ Lib.decDigits (u % 10), h1, by rw [decD_big h10, h2]; rfl, fun _ => ?_, by omega⟩
      by_cases h5 : 10 ≤ u / 10
      · exact h3 h5
      · have h6 := decD_small (show u / 10 < 10 by omega)
        rw [h2] at h6
        injection h6 with h7 _
        have h8 := congrArg UInt8.toNat h7
        rw [UInt8.toNat_ofNat', UInt8.toNat_ofNat'] at h8
        omega
theorem decFrom_ge : ∀ (l : Str) (acc n : Nat), Lib.decFrom acc l = some n → acc ≤ n
  | [], acc, n, h => by simp [Lib.decFrom] at h; omega
  | x :: l, acc, n, h => by
    rw [Lib.decFrom] at h
    cases hd : Lib.digitVal x with
    | none => rw [hd] at h; cases h
    | some d =>
      rw [hd] at h
      have := decFrom_ge l _ n h
      omega
/-- digits without a superfluous zero are the numeral of what they spell -/
theorem dec_canon : ∀ (k : Nat) (s : Str) (m : Nat), s.length = k → Lib.decFrom 0 s = some m → s ≠ [] → (s.length = 1 ∨ s.head? ≠ some 48) → Lib.decDigits m = s
  | 0, s, m, hk, h, hne, _ => absurd (List.length_eq_zero_iff.1 hk) hne
  | k + 1, s, m, hk, h, hne, hz => by
    obtain ⟨t, b, rfl⟩ : ∃ t b, s = t ++ [b] := ⟨s.dropLast, s.getLast hne, (List.dropLast_concat_getLast hne).symm⟩
    rw [decFrom_snoc] at h
    cases ht : Lib.decFrom 0 t with
    | none => rw [ht] at h; cases h
    | some n =>
      rw [ht] at h
      cases hb : Lib.digitVal b with
      | none => rw [hb] at h; cases h
      | some d =>
        rw [hb] at h
        simp only [Option.bind_some, Option.map_some, Option.some.injEq] at h
        subst h
        obtain ⟨h1, h2, h3⟩ := Lib.digitVal_eq hb
        have hbe : UInt8.ofNat (48 + d) = b := by
          rw [← UInt8.toNat_inj, UInt8.toNat_ofNat']
          omega
        cases t with
        | nil =>
          simp [Lib.decFrom] at ht
          subst ht
          rw [Nat.zero_mul, Nat.zero_add, decD_small (by omega), hbe]; rfl
        | cons x t =>
          have hx : x ≠ 48 := by
            rcases hz with hz | hz
            · simp at hz
            · intro e; subst e; simp at hz
          have hn1 : 1 ≤ n := by
            rw [Lib.decFrom] at ht
            cases hx2 : Lib.digitVal x with
            | none => rw [hx2] at ht; cases ht
            | some e =>
              rw [hx2] at ht
              have h4 := decFrom_ge t _ n ht
              obtain ⟨h5, h6, h7⟩ := Lib.digitVal_eq hx2
              have : x.toNat ≠ 48 := fun e2 => hx (UInt8.toNat_inj.1 e2)
              omega
          have ih := dec_canon k (x :: t) n (by simp at hk ⊢; omega) ht (by simp) (.inr (by simpa using hx))
          rw [decD_big (by omega), show (n * 10 + d) / 10 = n by omega, show (n * 10 + d) % 10 = d by omega, ih, decD_small (by omega), hbe]
theorem atoi_dec (m : Nat) : Lib.atoi (Lib.decDigits m) = some (m : Int) := by
  obtain ⟨d, r, h1, h2, _⟩ := decD_head m
  have e45 : (UInt8.ofNat (48 + d) == 45) = false := by
    rw [beq_eq_false_iff_ne]; intro e
    have := congrArg UInt8.toNat e
    rw [UInt8.toNat_ofNat'] at this
    have h45 : (45 : UInt8).toNat = 45 := rfl
    omega
  have e43 : (UInt8.ofNat (48 + d) == 43) = false := by
    rw [beq_eq_false_iff_ne]; intro e
    have := congrArg UInt8.toNat e
    rw [UInt8.toNat_ofNat'] at this
    have h43 : (43 : UInt8).toNat = 43 := rfl
    omega
  have hd := decNat_all m
  rw [h2] at hd ⊢
  unfold Lib.atoi
  dsimp only
  rw [e45, e43, hd]
  rfl
/-- the number that a text of at most nine digits denotes -/
def numP (s : Str) : Option Nat := if s.length ≤ 9 then (match Lib.decNat s with | some m => if Lib.decDigits m = s then some m else none | none => none) else none
theorem numP_some {s : Str} {m : Nat} (h : numP s = some m) : s.length ≤ 9 ∧ Lib.decDigits m = s ∧ m < 1000000000 := by
  unfold numP at h
  split at h
  · rename_i h9
    split at h
    · rename_i n hn
      split at h
      · rename_i he
        cases h
        have h1 := Lib.decFrom_lt _ _ _ (Lib.decNat_some hn).2
        have h2 : 10 ^ s.length ≤ 10 ^ 9 := Nat.pow_le_pow_right (by omega) h9
        exact ⟨h9, he, by omega⟩
      · cases h
    · cases h
  · cases h
theorem numP_dec {m : Nat} (h : m < 1000000000) : numP (Lib.decDigits m) = some m := by
  unfold numP
  rw [if_pos (decD_len 8 m (by omega)), decNat_all]
  simp
theorem basic_Number_eq (s : Str) (h9 : s.length ≤ 9) : basic_Number s 999999999 = some (match numP s with | some m => ((m : Int), true) | none => (0, false)) := by
  have hlen : s.length ≤ 18 := by omega
  unfold basic_Number strconv_Atoi
  rw [if_pos hlen]
  have noneCase : (∀ m, s ≠ Lib.decDigits m) → numP s = none := by
    intro hno
    cases hm : numP s with
    | none => rfl
    | some m => exact absurd (numP_some hm).2.1.symm (hno m)
  cases ha : Lib.atoi s with
  | none =>
    have : numP s = none := by
      refine noneCase fun m hm => ?_
      have h3 : Lib.atoi s = some (m : Int) := by rw [hm]; exact atoi_dec m
      rw [h3] at ha; cases ha
    rw [this]
    rfl
  | some n =>
    obtain ⟨b0, r, hs, hc⟩ := Lib.atoi_cases ha
    have hbig : -1000000000000000000 < n ∧ n < 1000000000000000000 := by
      rcases hc with ⟨_, m, _, hm, rfl⟩ | ⟨_, m, _, hm, rfl⟩ | ⟨_, _, m, hm, rfl⟩
      · have := Lib.decFrom_lt18 hm (by rw [hs] at hlen; simp at hlen; omega); omega
      · have := Lib.decFrom_lt18 hm (by rw [hs] at hlen; simp at hlen; omega); omega
      · have := Lib.decFrom_lt18 hm (by rw [← hs]; exact hlen); omega
    simp only [Option.bind_some, cond_false]
    unfold strconv_Itoa
    rw [if_pos (by omega)]
    simp only [Option.bind_some]
    by_cases hi : Lib.itoa n = s
    · have : (Lib.itoa n != s) = false := by simp [hi]
      rw [this]
      simp only [cond_false]
      by_cases hn : n < 0
      · rw [decide_eq_true hn]
        have : numP s = none := by
          refine noneCase fun m hm => ?_
          unfold Lib.itoa at hi
          rw [if_pos hn] at hi
          obtain ⟨d, r', h1, h2, _⟩ := decD_head m
          rw [hm, h2] at hi
          injection hi with h3 _
          have := congrArg UInt8.toNat h3
          rw [UInt8.toNat_ofNat'] at this
          simp at this; omega
        rw [this]; rfl
      · rw [decide_eq_false hn]
        unfold Lib.itoa at hi
        rw [if_neg hn] at hi
        have hlt : n.toNat < 1000000000 := by
          have h1 := Lib.decFrom_lt _ _ _ (decFrom_all n.toNat)
          rw [hi] at h1
          have h2 : 10 ^ s.length ≤ 10 ^ 9 := Nat.pow_le_pow_right (by omega) h9
          omega
        have hP : numP s = some n.toNat := by rw [← hi]; exact numP_dec hlt
        rw [hP]
        simp only [cond_false]
        rw [decide_eq_false (by omega)]
        simp only [cond_false, Option.bind_some]
        rw [show ((n.toNat : Nat) : Int) = n by omega]
    · have : (Lib.itoa n != s) = true := by simpa using hi
      rw [this]
      have hP : numP s = none := by
        refine noneCase fun m hm => hi ?_
        have h3 : Lib.atoi s = some (m : Int) := by rw [hm]; exact atoi_dec m
        rw [ha] at h3
        cases h3
        rw [Lib.itoa_nonneg, hm]
      rw [hP]
      rfl
theorem amount_loop (s : Str) (hs : s.length ≤ 9) : ∀ (r p : Str) (acc : Nat), s = p ++ r → acc < 10 ^ p.length → iter (R_Amount_l1 s) ((acc : Int), (p.length : Int)) = some (match Lib.decFrom acc r with | some m => .inl (m : Int) | none => .inr (-1))
  | [], p, acc, h, ha => by
    rw [List.append_nil] at h
    subst h
    refine iter_out ?_
    unfold R_Amount_l1
    dsimp only
    rw [dec_len]
    rfl
  | x :: r, p, acc, h, ha => by
    have hp : p.length ≤ 8 := by have := congrArg List.length h; simp at this; omega
    have hpw : 10 ^ p.length ≤ 10 ^ 8 := Nat.pow_le_pow_right (by omega) hp
    have hx : s[p.length]? = some x := by rw [h]; simp
    have hin : R_In (x.toNat : Int) 48 57 = some (decide (48 ≤ x.toNat) && decide (x.toNat ≤ 57)) := by
      rw [R_In_eq]
      congr 2 <;> (rw [Bool.eq_iff_iff, decide_eq_true_eq, decide_eq_true_eq]; omega)
    by_cases hd : 48 ≤ x.toNat ∧ x.toNat ≤ 57
    · have hv : Lib.digitVal x = some (x.toNat - 48) := by unfold Lib.digitVal; rw [if_pos hd]
      have h2 : (x - 48).toNat = x.toNat - 48 := UInt8.toNat_sub_of_le x 48 (by rw [UInt8.le_iff_toNat_le]; exact hd.1)
      have hstep : R_Amount_l1 s ((acc : Int), (p.length : Int)) = some (.cont (((acc * 10 + (x.toNat - 48) : Nat) : Int), ((p.length + 1 : Nat) : Int))) := by
        unfold R_Amount_l1
        dsimp only
        rw [dec_lt hx, idx_get hx]
        simp only [cond_true, Option.bind_some, hin]
        rw [decide_eq_true hd.1, decide_eq_true hd.2, h2]
        have e1 : w64 (10 * (acc : Int)) = 10 * (acc : Int) := w64_id (by omega) (by omega)
        simp only [Bool.and_true, Bool.not_true, cond_false, sc p.length (by omega)]
        rw [e1, w64_id (by omega) (by omega)]
        congr 3
        omega
      rw [iter_cont hstep]
      have := amount_loop s hs r (p ++ [x]) (acc * 10 + (x.toNat - 48)) (by simp [h]) (by simp [Nat.pow_succ]; omega)
      simp only [List.length_append, List.length_cons, List.length_nil] at this
      rw [show 0 + 1 = 1 from rfl] at this
      rw [this, Lib.decFrom, hv]
    · have hv : Lib.digitVal x = none := by unfold Lib.digitVal; rw [if_neg hd]
      have hb : (decide (48 ≤ x.toNat) && decide (x.toNat ≤ 57)) = false := by
        cases h1 : decide (48 ≤ x.toNat) && decide (x.toNat ≤ 57) with
        | false => rfl
        | true => simp only [Bool.and_eq_true, decide_eq_true_eq] at h1; exact absurd h1 hd
      rw [Lib.decFrom, hv]
      refine iter_out ?_
      unfold R_Amount_l1
      dsimp only
      rw [dec_lt hx, idx_get hx]
      simp only [cond_true, Option.bind_some, hin, hb]
      rfl
theorem R_Amount_eq (s : Str) (hs : s.length ≤ 1048576) : R_Amount s = some (match numP s with | some m => (m : Int) | none => -1) := by
  unfold R_Amount
  rw [R_In_eq]
  by_cases h9 : 1 ≤ s.length ∧ s.length ≤ 9
  · have e : (decide ((1 : Int) ≤ (s.length : Int)) && decide ((s.length : Int) ≤ 9)) = true := by simp; omega
    rw [e]
    simp only [Option.bind_some, Bool.not_true, cond_false]
    cases s with
    | nil => simp at h9
    | cons x r =>
      have e0 : idx (x :: r) 0 = some x := rfl
      rw [e0]
      simp only [Option.bind_some, u8_eq x 48 (by decide)]
      have loop := amount_loop (x :: r) h9.2 (x :: r) [] 0 rfl (by simp)
      rw [show (((0 : Nat) : Int), (([] : Str).length : Int)) = ((0 : Int), (0 : Int)) from rfl] at loop
      rw [loop]
      by_cases hz : 1 < (x :: r).length ∧ x = 48
      · obtain ⟨h1, rfl⟩ := hz
        rw [decide_eq_true (by omega)]
        have hP : numP (48 :: r) = none := by
          cases hm : numP (48 :: r) with
          | none => rfl
          | some m =>
            obtain ⟨_, h2, _⟩ := numP_some hm
            obtain ⟨d, r', h3, h4, h5, h6⟩ := decD_head m
            rw [h2] at h4
            injection h4 with h7 h8
            have h9' := congrArg UInt8.toNat h7
            rw [UInt8.toNat_ofNat'] at h9'
            have hd0 : d = 0 := by
              have : (48 : UInt8).toNat = 48 := rfl
              omega
            by_cases h10 : 10 ≤ m
            · have := h5 h10; omega
            · have := h6 (by omega)
              rw [h8] at h1
              rw [this] at h1
              simp at h1
        rw [hP]
        rfl
      · have e1 : (bif decide ((1 : Int) < (((x :: r).length : Nat) : Int)) then some (x == 48) else some false) = some false := by
          by_cases h1 : 1 < (x :: r).length
          · have hx : x ≠ 48 := fun e => hz ⟨h1, e⟩
            rw [decide_eq_true (by omega)]
            simpa using hx
          · rw [decide_eq_false (by omega)]; rfl
        rw [e1]
        simp only [Option.bind_some, cond_false]
        have hd : Lib.decNat (x :: r) = Lib.decFrom 0 (x :: r) := rfl
        unfold numP
        rw [if_pos h9.2, hd]
        cases hm : Lib.decFrom 0 (x :: r) with
        | none => rfl
        | some m =>
          have hc := dec_canon _ (x :: r) m rfl hm (by simp) (by
            by_cases h1 : (x :: r).length = 1
            · exact .inl h1
            · right
              have hx : x ≠ 48 := fun e => hz ⟨by have : (x :: r).length = r.length + 1 := rfl; omega, e⟩
              simpa using hx)
          simp only [hc, if_true]
          rfl
  · have e : (decide ((1 : Int) ≤ (s.length : Int)) && decide ((s.length : Int) ≤ 9)) = false := by
      cases h1 : decide ((1 : Int) ≤ (s.length : Int)) && decide ((s.length : Int) ≤ 9) with
      | false => rfl
      | true => simp at h1; exact absurd ⟨by omega, by omega⟩ h9
    rw [e]
    have hP : numP s = none := by
      cases hm : numP s with
      | none => rfl
      | some m =>
        obtain ⟨h1, h2, _⟩ := numP_some hm
        have := decD_pos m
        rw [h2] at this
        exact absurd ⟨this, h1⟩ h9
    rw [hP]
    rfl
theorem command_number_eq (s : Str) : command_number s = some (match numP s with | some m => ((m : Int), true) | none => (0, false)) := by
  unfold command_number
  by_cases h9 : s.length ≤ 9
  · rw [decide_eq_false (by omega), basic_Number_eq s h9]
    cases numP s <;> rfl
  · rw [decide_eq_true (by omega)]
    have : numP s = none := by unfold numP; rw [if_neg h9]
    rw [this]; rfl
end Go.Proofs.YtgbahimpdoahbaaGreatDoor

/- Aliases: the plain functions, and what the typed functions compute. -/
namespace Go.Proofs.YtgbahimpdoahbaaGreatDoor
open Go.RowKit
set_option linter.unusedVariables false
set_option maxHeartbeats 1000000

/-! ### validation -/
end Go.Proofs.YtgbahimpdoahbaaGreatDoor

/- Aliases: the search, and what the typed functions compute. -/
namespace Go.Proofs.YtgbahimpdoahbaaGreatDoor
open Go.RowKit
set_option linter.unusedVariables false
set_option maxHeartbeats 1000000

/-! ### lists without repetition -/
def add1 (o : List Str) (x : Str) : List Str := if o.contains x then o else o ++ [x]
def addNew (o xs : List Str) : List Str := xs.foldl add1 o
theorem add1_mem (o : List Str) (x y : Str) : y ∈ add1 o x ↔ y ∈ o ∨ y = x := by
  unfold add1
  split
  · rename_i h
    simp at h
    constructor
    · exact .inl
    · rintro (h1 | rfl)
      · exact h1
      · exact h
  · simp
theorem add1_prefix (o : List Str) (x : Str) : o <+: add1 o x := by
  unfold add1; split
  · exact List.prefix_refl _
  · exact List.prefix_append _ _
theorem add1_nodup {o : List Str} (h : o.Nodup) (x : Str) : (add1 o x).Nodup := by
  unfold add1; split
  · exact h
  · rename_i hx
    simp at hx
    rw [List.nodup_append]
    exact ⟨h, by simp, fun a ha b hb hab => by simp at hb; subst hb; subst hab; exact hx ha⟩
theorem addNew_mem (xs : List Str) : ∀ (o : List Str) (y : Str), y ∈ addNew o xs ↔ y ∈ o ∨ y ∈ xs := by
  induction xs with
  | nil => intro o y; simp [addNew]
  | cons x xs ih => intro o y; show y ∈ addNew (add1 o x) xs ↔ _; rw [ih, add1_mem]; simp [or_assoc]
theorem addNew_prefix (xs : List Str) : ∀ o : List Str, o <+: addNew o xs := by
  induction xs with
  | nil => intro o; exact List.prefix_refl _
  | cons x xs ih => intro o; exact (add1_prefix o x).trans (ih _)
theorem addNew_nodup (xs : List Str) : ∀ {o : List Str}, o.Nodup → (addNew o xs).Nodup := by
  induction xs with
  | nil => intro o h; exact h
  | cons x xs ih => intro o h; exact ih (add1_nodup h x)
theorem nodup_le {l m : List Str} (hl : l.Nodup) (h : ∀ x ∈ l, x ∈ m) : l.length ≤ m.length := by
  induction l generalizing m with
  | nil => simp
  | cons x l ih =>
    have hx : x ∈ m := h x (by simp)
    obtain ⟨hxl, hl'⟩ := List.nodup_cons.1 hl
    have := ih (m := m.erase x) hl' (fun y hy => by
      have hne : y ≠ x := by rintro rfl; exact hxl hy
      exact (List.mem_erase_of_ne hne).2 (h y (by simp [hy])))
    rw [List.length_erase_of_mem hx] at this
    have : 0 < m.length := List.length_pos_of_mem hx
    simp; omega

/-! ### the search -/
def tgtO (l : List TAlias) (s : Str) : Option (List Str) := (l.find? (fun a => a.Address == s)).map (·.To)
def tgt (l : List TAlias) (s : Str) : List Str := (tgtO l s).getD []
def univ (l : List TAlias) (from_ : List Str) : List Str := from_ ++ l.flatMap (·.To)
theorem tgt_sub (l : List TAlias) (s x : Str) (h : x ∈ tgt l s) : ∃ a ∈ l, a.Address = s ∧ x ∈ a.To := by
  unfold tgt tgtO at h
  cases hf : l.find? (fun a => a.Address == s) with
  | none => rw [hf] at h; simp at h
  | some a =>
    rw [hf] at h
    have := List.find?_some hf
    exact ⟨a, List.mem_of_find?_eq_some hf, by simpa using this, by simpa using h⟩
/-- what holds of the list during the search -/
structure Inv (l : List TAlias) (U : List Str) (k : Nat) (out : List Str) : Prop where
  nd : out.Nodup
  sub : ∀ x ∈ out, x ∈ U
  le : k ≤ out.length
theorem Inv.len {l : List TAlias} {U : List Str} {k : Nat} {out : List Str} (h : Inv l U k out) : out.length ≤ U.length := nodup_le h.nd h.sub
theorem Inv.step {l : List TAlias} {from_ : List Str} {k : Nat} {out : List Str} (h : Inv l (univ l from_) k out) {s : Str} (hs : out[k]? = some s) : Inv l (univ l from_) (k + 1) (addNew out (tgt l s)) := by
  refine ⟨addNew_nodup _ h.nd, fun x hx => ?_, ?_⟩
  · rcases (addNew_mem _ _ _).1 hx with h1 | h1
    · exact h.sub x h1
    · obtain ⟨a, ha, _, hxa⟩ := tgt_sub l s x h1
      exact List.mem_append.2 (.inr (List.mem_flatMap.2 ⟨a, ha, hxa⟩))
  · have := (addNew_prefix (tgt l s) out).length_le
    have := lt_get hs
    omega
/-! ### the reference -/
end Go.Proofs.YtgbahimpdoahbaaGreatDoor

/- Aliases: what the program's expansion and loops compute. -/
namespace Go.Proofs.YtgbahimpdoahbaaGreatDoor
open Go.RowKit
set_option linter.unusedVariables false
set_option maxHeartbeats 1000000

/-! ### the table -/
end Go.Proofs.YtgbahimpdoahbaaGreatDoor

/- Aliases: loops; the closed example; sizes. -/
namespace Go.Proofs.YtgbahimpdoahbaaGreatDoor
open Go.RowKit
set_option linter.unusedVariables false
set_option maxHeartbeats 1000000

/-! ### the closed example -/
end Go.Proofs.YtgbahimpdoahbaaGreatDoor

/- strings.IndexAny on a short text: plain. -/
namespace Go.Proofs.YtgbahimpdoahbaaGreatDoor
open Go.RowKit
set_option linter.unusedVariables false
end Go.Proofs.YtgbahimpdoahbaaGreatDoor

/- strings.ContainsAny. -/
namespace Go.Proofs.YtgbahimpdoahbaaGreatDoor
open Go.RowKit
set_option linter.unusedVariables false
end Go.Proofs.YtgbahimpdoahbaaGreatDoor

/- Header fields in lines: the plain functions, and what the typed functions compute. -/
namespace Go.Proofs.YtgbahimpdoahbaaGreatDoor
open Go.RowKit
set_option linter.unusedVariables false
set_option maxHeartbeats 1000000

def blankC (c : UInt8) : Bool := c == 32 || c == 9
/-! ### where a line is cut -/
/-- may a line be cut here? -/
def br (t : Str) (f i : Nat) : Bool := decide (1 ≤ i) && decide (f ≤ i) && (match t[i]?, t[i - 1]? with | some a, some b => blankC a && !blankC b | _, _ => false)
/-- what the cut is -/
def CutIs (t : Str) (f c : Nat) : Prop := (c = 0 ∧ ∀ j, br t f j = false) ∨ (br t f c = true ∧ ((c ≤ 78 ∧ ∀ j, c < j → j ≤ 78 → br t f j = false) ∨ (78 < c ∧ ∀ j, j < c → br t f j = false)))
theorem br_lt {t : Str} {f i : Nat} (h : br t f i = true) : i < t.length ∧ 1 ≤ i ∧ f ≤ i := by
  unfold br at h
  simp only [Bool.and_eq_true, decide_eq_true_eq] at h
  obtain ⟨⟨h1, h2⟩, h3⟩ := h
  refine ⟨?_, h1, h2⟩
  cases hi : t[i]? with
  | none => rw [hi] at h3; simp at h3
  | some a => exact lt_get hi
def PInv (t : Str) (f b i : Nat) : Prop := f ≤ i ∧ 1 ≤ i ∧ ((b = 0 ∧ ∀ j, j < i → br t f j = false) ∨ (br t f b = true ∧ b < i ∧ ((b ≤ 78 ∧ ∀ j, b < j → j < i → br t f j = false) ∨ (78 < b ∧ ∀ j, j < b → br t f j = false))))
theorem PInv.done {t : Str} {f b i : Nat} (h : PInv t f b i) (hi : 0 < b ∧ 78 < i ∨ t.length ≤ i) : CutIs t f b := by
  obtain ⟨hf, h1, h2⟩ := h
  rcases h2 with ⟨rfl, h3⟩ | ⟨h3, h4, h5⟩
  · left
    refine ⟨rfl, fun j => ?_⟩
    cases hb : br t f j with
    | false => rfl
    | true =>
      have := (br_lt hb).1
      rw [h3 j (by omega)] at hb; cases hb
  · right
    refine ⟨h3, ?_⟩
    rcases h5 with ⟨h6, h7⟩ | h6
    · left
      refine ⟨h6, fun j hj hj2 => ?_⟩
      cases hb : br t f j with
      | false => rfl
      | true =>
        have := (br_lt hb).1
        rw [h7 j hj (by omega)] at hb; cases hb
    · exact .inr h6
end Go.Proofs.YtgbahimpdoahbaaGreatDoor

/- Fields and messages: the plain functions, and what the typed functions compute. -/
namespace Go.Proofs.YtgbahimpdoahbaaGreatDoor
open Go.RowKit
set_option linter.unusedVariables false
set_option maxHeartbeats 1000000

end Go.Proofs.YtgbahimpdoahbaaGreatDoor

/- Messages and mails: the plain functions, and what the typed functions compute. -/
namespace Go.Proofs.YtgbahimpdoahbaaGreatDoor
open Go.RowKit
set_option linter.unusedVariables false
set_option maxHeartbeats 1000000

/-! ### a head -/
/-! ### the bytes of a message -/
end Go.Proofs.YtgbahimpdoahbaaGreatDoor

/- Bodies, messages and mails: the plain functions, and what the typed functions compute. -/
namespace Go.Proofs.YtgbahimpdoahbaaGreatDoor
open Go.RowKit
set_option linter.unusedVariables false
set_option maxHeartbeats 1000000

end Go.Proofs.YtgbahimpdoahbaaGreatDoor

/- Envelopes by domains: the plain functions, and what the typed functions compute. -/
namespace Go.Proofs.YtgbahimpdoahbaaGreatDoor
open Go.RowKit
set_option linter.unusedVariables false
set_option maxHeartbeats 1000000

instance : DecidableEq TRecipient := fun a b => decidable_of_iff (a.Address = b.Address ∧ a.Notify = b.Notify) (by cases a; cases b; simp)
instance : DecidableEq TFault := fun a b => decidable_of_iff (a.Code = b.Code ∧ a.Index = b.Index) (by cases a; cases b; simp)
instance : DecidableEq TEnvelope := fun a b => decidable_of_iff (a.From = b.From ∧ a.To = b.To ∧ a.Id = b.Id) (by cases a; cases b; simp)
end Go.Proofs.YtgbahimpdoahbaaGreatDoor

/- The union of recipients: the plain functions, and what the typed functions compute. -/
namespace Go.Proofs.YtgbahimpdoahbaaGreatDoor
open Go.RowKit
set_option linter.unusedVariables false
set_option maxHeartbeats 1000000

/-! ### conditions -/
/-! ### one recipient for each address -/
def sameA (s : Str) (r : TRecipient) : Bool := r.Address == s
def hasA (out : List TRecipient) (s : Str) : Bool := out.any (sameA s)
def putR (out : List TRecipient) (r : TRecipient) : List TRecipient := if hasA out r.Address then out.map (fun x => if sameA r.Address x then ⟨x.Address, iOr x.Notify r.Notify⟩ else x) else out ++ [r]
end Go.Proofs.YtgbahimpdoahbaaGreatDoor

/- The union of recipients: what the typed functions compute; the closed example. -/
namespace Go.Proofs.YtgbahimpdoahbaaGreatDoor
open Go.RowKit
set_option linter.unusedVariables false
set_option maxHeartbeats 1000000

def posA (out : List TRecipient) (s : Str) : Option Nat := out.findIdx? (sameA s)
theorem posA_has (out : List TRecipient) (s : Str) : (posA out s).isSome = hasA out s := by unfold posA hasA; exact List.findIdx?_isSome
theorem posA_app (out : List TRecipient) (r : TRecipient) (s : Str) (h : hasA out r.Address = false) : posA (out ++ [r]) s = if r.Address == s then some out.length else posA out s := by
  unfold posA
  rw [List.findIdx?_append]
  by_cases hs : (r.Address == s) = true
  · rw [if_pos hs]
    have e : r.Address = s := beq_iff_eq.1 hs
    subst e
    have : out.findIdx? (sameA r.Address) = none := by
      have := posA_has out r.Address
      rw [h] at this
      unfold posA at this
      simpa using this
    rw [this]
    simp [sameA]
  · rw [if_neg hs]
    have : sameA s r = false := by unfold sameA; simpa using hs
    simp [List.findIdx?_cons, this]
theorem posA_map (out : List TRecipient) (f : TRecipient → TRecipient) (hf : ∀ x, (f x).Address = x.Address) (s : Str) : posA (out.map f) s = posA out s := by
  unfold posA
  rw [List.findIdx?_map]
  congr 1
  funext x
  simp [Function.comp, sameA, hf]
structure MInv (i : Nat) (out : List TRecipient) (m : List (Str × Int)) : Prop where
  len : out.length ≤ i
  nd : (out.map (·.Address)).Nodup
  mp : ∀ s, mget m s = (posA out s).map fun k => ((k : Nat) : Int)
theorem MInv.put {i : Nat} {out : List TRecipient} {m : List (Str × Int)} (h : MInv i out m) (r : TRecipient) : MInv (i + 1) (putR out r) (if hasA out r.Address then m else mput m r.Address (out.length : Int)) := by
  unfold putR
  cases hh : hasA out r.Address with
  | true =>
    simp only [if_true]
    have hf : ∀ x : TRecipient, (if sameA r.Address x then (⟨x.Address, iOr x.Notify r.Notify⟩ : TRecipient) else x).Address = x.Address := by intro x; split <;> rfl
    refine ⟨by simp; have := h.len; omega, ?_, fun s => ?_⟩
    · rw [List.map_map, show ((·.Address) ∘ fun x : TRecipient => if sameA r.Address x then (⟨x.Address, iOr x.Notify r.Notify⟩ : TRecipient) else x) = (·.Address) from funext hf]; exact h.nd
    · rw [posA_map _ _ hf]; exact h.mp s
  | false =>
    simp only [Bool.false_eq_true, if_false]
    refine ⟨by simp; exact h.len, ?_, fun s => ?_⟩
    · rw [List.map_append, List.nodup_append]
      refine ⟨h.nd, by simp, ?_⟩
      intro a ha b hb
      simp at hb; subst hb
      rintro rfl
      obtain ⟨x, hx, hxe⟩ := List.mem_map.1 ha
      unfold hasA at hh
      rw [List.any_eq_false] at hh
      exact hh x hx (by simp [sameA, hxe])
    · rw [mget_mputG, posA_app _ _ _ hh, h.mp s]
      by_cases hs : (r.Address == s) = true
      · rw [if_pos hs, if_pos hs]; rfl
      · rw [if_neg hs, if_neg hs]
end Go.Proofs.YtgbahimpdoahbaaGreatDoor

/- The law EnvelopeDomainsMatchSpec, as a plain statement. -/
namespace Go.Proofs.YtgbahimpdoahbaaGreatDoor
open Go.RowKit
set_option linter.unusedVariables false
end Go.Proofs.YtgbahimpdoahbaaGreatDoor

/- The law EnvelopeMatchesSpec in plain Lean. -/
namespace Go.Proofs.YtgbahimpdoahbaaGreatDoor
open Go.RowKit
set_option linter.unusedVariables false
set_option maxHeartbeats 1000000

end Go.Proofs.YtgbahimpdoahbaaGreatDoor

/- Sending on: the plain functions of its parts, and what the typed functions compute. -/
namespace Go.Proofs.YtgbahimpdoahbaaGreatDoor
open Go.RowKit
set_option linter.unusedVariables false
set_option maxHeartbeats 1000000

/-! ### rules as aliases -/
theorem map_fold {α β : Type} (f : α → β) (l : List α) : ∀ o : List β, l.foldl (fun o x => o ++ [f x]) o = o ++ l.map f := by
  induction l with
  | nil => intro o; simp
  | cons x l ih => intro o; simp [ih]
/-! ### letters -/
def lowC (c : UInt8) : UInt8 := bif decide ((65 : UInt8) ≤ c) && decide (c ≤ 90) then c + 97 - 65 else c
def lowP (s : Str) : Str := s.map lowC
theorem basic_Lower_eq (s : Str) (hs : s.length ≤ 1048576) : basic_Lower s = some (lowP s) := by
  unfold basic_Lower
  have key : ∀ r p : Str, s = p ++ r → iter (basic_Lower_l1 s) ((p.length : Int), p.map lowC ++ r) = some (lowP s) := by
    intro r
    induction r with
    | nil =>
      intro p h
      have hp : p = s := by simp [h]
      subst hp
      refine iter_out ?_
      unfold basic_Lower_l1
      dsimp only
      rw [dec_len]
      simp [lowP]
    | cons c r ih =>
      intro p h
      have hx : s[p.length]? = some c := by simp [h]
      have hi := lt_get hx
      have hx2 : (p.map lowC ++ c :: r)[p.length]? = some c := by
        rw [List.getElem?_append_right (by simp)]; simp
      have hb : basic_Lower_l1 s ((p.length : Int), p.map lowC ++ c :: r) = some (.cont (((p.length + 1 : Nat) : Int), (p ++ [c]).map lowC ++ r)) := by
        unfold basic_Lower_l1
        dsimp only
        rw [dec_lt hx, idx_get hx2]
        simp only [cond_true, Option.bind_some, u8_le1 65 c (by decide), u8_le2 90 c (by decide), sc p.length (by omega), Int.toNat_natCast]
        have hset : (p.map lowC ++ c :: r).set p.length (lowC c) = (p ++ [c]).map lowC ++ r := by
          rw [List.set_append_right _ _ (by simp)]
          simp
        have hsame : lowC c = c → p.map lowC ++ c :: r = (p ++ [c]).map lowC ++ r := by intro h; simp [h]
        unfold lowC at hset hsame ⊢
        cases h1 : decide ((65 : UInt8) ≤ c) <;> cases h2 : decide (c ≤ 90) <;> rw [h1, h2] at hset hsame <;> simp only [Bool.and_true, Bool.and_false, Bool.true_and, Bool.false_and, cond_true, cond_false, Option.bind_some] at hset hsame ⊢
        · rw [hsame trivial]
        · rw [hsame trivial]
        · rw [hsame trivial]
        · rw [hset]
      rw [iter_cont hb]
      have := ih (p ++ [c]) (by simp [h])
      simpa using this
  have := key s [] rfl
  have h2 : iter (basic_Lower_l1 s) (0, s) = some (lowP s) := this
  rw [h2]; rfl
/-! ### fields -/
/-! ### a field in front -/
end Go.Proofs.YtgbahimpdoahbaaGreatDoor

/- Sending on: a step, the tree. -/
namespace Go.Proofs.YtgbahimpdoahbaaGreatDoor
open Go.RowKit
set_option linter.unusedVariables false
set_option maxHeartbeats 1000000

/-! ### a step -/
/-! ### the tree -/
end Go.Proofs.YtgbahimpdoahbaaGreatDoor

/- Sending on: the closed example; what a step makes. -/
namespace Go.Proofs.YtgbahimpdoahbaaGreatDoor
open Go.RowKit
set_option linter.unusedVariables false
set_option maxHeartbeats 1000000

instance : DecidableEq TField := fun a b => decidable_of_iff (a.Name = b.Name ∧ a.Value = b.Value) (by cases a; cases b; simp)
instance : DecidableEq TMessage := fun a b => decidable_of_iff (a.Fields = b.Fields ∧ a.Body = b.Body) (by cases a; cases b; simp)
instance : DecidableEq TMail := fun a b => decidable_of_iff (a.Envelope = b.Envelope ∧ a.Message = b.Message) (by cases a; cases b; simp)
/-! ### what a step makes -/
end Go.Proofs.YtgbahimpdoahbaaGreatDoor

/- The reference's side of messages: letters, values, recipients, a field in front, equal mails. -/
namespace Go.Proofs.YtgbahimpdoahbaaGreatDoor
open Go.RowKit
set_option linter.unusedVariables false
set_option maxHeartbeats 1000000

theorem low_add (c : UInt8) : c + 97 - 65 = c + 32 := by
  rw [← UInt8.toNat_inj]
  have := c.toNat_lt
  simp only [UInt8.toNat_add, UInt8.toNat_sub, UInt8.reduceToNat]
  omega
theorem R_Small_eq (s : Str) (hs : s.length ≤ 1048576) : R_Small s = some (lowP s) := by
  unfold R_Small lowP
  have := (iter_fold s (fun i (o : List UInt8) => (i, o)) (fun o c => o ++ [lowC c]) id (fun i o => o.length ≤ i) (body := R_Small_l1 s)
    (fun o _ => by unfold R_Small_l1; simp [dec_len]) (fun i c o hx hi => by
      have hlt := lt_get hx
      refine ⟨?_, by simp; omega⟩
      unfold R_Small_l1
      dsimp only
      rw [dec_lt hx, idx_get hx]
      simp only [cond_true, Option.bind_some, R_In_eq, u8_le1 65 c (by decide), u8_le2 90 c (by decide), sc i (by omega)]
      have hl : ((bif (decide ((65 : UInt8) ≤ c) && decide (c ≤ 90)) then some (c + 32) else some c) : Option UInt8) = some (lowC c) := by
        unfold lowC
        rw [low_add]
        cases decide ((65 : UInt8) ≤ c) && decide (c ≤ 90) <;> rfl
      rw [hl]
      simp only [Option.bind_some]
      rw [app_ok (by simp; omega)]; rfl) [] (by simp)).1
  rw [this, map_fold]
  simp
end Go.Proofs.YtgbahimpdoahbaaGreatDoor

/- Texts divided at one byte: strings.Split and the reference's Pieces. -/
namespace Go.Proofs.YtgbahimpdoahbaaGreatDoor
open Go.RowKit
set_option linter.unusedVariables false
set_option maxHeartbeats 1000000
/-- the parts of a text between the bytes c -/
def splitC (c : UInt8) : Str → List Str
  | [] => [[]]
  | b :: r => if b = c then [] :: splitC c r else match splitC c r with
    | x :: l => (b :: x) :: l
    | [] => [[b]]
theorem splitC_ne (c : UInt8) (s : Str) : ∃ x l, splitC c s = x :: l := by
  cases s with
  | nil => exact ⟨_, _, rfl⟩
  | cons b r =>
    unfold splitC
    split
    · exact ⟨_, _, rfl⟩
    · split <;> exact ⟨_, _, rfl⟩
theorem splitC_eq (c : UInt8) (r : Str) : splitC c (c :: r) = [] :: splitC c r := by rw [splitC, if_pos rfl]
theorem splitC_cons {b c : UInt8} (h : b ≠ c) {r x : Str} {l : List Str} (hr : splitC c r = x :: l) : splitC c (b :: r) = (b :: x) :: l := by
  rw [splitC, if_neg h, hr]
theorem splitC_total (c : UInt8) (s : Str) : (splitC c s).length ≤ s.length + 1 := by
  induction s with
  | nil => simp [splitC]
  | cons b r ih =>
    by_cases hb : b = c
    · subst hb; rw [splitC_eq]; simp; omega
    · obtain ⟨x, t, hx⟩ := splitC_ne c r
      rw [hx] at ih
      rw [splitC_cons hb hx]
      simp at ih ⊢; omega
theorem splitC_mem {c : UInt8} {s x : Str} (h : x ∈ splitC c s) : x.length ≤ s.length := by
  induction s generalizing x with
  | nil => simp [splitC] at h; subst h; simp
  | cons b r ih =>
    by_cases hb : b = c
    · subst hb
      rw [splitC_eq] at h
      rcases List.mem_cons.1 h with rfl | h
      · simp
      · have := ih h; simp; omega
    · obtain ⟨y, t, hy⟩ := splitC_ne c r
      rw [splitC_cons hb hy] at h
      rcases List.mem_cons.1 h with rfl | h
      · have := ih (x := y) (by rw [hy]; simp); simp; omega
      · have := ih (x := x) (by rw [hy]; simp [h]); simp; omega
end Go.Proofs.YtgbahimpdoahbaaGreatDoor

/- Words between spaces: strings.FieldsFunc at the space. -/
namespace Go.Proofs.YtgbahimpdoahbaaGreatDoor
open Go.RowKit
set_option linter.unusedVariables false
set_option maxHeartbeats 1000000
def nonE (l : List Str) : List Str := l.filter fun x => !x.isEmpty
/-- the words of a text -/
def wordsC (s : Str) : List Str := nonE (splitC 32 s)
/-- the words of a text behind the beginning of one -/
def wrd (cur r : Str) : List Str := match splitC 32 r with
  | x :: l => nonE ((cur ++ x) :: l)
  | [] => []
theorem wrd_nil (s : Str) : wrd [] s = wordsC s := by
  unfold wrd wordsC
  obtain ⟨x, l, h⟩ := splitC_ne 32 s
  rw [h]; rfl
theorem wrd_end (cur : Str) : wrd cur [] = nonE [cur] := by unfold wrd; simp [splitC]
theorem nonE_cons (x : Str) (l : List Str) : nonE (x :: l) = nonE [x] ++ nonE l := by unfold nonE; cases h : x.isEmpty <;> simp [h]
theorem wrd_sp (cur r : Str) : wrd cur (32 :: r) = nonE [cur] ++ wrd [] r := by
  obtain ⟨x, l, h⟩ := splitC_ne 32 r
  have e : splitC 32 (32 :: r) = [] :: x :: l := by rw [splitC_eq, h]
  unfold wrd
  rw [e, h]
  show nonE ((cur ++ []) :: x :: l) = nonE [cur] ++ nonE (([] ++ x) :: l)
  rw [List.append_nil, nonE_cons]
  rfl
theorem splitC_chunk {c : UInt8} : ∀ {k r x : Str} {l : List Str}, c ∉ k → splitC c r = x :: l → splitC c (k ++ r) = (k ++ x) :: l
  | [], _, _, _, _, h => h
  | b :: k, r, x, l, hk, h => by
    simp at hk
    rw [List.cons_append, splitC_cons (Ne.symm hk.1) (splitC_chunk hk.2 h)]; rfl
theorem wrd_chunk {k : Str} (cur r : Str) (hk : (32 : UInt8) ∉ k) : wrd cur (k ++ r) = wrd (cur ++ k) r := by
  obtain ⟨x, l, h⟩ := splitC_ne 32 r
  unfold wrd
  rw [splitC_chunk hk h, h]
  show nonE ((cur ++ (k ++ x)) :: l) = nonE ((cur ++ k ++ x) :: l)
  rw [List.append_assoc]
theorem getB {l : Str} {i : Nat} (h : i < l.length) : (strB l).get! i = l[i] := by
  show (strB l).data[i]! = _
  simp [strB, h]
/-- what a decoder does at a byte that is no space: no space in what it takes -/
theorem decode_ns {l : Str} {i : Nat} (h : i < l.length) : (l[i] = 32 → Utf8.decode (strB l) i = (32, 1)) ∧
    (l[i] ≠ 32 → (Utf8.decode (strB l) i).1 ≠ 32 ∧ 1 ≤ (Utf8.decode (strB l) i).2 ∧ i + (Utf8.decode (strB l) i).2 ≤ l.length ∧ ∀ k (hk : i + k < l.length), k < (Utf8.decode (strB l) i).2 → l[i + k] ≠ 32) := by
  have hz : (strB l).size = l.length := rfl
  have e0 : (strB l).get! (i + 0) = l[i] := getB h
  have hne : ∀ {u : UInt8}, u.toNat / 64 = 2 → u ≠ 32 := fun hu e => by subst e; exact absurd hu (by decide)
  constructor
  · intro h32
    unfold Utf8.decode
    simp only [e0, h32]
    rfl
  · intro h32
    have hb : l[i].toNat ≠ 32 := fun e => h32 (UInt8.toNat_inj.1 e)
    have d0 : ∀ (n : Nat), n = 1 → ∀ k (hk : i + k < l.length), k < n → l[i + k] ≠ 32 := by
      intro n hn k hk hkn
      have : k = 0 := by omega
      subst this
      exact h32
    have gt : ∀ k, (decide (i + k < (strB l).size) && ((strB l).get! (i + k)).toNat / 64 == 2) = true → ∃ hk : i + k < l.length, l[i + k] ≠ 32 := by
      intro k hk
      simp only [Bool.and_eq_true, decide_eq_true_eq, beq_iff_eq, hz] at hk
      refine ⟨hk.1, hne ?_⟩
      rw [← getB hk.1]; exact hk.2
    unfold Utf8.decode
    simp only [e0]
    split
    · exact ⟨hb, by simp, by simp; omega, d0 _ rfl⟩
    · split
      · rename_i hc
        simp only [Bool.and_eq_true] at hc
        obtain ⟨h1, n1⟩ := gt 1 (by simpa using hc.2)
        try dsimp only
        split
        · refine ⟨by dsimp only; omega, by simp, by simp; omega, fun k hk hkn => ?_⟩
          dsimp only at hkn
          obtain rfl | rfl : k = 0 ∨ k = 1 := by omega
          · exact h32
          · exact n1
        · exact ⟨by decide, by simp, by simp; omega, d0 _ rfl⟩
      · split
        · rename_i hc
          simp only [Bool.and_eq_true] at hc
          obtain ⟨h1, n1⟩ := gt 1 (by simpa using hc.1.2)
          obtain ⟨h2, n2⟩ := gt 2 (by simpa using hc.2)
          try dsimp only
          split
          · rename_i hv
            simp only [Bool.and_eq_true, decide_eq_true_eq] at hv
            refine ⟨by dsimp only; omega, by simp, by simp; omega, fun k hk hkn => ?_⟩
            dsimp only at hkn
            obtain rfl | rfl | rfl : k = 0 ∨ k = 1 ∨ k = 2 := by omega
            · exact h32
            · exact n1
            · exact n2
          · exact ⟨by decide, by simp, by simp; omega, d0 _ rfl⟩
        · split
          · rename_i hc
            simp only [Bool.and_eq_true] at hc
            obtain ⟨h1, n1⟩ := gt 1 (by simpa using hc.1.1.2)
            obtain ⟨h2, n2⟩ := gt 2 (by simpa using hc.1.2)
            obtain ⟨h3, n3⟩ := gt 3 (by simpa using hc.2)
            try dsimp only
            split
            · rename_i hv
              simp only [Bool.and_eq_true, decide_eq_true_eq] at hv
              refine ⟨by dsimp only; omega, by simp, by simp; omega, fun k hk hkn => ?_⟩
              dsimp only at hkn
              obtain rfl | rfl | rfl | rfl : k = 0 ∨ k = 1 ∨ k = 2 ∨ k = 3 := by omega
              · exact h32
              · exact n1
              · exact n2
              · exact n3
            · exact ⟨by decide, by simp, by simp; omega, d0 _ rfl⟩
          · exact ⟨by decide, by simp, by simp; omega, d0 _ rfl⟩
def curP (l : Str) (pos : Nat) : Option Nat → Str
  | none => []
  | some a => (l.drop a).take (pos - a)
def exP (l : Str) (x : Nat × Nat) : Str := ((strB l).extract x.1 x.2).data.toList
theorem exP_eq (l : Str) (a b : Nat) : exP l (a, b) = (l.drop a).take (b - a) := by
  unfold exP
  rw [Lib.extract_data]
  simp [strB]
theorem spans_eq (l : Str) : ∀ (f pos : Nat) (st : Option Nat) (acc : List (Nat × Nat)), l.length ≤ pos + f → pos ≤ l.length → (∀ a, st = some a → a < pos) →
    (Lib.closeSpans (strB l) (Lib.spansFromP sp32 (strB l) f pos st acc)).map (exP l) = acc.map (exP l) ++ wrd (curP l pos st) (l.drop pos) := by
  have fin : ∀ (pos : Nat) (st : Option Nat) (acc : List (Nat × Nat)), pos = l.length → (∀ a, st = some a → a < pos) → (Lib.closeSpans (strB l) (acc, st)).map (exP l) = acc.map (exP l) ++ wrd (curP l pos st) (l.drop pos) := by
    intro pos st acc hp hst
    subst hp
    rw [List.drop_length, wrd_end]
    cases st with
    | none => simp [Lib.closeSpans, curP, nonE]
    | some a =>
      have ha := hst a rfl
      have e : curP l l.length (some a) = l.drop a := by show (l.drop a).take (l.length - a) = _; rw [List.take_of_length_le (by simp)]
      rw [e]
      have hne : (l.drop a).isEmpty = false := by
        cases hd : l.drop a with
        | nil => have := congrArg List.length hd; simp at this; omega
        | cons x y => rfl
      have hz : (strB l).size = l.length := rfl
      simp [Lib.closeSpans, nonE, hne, exP_eq, hz, List.take_of_length_le]
  intro f
  induction f with
  | zero =>
    intro pos st acc h1 h2 h3
    unfold Lib.spansFromP
    exact fin pos st acc (by omega) h3
  | succ f ih =>
    intro pos st acc h1 h2 h3
    by_cases hlt : pos < l.length
    · have hz : pos < (strB l).size := hlt
      obtain ⟨d1, d2⟩ := decode_ns hlt
      have hdr : l.drop pos = l[pos] :: l.drop (pos + 1) := List.drop_eq_getElem_cons hlt
      unfold Lib.spansFromP
      rw [if_pos hz]
      by_cases h32 : l[pos] = 32
      · rw [d1 h32]
        rw [show sp32 (32, 1).1 = true by decide, if_pos rfl]
        dsimp only
        rw [hdr, h32, wrd_sp]
        cases st with
        | none =>
          dsimp only
          rw [ih (pos + 1) none acc (by omega) (by omega) (fun a h => by cases h)]
          simp [curP, nonE]
        | some a =>
          have ha := h3 a rfl
          dsimp only
          rw [ih (pos + 1) none (acc ++ [(a, pos)]) (by omega) (by omega) (fun a h => by cases h)]
          have hne : ((l.drop a).take (pos - a)).isEmpty = false := by
            cases hd : (l.drop a).take (pos - a) with
            | nil => have := congrArg List.length hd; simp at this; omega
            | cons x y => rfl
          simp [curP, nonE, exP_eq, hne]
      · obtain ⟨e1, e2, e3, e4⟩ := d2 h32
        generalize Utf8.decode (strB l) pos = d at e1 e2 e3 e4
        obtain ⟨r, n⟩ := d
        dsimp only at e1 e2 e3 e4
        have hsp : sp32 r = false := by unfold sp32; rw [decide_eq_false]; omega
        rw [hsp]
        simp only [Bool.false_eq_true, if_false]
        have hk : (32 : UInt8) ∉ (l.drop pos).take n := by
          intro hm
          obtain ⟨k, hk⟩ := List.mem_iff_getElem?.1 hm
          rw [List.getElem?_take] at hk
          split at hk
          · rename_i hkn
            rw [List.getElem?_drop] at hk
            have hkl := (List.getElem?_eq_some_iff.1 hk).1
            have hke := (List.getElem?_eq_some_iff.1 hk).2
            exact e4 k hkl hkn hke
          · cases hk
        have hsplit : l.drop pos = (l.drop pos).take n ++ l.drop (pos + n) := by
          rw [← List.drop_drop, List.take_append_drop]
        cases st with
        | none =>
          dsimp only
          rw [ih (pos + n) (some pos) acc (by omega) e3 (fun a h => by cases h; omega)]
          conv => rhs; rw [hsplit, wrd_chunk _ _ hk]
          congr 2
          simp [curP]
        | some a =>
          have ha := h3 a rfl
          dsimp only
          rw [ih (pos + n) (some a) acc (by omega) e3 (fun b h => by cases h; omega)]
          conv => rhs; rw [hsplit, wrd_chunk _ _ hk]
          congr 2
          show (l.drop a).take (pos + n - a) = (l.drop a).take (pos - a) ++ (l.drop pos).take n
          rw [show pos + n - a = (pos - a) + n by omega, List.take_add, List.drop_drop, show a + (pos - a) = pos by omega]
    · rw [Lib.spansFromP_end _ _ _ _ _ _ (by show ¬ pos < l.length; exact hlt)]
      exact fin pos st acc (by omega) h3
theorem goFields_eq (l : Str) : (Lib.goFieldsP sp32 (strB l)).map (fun b => b.data.toList) = wordsC l := by
  have h := spans_eq l l.length 0 none [] (by omega) (by omega) (fun a h => by cases h)
  rw [List.drop_zero] at h
  unfold Lib.goFieldsP Lib.spansOfP
  rw [List.map_map]
  rw [show ((fun b : ByteArray => b.data.toList) ∘ fun x : Nat × Nat => (strB l).extract x.1 x.2) = exP l from rfl]
  rw [show (strB l).size = l.length from rfl, h]
  simp [curP, wrd_nil]
end Go.Proofs.YtgbahimpdoahbaaGreatDoor

/- Commands: the plain functions; checking and printing, by the program and by the reference. -/
namespace Go.Proofs.YtgbahimpdoahbaaGreatDoor
open Go.RowKit
set_option linter.unusedVariables false
set_option maxHeartbeats 2000000
theorem and_some (a b : Bool) : (bif a then some b else some false : Option Bool) = some (a && b) := by cases a <;> rfl
theorem or_some (a b : Bool) : (bif a then some true else some b : Option Bool) = some (a || b) := by cases a <;> rfl
/-- the fields that a verb does not use are empty -/
def usedB (c : TCommand) : Bool := (c.Verb == 1 || c.Name == ([] : Str)) && (c.Verb == 2 || c.Verb == 3 || c.Address == ([] : Str)) && (c.Verb == 2 || c.Verb == 5 || c.Size == 0) && (c.Verb == 3 || c.Notify == 0) && (c.Verb == 5 || c.Last == false)
def cmdF (c : TCommand) : TFault :=
  bif decide (c.Verb < 1) || decide (8 < c.Verb) then ⟨4, -2⟩ else bif !usedB c then ⟨5, -3⟩ else bif c.Verb == 1 && !nameP c.Name then ⟨10, -4⟩ else
  bif (c.Verb == 3 || (c.Verb == 2 && c.Address != ([] : Str))) && !addrP c.Address then ⟨10, -5⟩ else bif decide (c.Size < 0) || decide (1000000 < c.Size) then ⟨3, -6⟩ else
  bif !noteP c.Notify then ⟨3, -7⟩ else ⟨0, 0⟩
theorem five (v : Int) : v = 1 ∨ v = 2 ∨ v = 3 ∨ v = 5 ∨ ((v == 1) = false ∧ (v == 2) = false ∧ (v == 3) = false ∧ (v == 5) = false) := by
  simp only [beq_eq_false_iff_ne]
  omega
theorem used_eq (c : TCommand) : ∃ u, command_used c = some u ∧ allEq [(c.Verb == u.Verb), (c.Name == u.Name), (c.Address == u.Address), (c.Size == u.Size), (c.Notify == u.Notify), (c.Last == u.Last)] = usedB c := by
  obtain ⟨v, n, a, s, o, l⟩ := c
  rcases five v with rfl | rfl | rfl | rfl | ⟨h1, h2, h3, h5⟩
  · exact ⟨⟨1, n, [], 0, 0, false⟩, rfl, by simp [allEq, usedB, Bool.and_assoc]⟩
  · exact ⟨⟨2, [], a, s, 0, false⟩, rfl, by simp [allEq, usedB, Bool.and_assoc]⟩
  · exact ⟨⟨3, [], a, 0, o, false⟩, rfl, by simp [allEq, usedB, Bool.and_assoc]⟩
  · exact ⟨⟨5, [], [], s, 0, l⟩, rfl, by simp [allEq, usedB, Bool.and_assoc]⟩
  · refine ⟨⟨v, [], [], 0, 0, false⟩, ?_, ?_⟩
    · unfold command_used
      dsimp only
      rw [h1, h2, h3, h5]; rfl
    · unfold usedB
      dsimp only
      rw [h1, h2, h3, h5]
      simp [allEq, Bool.and_assoc]
def smallC_ (c : TCommand) : Prop := c.Name.length ≤ 1048576 ∧ c.Address.length ≤ 1048576
theorem command_Validate_eq (c : TCommand) (h : smallC_ c) : command_Validate c = some (cmdF c) := by
  obtain ⟨u, hu, he⟩ := used_eq c
  unfold command_Validate cmdF
  rw [hu]
  simp only [Option.bind_some, he, basic_Name_eq _ h.1, envelope_Address_eq _ (show c.Address.length < 4294967281 by have := h.2; omega), envelope_Notify_eq, basic_Fault_eq, basic_None_eq, and_some, or_some]
  cases decide (c.Verb < 1) || decide (8 < c.Verb) with
  | true => rfl
  | false =>
    cases usedB c with
    | false => rfl
    | true =>
      cases c.Verb == 1 && !nameP c.Name with
      | true => rfl
      | false =>
        cases (c.Verb == 3 || (c.Verb == 2 && c.Address != ([] : Str))) && !addrP c.Address with
        | true => rfl
        | false =>
          cases decide (c.Size < 0) || decide (1000000 < c.Size) with
          | true => rfl
          | false => cases noteP c.Notify <;> rfl
theorem R_CommandFault_eq (c : TCommand) (h : smallC_ c) : R_CommandFault c = some (cmdF c) := by
  have hN := R_NameOk_eq _ h.1
  have hA := R_AddressOk_eq c.Address (by have := h.2; omega)
  unfold R_CommandFault cmdF
  rw [R_In_eq]
  have e1 : (!(decide (1 ≤ c.Verb) && decide (c.Verb ≤ 8))) = (decide (c.Verb < 1) || decide (8 < c.Verb)) := by
    rw [Bool.eq_iff_iff]; simp
  simp only [Option.bind_some, e1, R_At_eq]
  cases hv : decide (c.Verb < 1) || decide (8 < c.Verb) with
  | true => rfl
  | false =>
    simp only [cond_false, hN, hA, Option.bind_some, R_In_eq]
    obtain ⟨v, n, a, s, o, l⟩ := c
    dsimp only at *
    have en : (n != ([] : Str)) = !(n == ([] : Str)) := rfl
    have ea : (a != ([] : Str)) = !(a == ([] : Str)) := rfl
    have es : (s != (0 : Int)) = !(s == 0) := rfl
    have eo : (o != (0 : Int)) = !(o == 0) := rfl
    have e0 : (0 : Int) ≤ 1000000 := by omega
    have sz : (decide (0 ≤ s) && decide (s ≤ 1000000)) = !(decide (s < 0) || decide (1000000 < s)) := by rw [Bool.eq_iff_iff]; simp
    have sz0 : s = 0 → (decide (s < 0) || decide (1000000 < s)) = false := fun e => by subst e; rfl
    have no0 : o = 0 → noteP o = true := fun e => by subst e; rfl
    have nop : (decide (0 ≤ o) && decide (o ≤ 7)) = noteP o := rfl
    rw [en, ea, es, eo, sz, nop]
    unfold usedB
    dsimp only
    rcases five v with rfl | rfl | rfl | rfl | ⟨h1, h2, h3, h5⟩
    · simp only [show ((1 : Int) == 1) = true from rfl, show ((1 : Int) == 2) = false from rfl, show ((1 : Int) == 3) = false from rfl, show ((1 : Int) == 5) = false from rfl, show ((1 : Int) != 1) = false from rfl, show ((1 : Int) != 2) = true from rfl, show ((1 : Int) != 3) = true from rfl, show ((1 : Int) != 5) = true from rfl]
      cases a == ([] : Str) with
      | false => rfl
      | true =>
        cases hs : s == 0 with
        | false => rfl
        | true =>
          cases ho : o == 0 with
          | false => rfl
          | true =>
            rw [sz0 (by simpa using hs), no0 (by simpa using ho)]
            cases l <;> cases nameP n <;> rfl
    · simp only [show ((2 : Int) == 1) = false from rfl, show ((2 : Int) == 2) = true from rfl, show ((2 : Int) == 3) = false from rfl, show ((2 : Int) == 5) = false from rfl, show ((2 : Int) != 1) = true from rfl, show ((2 : Int) != 2) = false from rfl, show ((2 : Int) != 3) = true from rfl, show ((2 : Int) != 5) = true from rfl]
      cases n == ([] : Str) with
      | false => rfl
      | true =>
        cases ho : o == 0 with
        | false => rfl
        | true =>
          rw [no0 (by simpa using ho)]
          cases l <;> cases a == ([] : Str) <;> cases addrP a <;> cases (decide (s < 0) || decide (1000000 < s)) <;> rfl
    · simp only [show ((3 : Int) == 1) = false from rfl, show ((3 : Int) == 2) = false from rfl, show ((3 : Int) == 3) = true from rfl, show ((3 : Int) == 5) = false from rfl, show ((3 : Int) != 1) = true from rfl, show ((3 : Int) != 2) = true from rfl, show ((3 : Int) != 3) = false from rfl, show ((3 : Int) != 5) = true from rfl]
      cases n == ([] : Str) with
      | false => rfl
      | true =>
        cases hs : s == 0 with
        | false => rfl
        | true =>
          rw [sz0 (by simpa using hs)]
          cases l <;> cases addrP a <;> cases noteP o <;> rfl
    · simp only [show ((5 : Int) == 1) = false from rfl, show ((5 : Int) == 2) = false from rfl, show ((5 : Int) == 3) = false from rfl, show ((5 : Int) == 5) = true from rfl, show ((5 : Int) != 1) = true from rfl, show ((5 : Int) != 2) = true from rfl, show ((5 : Int) != 3) = true from rfl, show ((5 : Int) != 5) = false from rfl]
      cases n == ([] : Str) with
      | false => rfl
      | true =>
        cases a == ([] : Str) with
        | false => rfl
        | true =>
          cases ho : o == 0 with
          | false => rfl
          | true =>
            rw [no0 (by simpa using ho)]
            cases (decide (s < 0) || decide (1000000 < s)) <;> rfl
    · have n1 : (v != 1) = true := by unfold bne; rw [h1]; rfl
      have n2 : (v != 2) = true := by unfold bne; rw [h2]; rfl
      have n3 : (v != 3) = true := by unfold bne; rw [h3]; rfl
      have n5 : (v != 5) = true := by unfold bne; rw [h5]; rfl
      rw [h1, h2, h3, h5, n1, n2, n3, n5]
      cases n == ([] : Str) with
      | false => rfl
      | true =>
        cases a == ([] : Str) with
        | false => rfl
        | true =>
          cases hs : s == 0 with
          | false => rfl
          | true =>
            cases ho : o == 0 with
            | false => rfl
            | true =>
              rw [sz0 (by simpa using hs), no0 (by simpa using ho)]
              cases l <;> rfl
/-- what a valid command is like -/
structure CmdOk (c : TCommand) : Prop where
  verb : 1 ≤ c.Verb ∧ c.Verb ≤ 8
  used : usedB c = true
  name : c.Verb = 1 → nameP c.Name = true
  addr : c.Verb = 3 ∨ (c.Verb = 2 ∧ c.Address ≠ []) → addrP c.Address = true
  size : 0 ≤ c.Size ∧ c.Size ≤ 1000000
  note : 0 ≤ c.Notify ∧ c.Notify ≤ 7
theorem cmdF_ok {c : TCommand} (h : (cmdF c).Code = 0) : CmdOk c ∧ cmdF c = ⟨0, 0⟩ := by
  unfold cmdF at h ⊢
  cases h1 : decide (c.Verb < 1) || decide (8 < c.Verb) with
  | true => rw [h1] at h; exact absurd h (show (4 : Int) ≠ 0 by decide)
  | false =>
    rw [h1] at h
    cases h2 : usedB c with
    | false => rw [h2] at h; exact absurd h (show (5 : Int) ≠ 0 by decide)
    | true =>
      rw [h2] at h
      cases h3 : c.Verb == 1 && !nameP c.Name with
      | true => rw [h3] at h; exact absurd h (show (10 : Int) ≠ 0 by decide)
      | false =>
        rw [h3] at h
        cases h4 : (c.Verb == 3 || (c.Verb == 2 && c.Address != ([] : Str))) && !addrP c.Address with
        | true => rw [h4] at h; exact absurd h (show (10 : Int) ≠ 0 by decide)
        | false =>
          rw [h4] at h
          cases h5 : decide (c.Size < 0) || decide (1000000 < c.Size) with
          | true => rw [h5] at h; exact absurd h (show (3 : Int) ≠ 0 by decide)
          | false =>
            rw [h5] at h
            cases h6 : noteP c.Notify with
            | false => rw [h6] at h; exact absurd h (show (3 : Int) ≠ 0 by decide)
            | true =>
              simp only [Bool.or_eq_false_iff, decide_eq_false_iff_not] at h1 h5
              unfold noteP at h6
              simp only [Bool.and_eq_true, decide_eq_true_eq] at h6
              refine ⟨⟨by omega, h2, fun hv => ?_, fun hv => ?_, by omega, h6⟩, rfl⟩
              · rw [hv] at h3
                simpa using h3
              · cases ha : addrP c.Address with
                | true => rfl
                | false =>
                  rw [ha] at h4
                  rcases hv with hv | ⟨hv, hn⟩
                  · rw [hv] at h4; simp at h4
                  · rw [hv] at h4
                    simp at h4
                    exact absurd h4 hn
/-! ### printing -/
def wordL : List Str := [[104, 101, 108, 108, 111], [109, 97, 105, 108], [114, 99, 112, 116], [100, 97, 116, 97], [99, 104, 117, 110, 107], [114, 101, 115, 101, 116], [110, 111, 111, 112], [113, 117, 105, 116]]
def condL : List Str := [[110, 101, 118, 101, 114], [102, 97, 105, 108, 117, 114, 101], [100, 101, 108, 97, 121], [102, 97, 105, 108, 117, 114, 101, 44, 100, 101, 108, 97, 121], [115, 117, 99, 99, 101, 115, 115], [102, 97, 105, 108, 117, 114, 101, 44, 115, 117, 99, 99, 101, 115, 115], [100, 101, 108, 97, 121, 44, 115, 117, 99, 99, 101, 115, 115], [102, 97, 105, 108, 117, 114, 101, 44, 100, 101, 108, 97, 121, 44, 115, 117, 99, 99, 101, 115, 115]]
def wordT (v : Int) : Str := wordL.getD (v - 1).toNat []
def condT (n : Int) : Str := condL.getD n.toNat []
/-- the words of a command behind the first one -/
def argT (c : TCommand) : List Str :=
  if c.Verb = 1 then [c.Name] else if c.Verb = 2 then ([60] ++ c.Address ++ [62]) :: (if c.Size = 0 then [] else [[115, 105, 122, 101, 61] ++ Lib.decDigits c.Size.toNat]) else
  if c.Verb = 3 then ([60] ++ c.Address ++ [62]) :: (if c.Notify = 1 then [] else [[110, 111, 116, 105, 102, 121, 61] ++ condT c.Notify]) else
  if c.Verb = 5 then Lib.decDigits c.Size.toNat :: (if c.Last then [[108, 97, 115, 116]] else []) else []
def joinT (w : Str) (l : List Str) : Str := w ++ (l.map fun s => (32 : UInt8) :: s).flatten
def cmdT (c : TCommand) : Str := joinT (wordT c.Verb) (argT c)
def condsV : Tcommand_condition × Tcommand_condition × Tcommand_condition := ((Tcommand_condition.mk 1 (([102, 97, 105, 108, 117, 114, 101] : Str))), (Tcommand_condition.mk 2 (([100, 101, 108, 97, 121] : Str))), (Tcommand_condition.mk 4 (([115, 117, 99, 99, 101, 115, 115] : Str))))
instance : DecidableEq (Step (Int × List Str) (List Str)) := fun a b => match a, b with
  | .cont x, .cont y => decidable_of_iff (x = y) (by simp)
  | .out x, .out y => decidable_of_iff (x = y) (by simp)
  | .cont x, .out y => isFalse (by simp)
  | .out x, .cont y => isFalse (by simp)
def noteL (n : Nat) : List Str := (if n % 2 = 1 then [[102, 97, 105, 108, 117, 114, 101]] else []) ++ (if n / 2 % 2 = 1 then [[100, 101, 108, 97, 121]] else []) ++ (if n / 4 % 2 = 1 then [[115, 117, 99, 99, 101, 115, 115]] else [])
theorem note_iter : ∀ n : Fin 8, iterN (command_notify_l1 (n.val : Int) condsV) 4 (0, []) = some (noteL n.val) := by decide +kernel
theorem note_join : ∀ n : Fin 8, (if noteL n.val = [] then ([110, 101, 118, 101, 114] : Str) else Lib.join (noteL n.val) [44]) = condL.getD n.val [] ∧ (noteL n.val).length ≤ 3 ∧ (condL.getD n.val []).length ≤ 100 := by decide +kernel
theorem command_notify_eq {n : Int} (h : 0 ≤ n ∧ n ≤ 7) : command_notify n = some (condT n) := by
  have h1 := note_iter ⟨n.toNat, by omega⟩
  obtain ⟨h2, h3, h4⟩ := note_join ⟨n.toNat, by omega⟩
  dsimp only at h1 h2 h3 h4
  rw [show ((n.toNat : Nat) : Int) = n by omega] at h1
  unfold command_notify
  have hc : command_conditions = some condsV := rfl
  rw [hc]
  simp only [Option.bind_some]
  rw [iter_iff.2 ⟨4, h1⟩]
  simp only [Option.bind_some]
  unfold condT
  by_cases he : noteL n.toNat = []
  · rw [if_pos he] at h2
    rw [he, ← h2]
    rfl
  · rw [if_neg he] at h2
    have e : (((noteL n.toNat).length : Int) == 0) = false := by
      rw [beq_eq_false_iff_ne]
      have := List.length_pos_iff.2 he
      omega
    rw [e]
    simp only [cond_false]
    unfold strings_Join
    rw [if_pos ⟨by omega, by rw [h2]; omega⟩, h2]
    rfl
theorem condT_len {n : Int} (h : 0 ≤ n ∧ n ≤ 7) : (condT n).length ≤ 100 := (note_join ⟨n.toNat, by omega⟩).2.2
theorem wordT_fin : ∀ k : Fin 8, wordL[k.val]? = some (wordT ((k.val : Int) + 1)) ∧ (wordT ((k.val : Int) + 1)).length ≤ 5 := by decide
theorem word_idx {v : Int} (h : 1 ≤ v ∧ v ≤ 8) : idx wordL (w64 (v - 1)) = some (wordT v) ∧ (wordT v).length ≤ 5 := by
  have := wordT_fin ⟨(v - 1).toNat, by omega⟩
  dsimp only at this
  rw [show (((v - 1).toNat : Nat) : Int) + 1 = v by omega] at this
  rw [w64_id (by omega) (by omega), show v - 1 = (((v - 1).toNat : Nat) : Int) by omega, idx_nat]
  exact this
theorem command_words_eq : command_words = some (([104, 101, 108, 108, 111] : Str), ([109, 97, 105, 108] : Str), ([114, 99, 112, 116] : Str), ([100, 97, 116, 97] : Str), ([99, 104, 117, 110, 107] : Str), ([114, 101, 115, 101, 116] : Str), ([110, 111, 111, 112] : Str), ([113, 117, 105, 116] : Str)) := rfl
theorem addr_len {a : Str} (h : addrP a = true) : a.length ≤ 121 := by
  unfold addrP at h
  simp only [Bool.and_eq_true, decide_eq_true_eq] at h
  obtain ⟨⟨⟨⟨h1, h2⟩, h3⟩, h4⟩, h5⟩ := h
  unfold domP at h5
  simp only [Bool.and_eq_true, decide_eq_true_eq, List.length_drop] at h5
  omega
theorem verb_addr {c : TCommand} (ok : CmdOk c) : c.Address.length ≤ 121 := by
  by_cases h : c.Address = []
  · rw [h]; simp
  · refine addr_len (ok.addr ?_)
    have hu := ok.used
    unfold usedB at hu
    simp only [Bool.and_eq_true, Bool.or_eq_true, beq_iff_eq] at hu
    rcases hu.1.1.1.2 with (h2 | h2) | h2
    · exact .inr ⟨h2, h⟩
    · exact .inl h2
    · exact absurd h2 h
theorem command_Print_eq (c : TCommand) (h : smallC_ c) : command_Print c = some (bif (cmdF c).Code != 0 then ([], cmdF c) else (cmdT c, ⟨0, 0⟩)) := by
  unfold command_Print
  rw [command_Validate_eq c h, command_words_eq]
  simp only [Option.bind_some, basic_Failed_eq, basic_None_eq]
  cases hc : (cmdF c).Code != 0 with
  | true => rfl
  | false =>
    obtain ⟨ok, _⟩ := cmdF_ok (c := c) (by simpa using hc)
    obtain ⟨hw, hwl⟩ := word_idx ok.verb
    have hal := verb_addr ok
    have hs := ok.size
    simp only [cond_false]
    rw [show ([([104, 101, 108, 108, 111] : Str), ([109, 97, 105, 108] : Str), ([114, 99, 112, 116] : Str), ([100, 97, 116, 97] : Str), ([99, 104, 117, 110, 107] : Str), ([114, 101, 115, 101, 116] : Str), ([110, 111, 111, 112] : Str), ([113, 117, 105, 116] : Str)] : List Str) = wordL from rfl, hw]
    simp only [Option.bind_some]
    have hit : strconv_Itoa c.Size = some (Lib.decDigits c.Size.toNat) := by
      have := strconv_Itoa_eq c.Size.toNat (by omega)
      rw [show ((c.Size.toNat : Nat) : Int) = c.Size by omega] at this
      exact this
    have hdl := decD_len 6 c.Size.toNat (by omega)
    have hnt := condT_len ok.note
    unfold cmdT
    generalize hW : wordT c.Verb = W at hwl ⊢
    rcases five c.Verb with h1 | h1 | h1 | h1 | ⟨h1, h2, h3, h5⟩
    · have hn := ok.name h1
      have hnl := (nameP_len hn).2
      unfold argT
      rw [if_pos h1, h1]
      simp only [show ((1 : Int) == 1) = true from rfl, cond_true]
      rw [cat_ok (by simp; omega)]
      simp only [Option.bind_some]
      rw [cat_ok (by simp; omega)]
      simp [joinT]
    · unfold argT
      rw [if_neg (by omega), if_pos h1, h1]
      simp only [show ((2 : Int) == 1) = false from rfl, show ((2 : Int) == 2) = true from rfl, cond_true, cond_false]
      rw [cat_ok (by simp; omega)]
      simp only [Option.bind_some]
      rw [cat_ok (by simp; omega)]
      simp only [Option.bind_some]
      rw [cat_ok (by simp; omega)]
      simp only [Option.bind_some]
      by_cases hz : c.Size = 0
      · rw [if_pos hz, hz]
        simp [joinT]
      · have : (c.Size != 0) = true := by simpa using hz
        rw [if_neg hz, this, hit]
        simp only [cond_true, Option.bind_some]
        rw [cat_ok (by simp; omega)]
        simp only [Option.bind_some]
        rw [cat_ok (by simp; omega)]
        simp [joinT]
    · unfold argT
      rw [if_neg (by omega), if_neg (by omega), if_pos h1, h1]
      simp only [show ((3 : Int) == 1) = false from rfl, show ((3 : Int) == 2) = false from rfl, show ((3 : Int) == 3) = true from rfl, cond_true, cond_false]
      rw [cat_ok (by simp; omega)]
      simp only [Option.bind_some]
      rw [cat_ok (by simp; omega)]
      simp only [Option.bind_some]
      rw [cat_ok (by simp; omega)]
      simp only [Option.bind_some]
      by_cases hz : c.Notify = 1
      · rw [if_pos hz, hz]
        simp [joinT]
      · have : (c.Notify != 1) = true := by simpa using hz
        rw [if_neg hz, this, command_notify_eq ok.note]
        simp only [cond_true, Option.bind_some]
        rw [cat_ok (by simp; omega)]
        simp only [Option.bind_some]
        rw [cat_ok (by simp; omega)]
        simp [joinT]
    · unfold argT
      rw [if_neg (by omega), if_neg (by omega), if_neg (by omega), if_pos h1, h1]
      simp only [show ((5 : Int) == 1) = false from rfl, show ((5 : Int) == 2) = false from rfl, show ((5 : Int) == 3) = false from rfl, show ((5 : Int) == 5) = true from rfl, cond_true, cond_false, hit, Option.bind_some]
      rw [cat_ok (by simp; omega)]
      simp only [Option.bind_some]
      rw [cat_ok (by simp; omega)]
      simp only [Option.bind_some]
      cases c.Last with
      | true =>
        simp only [cond_true]
        rw [cat_ok (by simp; omega)]
        simp [joinT]
      | false => simp [joinT]
    · unfold argT
      rw [if_neg (by simpa using h1), if_neg (by simpa using h2), if_neg (by simpa using h3), if_neg (by simpa using h5), h1, h2, h3, h5]
      simp [joinT]
theorem R_verb_eq {v : Int} (h : 1 ≤ v ∧ v ≤ 8) : R_verb v = some (wordT v) := by
  unfold R_verb
  exact (congrArg (fun o : Option Str => o.bind fun v1 => some v1) (word_idx h).1)
theorem R_Conditions_fin : ∀ k : Fin 8, R_Conditions (k.val : Int) = some (condL.getD k.val []) := by decide
theorem R_Conditions_eq {n : Int} (h : 0 ≤ n ∧ n ≤ 7) : R_Conditions n = some (condT n) := by
  have := R_Conditions_fin ⟨n.toNat, by omega⟩
  dsimp only at this
  rw [show ((n.toNat : Nat) : Int) = n by omega] at this
  exact this
end Go.Proofs.YtgbahimpdoahbaaGreatDoor

/- Commands: reading, by the program. -/
namespace Go.Proofs.YtgbahimpdoahbaaGreatDoor
open Go.RowKit
set_option linter.unusedVariables false
set_option maxHeartbeats 2000000
/-- what stands between angle brackets -/
def angP : Str → Option Str
  | b :: r => if b = 60 ∧ r.getLast? = some 62 then some r.dropLast else none
  | [] => none
theorem suffix_one (c : UInt8) (v : Str) : Lib.hasSuffix v [c] = decide (v.getLast? = some c) := by
  unfold Lib.hasSuffix
  rw [Bool.eq_iff_iff, List.isSuffixOf_iff_suffix, decide_eq_true_eq]
  constructor
  · rintro ⟨t, rfl⟩
    simp
  · intro h
    have hne : v ≠ [] := by rintro rfl; cases h
    refine ⟨v.dropLast, ?_⟩
    have := List.dropLast_concat_getLast hne
    rw [List.getLast?_eq_some_getLast hne] at h
    rw [Option.some.inj h] at this
    exact this
theorem command_address_eq (a : Str) (ha : a.length ≤ 1048576) : ∃ x, command_address a = some (x, (angP a).isSome) ∧ ∀ y, angP a = some y → x = y := by
  unfold command_address strings_CutPrefix
  simp only [Option.bind_some]
  have hpre : ∀ (t : Str), Lib.hasPrefix (60 :: t) [60] = true := fun t => by simp [Lib.hasPrefix]
  cases a with
  | nil =>
    refine ⟨[], ?_, fun y h => by cases h⟩
    unfold strings_CutSuffix
    rfl
  | cons b r =>
    by_cases hb : b = 60
    · subst hb
      have h1 : Lib.trimPrefix (60 :: r) [60] = r := by unfold Lib.trimPrefix; rw [hpre]; rfl
      rw [h1, hpre]
      unfold strings_CutSuffix
      simp at ha
      have hsm : (angP (60 :: r)).isSome = decide (r.getLast? = some 62) := by
        unfold angP
        by_cases hl : r.getLast? = some 62 <;> simp [hl]
      rw [if_pos (by omega), suffix_one, hsm]
      simp only [Option.bind_some, cond_true]
      refine ⟨_, rfl, fun y hy => ?_⟩
      · unfold angP at hy
        by_cases hl : r.getLast? = some 62
        · simp only [hl, and_self, if_true, Option.some.injEq] at hy
          subst hy
          unfold Lib.trimSuffix
          rw [suffix_one, hl]
          simp [List.dropLast_eq_take]
        · simp [hl] at hy
    · have h1 : Lib.hasPrefix (b :: r) [60] = false := by
        simp [Lib.hasPrefix, List.isPrefixOf]
        exact fun h => hb h.symm
      have h2 : Lib.trimPrefix (b :: r) [60] = b :: r := by unfold Lib.trimPrefix; rw [h1]; rfl
      rw [h1, h2]
      unfold strings_CutSuffix
      rw [if_pos (by omega)]
      have h3 : angP (b :: r) = none := by unfold angP; simp [hb]
      exact ⟨_, by rw [h3]; rfl, fun y hy => by rw [h3] at hy; cases hy⟩
/-- what stands behind the word of an option -/
def optP (o n : Str) : Option Str := if (n ++ [61]).isPrefixOf (lowP o) then some ((lowP o).drop (n.length + 1)) else none
theorem command_option_eq (o n : Str) (ho : o.length ≤ 1048576) (hn : n.length ≤ 100) : ∃ x, command_option [o] n = some (x, (optP o n).isSome) ∧ (∀ y, optP o n = some y → x = y) ∧ x.length ≤ o.length := by
  have hll : (lowP o).length = o.length := by unfold lowP; simp
  unfold command_option
  have e1 : ((([o] : List Str).length : Int) != 1) = false := rfl
  have e2 : idx [o] 0 = some o := rfl
  rw [e1, e2]
  simp only [cond_false, Option.bind_some, basic_Lower_eq o ho]
  rw [cat_ok (by simp; omega)]
  unfold strings_CutPrefix
  simp only [Option.bind_some]
  unfold optP Lib.trimPrefix Lib.hasPrefix
  by_cases h : (n ++ [61]).isPrefixOf (lowP o) = true
  · rw [if_pos h]
    refine ⟨_, by rw [h]; rfl, fun y hy => ?_, by simp; omega⟩
    rw [if_pos h] at hy
    cases hy
    simp
  · have h0 : (n ++ [61]).isPrefixOf (lowP o) = false := by cases hb : (n ++ [61]).isPrefixOf (lowP o) with
      | true => exact absurd hb h
      | false => rfl
    refine ⟨lowP o, ?_, fun y hy => ?_, by omega⟩
    · rw [h0]; simp
    · rw [h0] at hy; simp at hy
/-- the conditions with a text -/
def toldP (s : Str) : Option Int := firstI (fun i w => if w == s then some ((i : Nat) : Int) else none) 0 condL
theorem command_told_eq (s : Str) (b : Bool) : command_told s b = some (match (if b then toldP s else none) with | some n => (n, true) | none => (0, false)) := by
  unfold command_told
  cases b with
  | false =>
    have hstep : ∀ i : Nat, i ≤ 8 → iter (command_told_l1 s false) (i : Int) = some (.inl ()) := by
      intro i hi
      have key : ∀ k i : Nat, i + k = 8 → iter (command_told_l1 s false) (i : Int) = some (.inl ()) := by
        intro k
        induction k with
        | zero =>
          intro i h
          refine iter_out ?_
          unfold command_told_l1
          rw [decide_eq_false (by omega)]; rfl
        | succ k ih =>
          intro i h
          have hs : command_told_l1 s false (i : Int) = some (.cont ((i + 1 : Nat) : Int)) := by
            unfold command_told_l1
            rw [decide_eq_true (by omega)]
            simp only [cond_true, cond_false, Option.bind_some, sc i (by omega)]
          rw [iter_cont hs]
          exact ih (i + 1) (by omega)
      exact key (8 - i) i (by omega)
    have := hstep 0 (by omega)
    rw [show (((0 : Nat)) : Int) = 0 from rfl] at this
    rw [this]; rfl
  | true =>
    have hl := iter_first condL (fun i w => if w == s then some (((i : Nat) : Int), true) else none) (Sum.inl ()) Sum.inr (body := command_told_l1 s true)
      (by unfold command_told_l1; rfl) (fun i w hw => by
        have hi := lt_get hw
        have h8 : condL.length = 8 := rfl
        have hc : condT (i : Int) = w := by
          unfold condT
          rw [Int.toNat_natCast, List.getD_eq_getElem?_getD, hw]; rfl
        unfold command_told_l1
        rw [decide_eq_true (by omega), command_notify_eq (by omega), hc]
        simp only [cond_true, Option.bind_some, sc i (by omega)]
        cases w == s <;> rfl)
    rw [hl]
    have hf : ∀ (l : List Str) (n : Nat), firstI (fun i w => if w == s then some (((i : Nat) : Int), true) else none) n l = (firstI (fun i w => if w == s then some ((i : Nat) : Int) else none) n l).map fun x => (x, true) := by
      intro l
      induction l with
      | nil => intro n; rfl
      | cons y l ih =>
        intro n
        unfold firstI
        cases hy : y == s with
        | true => simp
        | false => simp only [Bool.false_eq_true, if_false]; exact ih (n + 1)
    rw [hf]
    unfold toldP
    rw [if_pos rfl]
    cases firstI (fun i w => if w == s then some ((i : Nat) : Int) else none) 0 condL <;> rfl
def sizeW : Str := [115, 105, 122, 101]
def notW : Str := [110, 111, 116, 105, 102, 121]
def lastW : Str := [108, 97, 115, 116]
/-- the command that words behind the verb make -/
def argsP (v : Int) (l : List Str) : Option TCommand :=
  if v = 1 then (match l with | [n] => some ⟨1, n, [], 0, 0, false⟩ | _ => none)
  else if v = 2 then (match l with
    | [a] => (angP a).map fun x => ⟨2, [], x, 0, 0, false⟩
    | [a, o] => (angP a).bind fun x => (optP o sizeW).bind fun s => (numP s).map fun (m : Nat) => (⟨2, [], x, (m : Int), 0, false⟩ : TCommand)
    | _ => none)
  else if v = 3 then (match l with
    | [a] => (angP a).map fun x => ⟨3, [], x, 0, 1, false⟩
    | [a, o] => (angP a).bind fun x => (optP o notW).bind fun s => (toldP s).map fun m => ⟨3, [], x, 0, m, false⟩
    | _ => none)
  else if v = 5 then (match l with
    | [n] => (numP n).map fun (m : Nat) => (⟨5, [], [], (m : Int), 0, false⟩ : TCommand)
    | [n, x] => (numP n).bind fun m => if lowP x = lastW then some ⟨5, [], [], (m : Int), 0, true⟩ else none
    | _ => none)
  else (match l with | [] => some ⟨v, [], [], 0, 0, false⟩ | _ => none)
theorem ap2 (a : Str) : argsP 2 [a] = (angP a).map fun x => (⟨2, [], x, 0, 0, false⟩ : TCommand) := rfl
theorem ap22 (a o : Str) : argsP 2 [a, o] = (angP a).bind fun x => (optP o sizeW).bind fun s => (numP s).map fun (m : Nat) => (⟨2, [], x, (m : Int), 0, false⟩ : TCommand) := rfl
theorem ap3 (a : Str) : argsP 3 [a] = (angP a).map fun x => (⟨3, [], x, 0, 1, false⟩ : TCommand) := rfl
theorem ap33 (a o : Str) : argsP 3 [a, o] = (angP a).bind fun x => (optP o notW).bind fun s => (toldP s).map fun m => (⟨3, [], x, 0, m, false⟩ : TCommand) := rfl
theorem ap5 (n : Str) : argsP 5 [n] = (numP n).map fun (m : Nat) => (⟨5, [], [], (m : Int), 0, false⟩ : TCommand) := rfl
theorem ap55 (n x : Str) : argsP 5 [n, x] = (numP n).bind fun (m : Nat) => if lowP x = lastW then some (⟨5, [], [], (m : Int), 0, true⟩ : TCommand) else none := rfl
theorem len_in (l : List Str) (a b : Int) : (((bif decide (a ≤ (l.length : Int)) then some (decide ((l.length : Int) ≤ b)) else some false) : Option Bool)) = some (decide (a ≤ (l.length : Int)) && decide ((l.length : Int) ≤ b)) := and_some _ _
theorem command_read_eq (v : Int) (l : List Str) (hl : ∀ s ∈ l, s.length ≤ 1048576) (hv : v ≠ 4 → v ≠ 6 → v ≠ 7 → v ≠ 8 → v = 1 ∨ v = 2 ∨ v = 3 ∨ v = 5) :
    ∃ c, command_read v l = some (c, (argsP v l).isSome) ∧ ∀ y, argsP v l = some y → c = y := by
  have none3 : ∀ (a b c : Str) (r : List Str) (v : Int), argsP v (a :: b :: c :: r) = none := by
    intro a b c r v
    unfold argsP
    repeat' split <;> first | rfl | (rename_i h; cases h) | skip
  unfold command_read
  simp only [len_in, Option.bind_some]
  rcases five v with rfl | rfl | rfl | rfl | ⟨h1, h2, h3, h5⟩
  · simp only [show ((1 : Int) == 1) = true from rfl, cond_true]
    match l, hl with
    | [], _ => exact ⟨_, rfl, fun y h => by cases h⟩
    | [n], _ => exact ⟨_, rfl, fun y h => by cases h; rfl⟩
    | a :: b :: r, _ =>
      have e : (decide ((1 : Int) ≤ (((a :: b :: r).length : Nat) : Int)) && decide ((((a :: b :: r).length : Nat) : Int) ≤ 1)) = false := by simp; omega
      rw [e]
      exact ⟨_, rfl, fun y h => by cases h⟩
  · simp only [show ((2 : Int) == 1) = false from rfl, show ((2 : Int) == 2) = true from rfl, cond_true, cond_false]
    match l, hl with
    | [], _ => exact ⟨_, rfl, fun y h => by cases h⟩
    | [a], hl =>
      obtain ⟨x, hx, hy⟩ := command_address_eq a (hl a (by simp))
      have e2 : idx [a] 0 = some a := rfl
      have e4 : (((([a] : List Str).length : Nat) : Int) == 2) = false := rfl
      have e5 : (decide ((1 : Int) ≤ (((([a] : List Str).length : Nat) : Int))) && decide ((((([a] : List Str).length : Nat) : Int)) ≤ 2)) = true := rfl
      rw [e5, e2, e4]
      simp only [Option.bind_some, Bool.not_true, cond_false]
      rw [hx]
      refine ⟨⟨2, [], x, 0, 0, false⟩, ?_, fun y h => ?_⟩
      · rw [ap2]
        cases angP a <;> rfl
      · rw [ap2] at h
        cases ha : angP a with
        | none => rw [ha] at h; cases h
        | some z => rw [ha] at h; cases h; rw [hy z ha]
    | [a, o], hl =>
      obtain ⟨x, hx, hy⟩ := command_address_eq a (hl a (by simp))
      obtain ⟨z, hz, hzy, hzl⟩ := command_option_eq o sizeW (hl o (by simp)) (by decide)
      have e2 : idx [a, o] 0 = some a := rfl
      have e3 : cut [a, o] 1 ((([a, o] : List Str).length : Nat) : Int) = some [o] := rfl
      have e4 : (((([a, o] : List Str).length : Nat) : Int) == 2) = true := rfl
      have e5 : (decide ((1 : Int) ≤ (((([a, o] : List Str).length : Nat) : Int))) && decide ((((([a, o] : List Str).length : Nat) : Int)) ≤ 2)) = true := rfl
      have hz' : command_option [o] ([115, 105, 122, 101] : Str) = _ := hz
      rw [e5, e2, e4, e3]
      simp only [Option.bind_some, Bool.not_true, cond_false, cond_true]
      rw [hx]
      simp only [Option.bind_some]
      rw [hz']
      simp only [Option.bind_some, command_number_eq]
      cases hn : numP z with
      | none =>
        refine ⟨⟨2, [], x, 0, 0, false⟩, ?_, fun y h => ?_⟩
        · have : argsP 2 [a, o] = none := by
            rw [ap22]
            cases angP a with
            | none => rfl
            | some q =>
              cases ho : optP o sizeW with
              | none => simp [ho]
              | some w =>
                have := hzy w ho
                subst this
                simp [ho, hn]
          rw [this]
          cases (angP a).isSome <;> rfl
        · exfalso
          rw [ap22] at h
          cases ha : angP a with
          | none => rw [ha] at h; cases h
          | some q =>
            cases ho : optP o sizeW with
            | none => rw [ha] at h; simp [ho] at h
            | some w =>
              have := hzy w ho
              subst this
              rw [ha] at h
              simp [ho, hn] at h
      | some m =>
        refine ⟨⟨2, [], x, (m : Int), 0, false⟩, ?_, fun y h => ?_⟩
        · rw [ap22]
          cases ha : angP a with
          | none => rfl
          | some q =>
            cases ho : optP o sizeW with
            | none => simp [ho]; rfl
            | some w =>
              have := hzy w ho
              subst this
              simp [ho, hn]; rfl
        · rw [ap22] at h
          cases ha : angP a with
          | none => rw [ha] at h; cases h
          | some q =>
            cases ho : optP o sizeW with
            | none => rw [ha] at h; simp [ho] at h
            | some w =>
              have := hzy w ho
              subst this
              rw [ha] at h
              simp [ho, hn] at h
              rw [← h, hy q ha]
    | a :: b :: c :: r, _ =>
      have e : (decide ((1 : Int) ≤ (((a :: b :: c :: r).length : Nat) : Int)) && decide ((((a :: b :: c :: r).length : Nat) : Int) ≤ 2)) = false := by simp; omega
      rw [e, none3]
      exact ⟨_, rfl, fun y h => by cases h⟩
  · simp only [show ((3 : Int) == 1) = false from rfl, show ((3 : Int) == 2) = false from rfl, show ((3 : Int) == 3) = true from rfl, cond_true, cond_false]
    match l, hl with
    | [], _ => exact ⟨_, rfl, fun y h => by cases h⟩
    | [a], hl =>
      obtain ⟨x, hx, hy⟩ := command_address_eq a (hl a (by simp))
      have e2 : idx [a] 0 = some a := rfl
      have e4 : (((([a] : List Str).length : Nat) : Int) == 2) = false := rfl
      have e5 : (decide ((1 : Int) ≤ (((([a] : List Str).length : Nat) : Int))) && decide ((((([a] : List Str).length : Nat) : Int)) ≤ 2)) = true := rfl
      rw [e5, e2, e4]
      simp only [Option.bind_some, Bool.not_true, cond_false]
      rw [hx]
      refine ⟨⟨3, [], x, 0, 1, false⟩, ?_, fun y h => ?_⟩
      · rw [ap3]
        cases angP a <;> rfl
      · rw [ap3] at h
        cases ha : angP a with
        | none => rw [ha] at h; cases h
        | some z => rw [ha] at h; cases h; rw [hy z ha]
    | [a, o], hl =>
      obtain ⟨x, hx, hy⟩ := command_address_eq a (hl a (by simp))
      obtain ⟨z, hz, hzy, hzl⟩ := command_option_eq o notW (hl o (by simp)) (by decide)
      have e2 : idx [a, o] 0 = some a := rfl
      have e3 : cut [a, o] 1 ((([a, o] : List Str).length : Nat) : Int) = some [o] := rfl
      have e4 : (((([a, o] : List Str).length : Nat) : Int) == 2) = true := rfl
      have e5 : (decide ((1 : Int) ≤ (((([a, o] : List Str).length : Nat) : Int))) && decide ((((([a, o] : List Str).length : Nat) : Int)) ≤ 2)) = true := rfl
      have hz' : command_option [o] ([110, 111, 116, 105, 102, 121] : Str) = _ := hz
      rw [e5, e2, e4, e3]
      simp only [Option.bind_some, Bool.not_true, cond_false, cond_true]
      rw [hx]
      simp only [Option.bind_some]
      rw [hz']
      simp only [Option.bind_some, command_told_eq]
      cases ho : optP o notW with
      | none =>
        have h0 : argsP 3 [a, o] = none := by
          rw [ap33]
          cases angP a <;> simp [ho]
        rw [h0]
        refine ⟨⟨3, [], x, 0, 0, false⟩, ?_, fun y h => by cases h⟩
        cases (angP a).isSome <;> rfl
      | some w =>
        have := hzy w ho
        subst this
        simp only [Option.isSome_some, if_true]
        cases hn : toldP z with
        | none =>
          have h0 : argsP 3 [a, o] = none := by
            rw [ap33]
            cases angP a <;> simp [ho, hn]
          rw [h0]
          refine ⟨⟨3, [], x, 0, 0, false⟩, ?_, fun y h => by cases h⟩
          cases (angP a).isSome <;> rfl
        | some m =>
          refine ⟨⟨3, [], x, 0, m, false⟩, ?_, fun y h => ?_⟩
          · rw [ap33]
            cases ha : angP a with
            | none => rfl
            | some q => simp [ho, hn]; rfl
          · rw [ap33] at h
            cases ha : angP a with
            | none => rw [ha] at h; cases h
            | some q =>
              rw [ha] at h
              simp [ho, hn] at h
              rw [← h, hy q ha]
    | a :: b :: c :: r, _ =>
      have e : (decide ((1 : Int) ≤ (((a :: b :: c :: r).length : Nat) : Int)) && decide ((((a :: b :: c :: r).length : Nat) : Int) ≤ 2)) = false := by simp; omega
      rw [e, none3]
      exact ⟨_, rfl, fun y h => by cases h⟩
  · simp only [show ((5 : Int) == 1) = false from rfl, show ((5 : Int) == 2) = false from rfl, show ((5 : Int) == 3) = false from rfl, show ((5 : Int) == 5) = true from rfl, cond_true, cond_false]
    match l, hl with
    | [], _ => exact ⟨_, rfl, fun y h => by cases h⟩
    | [a], hl =>
      have e2 : idx [a] 0 = some a := rfl
      have e4 : (((([a] : List Str).length : Nat) : Int) == 2) = false := rfl
      have e5 : (decide ((1 : Int) ≤ (((([a] : List Str).length : Nat) : Int))) && decide ((((([a] : List Str).length : Nat) : Int)) ≤ 2)) = true := rfl
      rw [e5, e2, e4]
      simp only [Option.bind_some, Bool.not_true, Bool.not_false, cond_false, cond_true, command_number_eq]
      cases hn : numP a with
      | none =>
        have h0 : argsP 5 [a] = none := by
          rw [ap5]
          simp [hn]
        rw [h0]
        exact ⟨⟨5, [], [], 0, 0, false⟩, rfl, fun y h => by cases h⟩
      | some m =>
        have h0 : argsP 5 [a] = some ⟨5, [], [], (m : Int), 0, false⟩ := by
          rw [ap5]
          simp [hn]
        rw [h0]
        exact ⟨⟨5, [], [], (m : Int), 0, false⟩, rfl, fun y h => by cases h; rfl⟩
    | [a, x], hl =>
      have e2 : idx [a, x] 0 = some a := rfl
      have e3 : idx [a, x] 1 = some x := rfl
      have e4 : (((([a, x] : List Str).length : Nat) : Int) == 2) = true := rfl
      have e5 : (decide ((1 : Int) ≤ (((([a, x] : List Str).length : Nat) : Int))) && decide ((((([a, x] : List Str).length : Nat) : Int)) ≤ 2)) = true := rfl
      rw [e5, e2, e4, e3]
      simp only [Option.bind_some, Bool.not_true, cond_false, cond_true, command_number_eq, basic_Lower_eq x (hl x (by simp))]
      have hw : (lowP x == ([108, 97, 115, 116] : Str)) = decide (lowP x = lastW) := by rw [Bool.eq_iff_iff, beq_iff_eq, decide_eq_true_eq]; exact Iff.rfl
      rw [hw]
      cases hn : numP a with
      | none =>
        have h0 : argsP 5 [a, x] = none := by
          rw [ap55]
          simp [hn]
        rw [h0]
        exact ⟨⟨5, [], [], 0, 0, true⟩, rfl, fun y h => by cases h⟩
      | some m =>
        by_cases hx : lowP x = lastW
        · have h0 : argsP 5 [a, x] = some ⟨5, [], [], (m : Int), 0, true⟩ := by
            rw [ap55]
            simp [hn, hx]
          rw [h0, decide_eq_true hx]
          exact ⟨⟨5, [], [], (m : Int), 0, true⟩, rfl, fun y h => by cases h; rfl⟩
        · have h0 : argsP 5 [a, x] = none := by
            rw [ap55]
            simp [hn, hx]
          rw [h0, decide_eq_false hx]
          exact ⟨⟨5, [], [], (m : Int), 0, true⟩, rfl, fun y h => by cases h⟩
    | a :: b :: c :: r, _ =>
      have e : (decide ((1 : Int) ≤ (((a :: b :: c :: r).length : Nat) : Int)) && decide ((((a :: b :: c :: r).length : Nat) : Int) ≤ 2)) = false := by simp; omega
      rw [e, none3]
      exact ⟨_, rfl, fun y h => by cases h⟩
  · rw [h1, h2, h3, h5]
    simp only [cond_false]
    have n1 : v ≠ 1 := by simpa using h1
    have n2 : v ≠ 2 := by simpa using h2
    have n3 : v ≠ 3 := by simpa using h3
    have n5 : v ≠ 5 := by simpa using h5
    have hr : command_read_1 0 0 l = some l.isEmpty := by
      unfold command_read_1
      rw [len_in]
      cases l with
      | nil => rfl
      | cons a r =>
        simp only [Option.bind_some]
        have : (decide ((0 : Int) ≤ (((a :: r).length : Nat) : Int)) && decide ((((a :: r).length : Nat) : Int) ≤ 0)) = false := by simp
        rw [this]; rfl
    rw [hr]
    unfold argsP
    rw [if_neg n1, if_neg n2, if_neg n3, if_neg n5]
    cases l with
    | nil => exact ⟨_, rfl, fun y h => by cases h; rfl⟩
    | cons a r => exact ⟨_, rfl, fun y h => by cases h⟩
/-! ### the verb -/
def verbG (y : Str) : Int := wordL.zipIdx.foldl (fun (s : Int) p => if y == p.1 then ((p.2 + 1 : Nat) : Int) else s) 0
def verbP : List Str → Int
  | [] => 0
  | x :: _ => verbG (lowP x)
theorem verbG_cases (y : Str) : (verbG y = 0 ∧ y ∉ wordL) ∨ ∃ v : Int, 1 ≤ v ∧ v ≤ 8 ∧ verbG y = v ∧ y = wordT v := by
  by_cases h : y ∈ wordL
  · right
    have : ∀ z ∈ wordL, ∃ v : Fin 8, verbG z = (v.val : Int) + 1 ∧ z = wordT ((v.val : Int) + 1) := by decide
    obtain ⟨v, h1, h2⟩ := this y h
    exact ⟨(v.val : Int) + 1, by omega, by omega, h1, h2⟩
  · left
    refine ⟨?_, h⟩
    simp only [wordL, List.mem_cons, List.not_mem_nil, or_false, not_or] at h
    obtain ⟨a1, a2, a3, a4, a5, a6, a7, a8⟩ := h
    simp [verbG, wordL, List.zipIdx, a1, a2, a3, a4, a5, a6, a7, a8]
theorem command_Parse_loop (w : List Str) (hw : ∀ s ∈ w, s.length ≤ 1048576) : iter (command_Parse_l1 w (([104, 101, 108, 108, 111] : Str), ([109, 97, 105, 108] : Str), ([114, 99, 112, 116] : Str), ([100, 97, 116, 97] : Str), ([99, 104, 117, 110, 107] : Str), ([114, 101, 115, 101, 116] : Str), ([110, 111, 111, 112] : Str), ([113, 117, 105, 116] : Str))) (0, 0) = some (verbP w) := by
  obtain ⟨t, h1, h2, h3⟩ := iter_foldI wordL (fun i (s : Int) => (s, i)) (fun i s x => match w with | [] => s | y :: _ => if lowP y == x then ((i + 1 : Nat) : Int) else s) id (fun _ _ => True) (body := command_Parse_l1 w (([104, 101, 108, 108, 111] : Str), ([109, 97, 105, 108] : Str), ([114, 99, 112, 116] : Str), ([100, 97, 116, 97] : Str), ([99, 104, 117, 110, 107] : Str), ([114, 101, 115, 101, 116] : Str), ([110, 111, 111, 112] : Str), ([113, 117, 105, 116] : Str)))
    (fun s _ => by unfold command_Parse_l1; rfl) (fun i x s hx _ => by
      have hi := lt_get hx
      have h8 : wordL.length = 8 := rfl
      refine ⟨?_, trivial⟩
      unfold command_Parse_l1
      dsimp only
      rw [decide_eq_true (by omega), show ([([104, 101, 108, 108, 111] : Str), ([109, 97, 105, 108] : Str), ([114, 99, 112, 116] : Str), ([100, 97, 116, 97] : Str), ([99, 104, 117, 110, 107] : Str), ([114, 101, 115, 101, 116] : Str), ([110, 111, 111, 112] : Str), ([113, 117, 105, 116] : Str)] : List Str) = wordL from rfl, idx_get hx]
      simp only [cond_true, Option.bind_some, sc i (by omega)]
      cases w with
      | nil => rfl
      | cons y r =>
        have e1 : decide ((0 : Int) < (((y :: r).length : Nat) : Int)) = true := by simp
        have e2 : idx (y :: r) 0 = some y := rfl
        rw [e1, e2]
        simp only [cond_true, Option.bind_some, basic_Lower_eq y (hw y (by simp))]
        cases lowP y == x <;> rfl) 0 trivial
  rw [h1, h3]
  cases w with
  | nil => rfl
  | cons y r => rfl
/-! ### the whole line -/
def noC : TCommand := ⟨0, [], [], 0, 0, false⟩
def finP (c : TCommand) : TCommand × TFault := bif (cmdF c).Code != 0 then (noC, cmdF c) else (c, ⟨0, 0⟩)
def parseC (s : Str) : TCommand × TFault :=
  if 4000 < s.length then (noC, ⟨1, -1⟩) else if verbP (wordsC s) = 0 then (noC, ⟨18, -2⟩) else match argsP (verbP (wordsC s)) ((wordsC s).drop 1) with
    | none => (noC, ⟨11, -3⟩)
    | some c => finP c
theorem wordsC_len {s x : Str} (h : x ∈ wordsC s) : x.length ≤ s.length := splitC_mem (List.mem_filter.1 h).1
theorem angP_len {a y : Str} (h : angP a = some y) : y.length ≤ a.length := by
  unfold angP at h
  split at h
  · split at h
    · cases h; simp; omega
    · cases h
  · cases h
theorem argsP_small {v : Int} {l : List Str} {c : TCommand} (hl : ∀ s ∈ l, s.length ≤ 1048576) (h : argsP v l = some c) : smallC_ c := by
  unfold argsP at h
  have z : ([] : Str).length ≤ 1048576 := by decide
  split at h
  · split at h
    · cases h; exact ⟨hl _ (by simp), z⟩
    · cases h
  · split at h
    · split at h
      · rename_i a
        cases ha : angP a with
        | none => rw [ha] at h; cases h
        | some q => rw [ha] at h; cases h; exact ⟨z, Nat.le_trans (angP_len ha) (hl _ (by simp))⟩
      · rename_i a o
        cases ha : angP a with
        | none => rw [ha] at h; cases h
        | some q =>
          rw [ha] at h
          cases ho : optP o sizeW with
          | none => simp [ho] at h
          | some w =>
            cases hn : numP w with
            | none => simp [ho, hn] at h
            | some m => simp [ho, hn] at h; subst h; exact ⟨z, Nat.le_trans (angP_len ha) (hl _ (by simp))⟩
      · cases h
    · split at h
      · split at h
        · rename_i a
          cases ha : angP a with
          | none => rw [ha] at h; cases h
          | some q => rw [ha] at h; cases h; exact ⟨z, Nat.le_trans (angP_len ha) (hl _ (by simp))⟩
        · rename_i a o
          cases ha : angP a with
          | none => rw [ha] at h; cases h
          | some q =>
            rw [ha] at h
            cases ho : optP o notW with
            | none => simp [ho] at h
            | some w =>
              cases hn : toldP w with
              | none => simp [ho, hn] at h
              | some m => simp [ho, hn] at h; subst h; exact ⟨z, Nat.le_trans (angP_len ha) (hl _ (by simp))⟩
        · cases h
      · split at h
        · split at h
          · rename_i n
            cases hn : numP n with
            | none => simp [hn] at h
            | some m => simp [hn] at h; subst h; exact ⟨z, z⟩
          · rename_i n x
            cases hn : numP n with
            | none => simp [hn] at h
            | some m => simp [hn] at h; obtain ⟨_, rfl⟩ := h; exact ⟨z, z⟩
          · cases h
        · split at h
          · cases h; exact ⟨z, z⟩
          · cases h
theorem command_Parse_eq (s : Str) (hs : s.length ≤ 1048576) : command_Parse s = some (parseC s) := by
  unfold command_Parse parseC
  by_cases h4 : 4000 < s.length
  · rw [decide_eq_true (by omega), if_pos h4]; rfl
  · rw [decide_eq_false (by omega), if_neg h4]
    have hw : ∀ x ∈ wordsC s, x.length ≤ 1048576 := fun x hx => by have := wordsC_len hx; omega
    have hf : strings_FieldsFunc_sp s = some (wordsC s) := by
      unfold strings_FieldsFunc_sp
      rw [if_pos (by omega), goFields_eq]
    rw [hf, command_words_eq]
    simp only [cond_false, Option.bind_some, basic_Fault_eq, basic_None_eq, basic_Failed_eq]
    rw [command_Parse_loop _ hw]
    simp only [Option.bind_some]
    generalize wordsC s = w at hw ⊢
    cases w with
    | nil => rfl
    | cons y r =>
      have e : verbP (y :: r) = verbG (lowP y) := rfl
      rw [e]
      rcases verbG_cases (lowP y) with ⟨h0, _⟩ | ⟨v, h1, h8, hv, _⟩
      · rw [h0]; rfl
      · rw [hv]
        have e0 : (v == 0) = false := by rw [beq_eq_false_iff_ne]; omega
        rw [e0, if_neg (by omega)]
        have ec : cut (y :: r) 1 (((y :: r).length : Nat) : Int) = some r := by
          have := cut_nl (l := y :: r) (a := 1) (by simp)
          exact this
        rw [ec]
        simp only [cond_false, Option.bind_some, List.drop_succ_cons, List.drop_zero]
        have hr : ∀ x ∈ r, x.length ≤ 1048576 := fun x hx => hw x (by simp [hx])
        obtain ⟨c, h2, h3⟩ := command_read_eq v r hr (by omega)
        rw [h2]
        simp only [Option.bind_some]
        cases ha : argsP v r with
        | none => rfl
        | some z =>
          have := h3 z ha
          subst this
          have hsm := argsP_small hr ha
          simp only [Option.isSome_some, Bool.not_true, cond_false, command_Validate_eq c hsm, Option.bind_some]
          unfold finP
          cases hq : (cmdF c).Code != 0 with
          | true => rfl
          | false => rfl
end Go.Proofs.YtgbahimpdoahbaaGreatDoor

/- Commands: reading, by the reference. -/
namespace Go.Proofs.YtgbahimpdoahbaaGreatDoor
open Go.RowKit
set_option linter.unusedVariables false
set_option maxHeartbeats 2000000
theorem words_loop (s : Str) (hs : s.length ≤ 1048576) : ∀ (r p word : Str) (out : List Str), s = p ++ r → word.length ≤ p.length → out.length ≤ p.length → iter (R_Words_l1 s) (word, (p.length : Int), out) = some (out ++ wrd word r) := by
  intro r
  induction r with
  | nil =>
    intro p word out hp hw ho
    rw [List.append_nil] at hp
    subst hp
    have hb : R_Words_l1 s (word, (s.length : Int), out) = some (.cont ([], ((s.length + 1 : Nat) : Int), out ++ nonE [word])) := by
      unfold R_Words_l1
      dsimp only
      rw [decide_eq_true (by omega), dec_len]
      simp only [cond_true, cond_false, Option.bind_some]
      rw [sc s.length (by omega)]
      by_cases he : word = []
      · subst he
        simp [nonE]
      · have h1 : (word != ([] : Str)) = true := by simpa using he
        have h2 : nonE [word] = [word] := by
          cases word with
          | nil => exact absurd rfl he
          | cons b t => rfl
        rw [h1, h2, app_ok (by simp; omega)]
        rfl
    rw [iter_cont hb, wrd_end]
    refine iter_out ?_
    unfold R_Words_l1
    dsimp only
    rw [decide_eq_false (by omega)]
    rfl
  | cons b r ih =>
    intro p word out hp hw ho
    have hlen : s.length = p.length + (r.length + 1) := by rw [hp]; simp
    have hget : idx s (p.length : Int) = some b := by rw [hp]; exact idx_app p b r
    by_cases hb : b = 32
    · subst hb
      have hstep : R_Words_l1 s (word, (p.length : Int), out) = some (.cont ([], ((p.length + 1 : Nat) : Int), out ++ nonE [word])) := by
        unfold R_Words_l1
        dsimp only
        rw [decide_eq_true (by omega), decide_eq_true (by omega : (p.length : Int) < (s.length : Int)), hget]
        have e32 : (((32 : UInt8).toNat : Int) != 32) = false := rfl
        simp only [cond_true, Option.bind_some, e32, cond_false]
        rw [sc p.length (by omega)]
        by_cases he : word = []
        · subst he
          simp [nonE]
        · have h1 : (word != ([] : Str)) = true := by simpa using he
          have h2 : nonE [word] = [word] := by
            cases word with
            | nil => exact absurd rfl he
            | cons b t => rfl
          rw [h1, h2, app_ok (by simp; omega)]
          rfl
      rw [iter_cont hstep, wrd_sp, ← List.append_assoc]
      have h3 := ih (p ++ [32]) [] (out ++ nonE [word]) (by rw [hp]; simp) (by simp) (by
        have : (nonE [word]).length ≤ 1 := by unfold nonE; exact List.length_filter_le _ _
        simp; omega)
      simp only [List.length_append, List.length_cons, List.length_nil] at h3
      rw [show 0 + 1 = 1 from rfl] at h3
      exact h3
    · have hstep : R_Words_l1 s (word, (p.length : Int), out) = some (.cont (word ++ [b], ((p.length + 1 : Nat) : Int), out)) := by
        unfold R_Words_l1
        dsimp only
        have e32 : ((b.toNat : Int) != 32) = true := by
          have := u8_ne b 32 (by decide)
          rw [show ((b.toNat : Int) != 32) = (b != 32) from this]
          simpa using hb
        rw [decide_eq_true (by omega), decide_eq_true (by omega : (p.length : Int) < (s.length : Int)), hget]
        simp only [cond_true, Option.bind_some, e32]
        rw [sc p.length (by omega), cut_nn (by omega) (by omega)]
        have e : (s.drop p.length).take (p.length + 1 - p.length) = [b] := by rw [hp, show p.length + 1 - p.length = 1 by omega]; simp
        rw [e]
        simp only [Option.bind_some]
        rw [cat_ok (by simp; omega)]
        rfl
      rw [iter_cont hstep]
      have h3 := ih (p ++ [b]) (word ++ [b]) out (by rw [hp]; simp) (by simp; omega) (by simp; omega)
      simp only [List.length_append, List.length_cons, List.length_nil] at h3
      rw [show 0 + 1 = 1 from rfl] at h3
      rw [h3]
      have := wrd_chunk (k := [b]) word r (by simpa using fun h => hb h.symm)
      rw [← this]
      rfl
theorem R_Words_eq (s : Str) (hs : s.length ≤ 1048576) : R_Words s = some (wordsC s) := by
  have := words_loop s hs s [] [] [] rfl (by simp) (by simp)
  unfold R_Words
  rw [show (([] : Str), (0 : Int), ([] : List Str)) = (([] : Str), ((([] : Str).length : Nat) : Int), ([] : List Str)) from rfl, this, wrd_nil]
  rfl
theorem R_after_eq (o n : Str) (ho : o.length ≤ 1048576) (hn : n.length ≤ 100) : R_after o (n ++ [61]) = some (match optP o n with | some y => (y, true) | none => ([], false)) := by
  have hll : (lowP o).length = o.length := by unfold lowP; simp
  unfold R_after
  rw [R_Small_eq o ho]
  simp only [Option.bind_some]
  have hpre : ((n ++ [61]).isPrefixOf (lowP o)) = decide ((lowP o).take (n ++ [61]).length = n ++ [61]) := by
    rw [Bool.eq_iff_iff, List.isPrefixOf_iff_prefix, List.prefix_iff_eq_take, decide_eq_true_eq]
    exact eq_comm
  unfold optP
  rw [hpre]
  by_cases hlt : (lowP o).length < (n ++ [61]).length
  · rw [decide_eq_true (by omega)]
    have : ¬ (lowP o).take (n ++ [61]).length = n ++ [61] := by
      intro h
      have := congrArg List.length h
      rw [List.length_take] at this
      omega
    rw [decide_eq_false this]
    rfl
  · rw [decide_eq_false (by omega)]
    simp only [cond_false]
    rw [cut_0n (by omega)]
    simp only [Option.bind_some]
    by_cases h : (lowP o).take (n ++ [61]).length = n ++ [61]
    · have e : ((lowP o).take (n ++ [61]).length != n ++ [61]) = false := by rw [h]; simp
      rw [e, decide_eq_true h]
      simp only [cond_false]
      rw [cut_nl (by omega)]
      simp
    · have e : ((lowP o).take (n ++ [61]).length != n ++ [61]) = true := by simpa using h
      rw [e, decide_eq_false h]
      rfl
theorem cref_loop (w : List Str) (hw : ∀ s ∈ w, s.length ≤ 1048576) : iter (R_CommandOf_l1 w) (1, 0) = some (verbP w) := by
  cases w with
  | nil => exact iter_out (by unfold R_CommandOf_l1; rfl)
  | cons y r =>
    obtain ⟨t, h1, h2, h3⟩ := iter_foldI wordL (fun i (s : Int) => (i + 1, s)) (fun i s x => if lowP y == x then ((i + 1 : Nat) : Int) else s) id (fun _ _ => True) (body := R_CommandOf_l1 (y :: r))
      (fun s _ => by unfold R_CommandOf_l1; rfl) (fun i x s hx _ => by
        have hi := lt_get hx
        have h8 : wordL.length = 8 := rfl
        refine ⟨?_, trivial⟩
        unfold R_CommandOf_l1
        dsimp only
        have e1 : decide ((0 : Int) < (((y :: r).length : Nat) : Int)) = true := by simp
        have e2 : idx (y :: r) 0 = some y := rfl
        have e3 : wordT ((i : Int) + 1) = x := by
          unfold wordT
          rw [show ((i : Int) + 1 - 1).toNat = i by omega, List.getD_eq_getElem?_getD, hx]; rfl
        rw [decide_eq_true (by omega), e1, e2, R_verb_eq (by omega), e3]
        simp only [cond_true, Option.bind_some, R_Small_eq y (hw y (by simp))]
        rw [w64_id (by omega) (by omega)]
        cases lowP y == x with
        | true => simp
        | false => simp) 0 trivial
    rw [show ((1 : Int), (0 : Int)) = ((0 : Int) + 1, 0) from rfl]
    rw [h1, h3]
    rfl
theorem told_loop (s : Str) (b : Bool) (n0 : Int) : iter (R_CommandOf_l4 (s, b)) (false, 0, n0) = some (match (if b then toldP s else none) with | some n => (true, n) | none => (false, n0)) := by
  cases b with
  | false =>
    refine iter_out ?_
    unfold R_CommandOf_l4
    rfl
  | true =>
    obtain ⟨t, h1, h2, h3⟩ := iter_foldI condL (fun i (q : Bool × Int) => (q.1, i, q.2)) (fun i q x => if x == s then (true, (i : Int)) else q) id (fun _ _ => True) (body := R_CommandOf_l4 (s, true))
      (fun q _ => by unfold R_CommandOf_l4; rfl) (fun i x q hx _ => by
        have hi := lt_get hx
        have h8 : condL.length = 8 := rfl
        refine ⟨?_, trivial⟩
        have hc : condT (i : Int) = x := by
          unfold condT
          rw [Int.toNat_natCast, List.getD_eq_getElem?_getD, hx]; rfl
        unfold R_CommandOf_l4
        dsimp only
        rw [decide_eq_true (by omega), R_Conditions_eq (by omega), hc]
        simp only [cond_true, Option.bind_some, sc i (by omega)]
        cases x == s <;> rfl) (false, n0) trivial
    rw [h1, h3, if_pos rfl]
    have key : condL.zipIdx.foldl (fun (q : Bool × Int) p => if p.1 == s then (true, ((p.2 : Nat) : Int)) else q) (false, n0) = (match toldP s with | some n => (true, n) | none => (false, n0)) := by
      by_cases h : s ∈ condL
      · have : ∀ z ∈ condL, ∃ k : Fin 8, toldP z = some (k.val : Int) ∧ ∀ n : Int, condL.zipIdx.foldl (fun (q : Bool × Int) p => if p.1 == z then (true, ((p.2 : Nat) : Int)) else q) (false, n) = (true, (k.val : Int)) := by
          intro z hz
          simp only [condL, List.mem_cons, List.not_mem_nil, or_false] at hz
          rcases hz with rfl | rfl | rfl | rfl | rfl | rfl | rfl | rfl
          · exact ⟨0, rfl, fun n => rfl⟩
          · exact ⟨1, rfl, fun n => rfl⟩
          · exact ⟨2, rfl, fun n => rfl⟩
          · exact ⟨3, rfl, fun n => rfl⟩
          · exact ⟨4, rfl, fun n => rfl⟩
          · exact ⟨5, rfl, fun n => rfl⟩
          · exact ⟨6, rfl, fun n => rfl⟩
          · exact ⟨7, rfl, fun n => rfl⟩
        obtain ⟨k, h4, h5⟩ := this s h
        rw [h4, h5 n0]
      · have h6 : toldP s = none := by
          unfold toldP
          rw [firstI_none]
          intro i x hx
          have hne : (x == s) = false := by
            rw [beq_eq_false_iff_ne]
            rintro rfl
            exact h (List.mem_of_getElem? hx)
          simp [hne]
        rw [h6]
        simp only [condL, List.mem_cons, List.not_mem_nil, or_false, not_or] at h
        obtain ⟨a1, a2, a3, a4, a5, a6, a7, a8⟩ := h
        simp [condL, List.zipIdx, Ne.symm a1, Ne.symm a2, Ne.symm a3, Ne.symm a4, Ne.symm a5, Ne.symm a6, Ne.symm a7, Ne.symm a8]
    rw [key]
    rfl
theorem k3_eq (v : Int) (n a : Str) (z o : Int) (b : Bool) (h : smallC_ ⟨v, n, a, z, o, b⟩) : R_CommandOf_k3 v (n, a, 0) (z, o, b) = some (finP ⟨v, n, a, z, o, b⟩) := by
  unfold R_CommandOf_k3 finP
  rw [R_CommandFault_eq _ h]
  simp only [Option.bind_some]
  cases hc : (cmdF ⟨v, n, a, z, o, b⟩).Code != 0 with
  | true => rfl
  | false =>
    have := (cmdF_ok (c := ⟨v, n, a, z, o, b⟩) (by simpa using hc)).2
    rw [this]; rfl
theorem k3_any (v : Int) (n a : Str) (q z o : Int) (b : Bool) : R_CommandOf_k3 v (n, a, q) (z, o, b) = R_CommandOf_k3 v (n, a, 0) (z, o, b) := rfl
theorem angP_ref (a : Str) : (((bif decide ((a.length : Int) < 2) then some true else (idx a 0).bind fun v84 => (bif ((v84.toNat : Int) != 60) then some true else (idx a ((w64 ((a.length : Int) - 1)))).bind fun v89 => some (((v89.toNat : Int) != 62)))) : Option Bool)) = some (!(angP a).isSome) ∨ 4611686018427387904 ≤ a.length := by
  by_cases hbig : 4611686018427387904 ≤ a.length
  · exact .inr hbig
  · left
    match a with
    | [] => rfl
    | [b] =>
      have : angP [b] = none := by unfold angP; simp
      rw [this]; rfl
    | b :: c :: r =>
      have e1 : decide ((((b :: c :: r).length : Nat) : Int) < 2) = false := by simp; omega
      have e2 : idx (b :: c :: r) 0 = some b := rfl
      have e3 : idx (b :: c :: r) (w64 ((((b :: c :: r).length : Nat) : Int) - 1)) = (c :: r).getLast? := by
        have hl : (b :: c :: r).length = r.length + 2 := rfl
        rw [w64_id (by omega) (by omega), show (((b :: c :: r).length : Nat) : Int) - 1 = ((r.length + 1 : Nat) : Int) by omega, idx_nat]
        rw [List.getLast?_eq_getElem?]
        simp
      rw [e1, e2, e3]
      obtain ⟨w, e4⟩ : ∃ w, (c :: r).getLast? = some w := ⟨_, List.getLast?_eq_some_getLast (by simp)⟩
      rw [e4]
      simp only [cond_false, Option.bind_some]
      have e5 := u8_ne b 60 (by decide)
      have e6 := u8_ne w 62 (by decide)
      rw [show ((b.toNat : Int) != 60) = (b != 60) from e5, show ((w.toNat : Int) != 62) = (w != 62) from e6]
      have hap : angP (b :: c :: r) = if b = 60 ∧ (c :: r).getLast? = some 62 then some (c :: r).dropLast else none := rfl
      rw [hap, e4]
      by_cases h1 : b = 60
      · subst h1
        by_cases h2 : w = 62
        · simp [h2]
        · have h3 : (w != 62) = true := by simpa using h2
          rw [h3]
          simp [h2]
      · have h3 : (b != 60) = true := by simpa using h1
        rw [h3]
        simp [h1]
theorem angP_cut {a y : Str} (h : angP a = some y) (hl : a.length ≤ 1048576) : cut a 1 (w64 ((a.length : Int) - 1)) = some y := by
  unfold angP at h
  split at h
  · rename_i b r
    split at h
    · rename_i hb
      cases h
      have hr : r ≠ [] := by
        intro e; subst e; simp at hb
      have hp := List.length_pos_iff.2 hr
      have hl2 : (b :: r).length = r.length + 1 := rfl
      rw [w64_id (by omega) (by omega), show (((b :: r).length : Nat) : Int) - 1 = ((r.length : Nat) : Int) by omega]
      have := cut_nn (l := b :: r) (a := 1) (b := r.length) (by omega) (by simp)
      rw [show ((1 : Nat) : Int) = 1 from rfl] at this
      rw [this]
      simp [List.dropLast_eq_take]
    · cases h
  · cases h
def badC : TCommand × TFault := (noC, ⟨11, -3⟩)
theorem k2_two (v : Int) (a b : Str) (n ad : Str) (z : Int) (hn : n.length ≤ 1048576) (had : ad.length ≤ 1048576) (hb : b.length ≤ 1048576) :
    R_CommandOf_k2 v ⟨11, -3⟩ [a, b] (n, ad, z) = some (
      if v = 2 then (match (optP b sizeW).bind numP with | some m => finP ⟨2, n, ad, (m : Int), 0, false⟩ | none => badC)
      else if v = 3 then (match (optP b notW).bind toldP with | some m => finP ⟨3, n, ad, z, m, false⟩ | none => badC)
      else if v = 5 then (if lowP b = lastW then finP ⟨5, n, ad, z, 0, true⟩ else badC) else badC) := by
  have e4 : (((([a, b] : List Str).length : Nat) : Int) == 2) = true := rfl
  have e3 : idx [a, b] 1 = some b := rfl
  unfold R_CommandOf_k2
  rw [e4, e3]
  simp only [Option.bind_some, cond_true]
  rcases five v with rfl | rfl | rfl | rfl | ⟨h1, h2, h3, h5⟩
  · rw [if_neg (by omega), if_neg (by omega), if_neg (by omega)]
    rfl
  · rw [if_pos rfl]
    have ha := R_after_eq b sizeW hb (by decide)
    have ha' : R_after b ([115, 105, 122, 101, 61] : Str) = _ := ha
    simp only [show ((2 : Int) == 3) = false from rfl, show ((2 : Int) == 2) = true from rfl, cond_true, cond_false, Option.bind_some]
    rw [ha']
    simp only [Option.bind_some]
    cases ho : optP b sizeW with
    | none =>
      simp only [Option.bind_none]
      rw [R_Amount_eq [] (by decide)]
      rfl
    | some w =>
      have hwl : w.length ≤ 1048576 := by
        unfold optP at ho
        split at ho
        · cases ho
          have : (lowP b).length = b.length := by unfold lowP; simp
          simp; omega
        · cases ho
      simp only [Option.bind_some]
      rw [R_Amount_eq w hwl]
      cases hm : numP w with
      | none => rfl
      | some m =>
        simp only [Option.bind_some, cond_true]
        rw [decide_eq_true (by omega)]
        simp only [Bool.not_true, cond_false]
        rw [k3_any, k3_eq _ _ _ _ _ _ ⟨hn, had⟩]
  · rw [if_neg (by omega), if_pos rfl]
    have ha := R_after_eq b notW hb (by decide)
    have ha' : R_after b ([110, 111, 116, 105, 102, 121, 61] : Str) = _ := ha
    simp only [show ((3 : Int) == 3) = true from rfl, show ((3 : Int) == 2) = false from rfl, cond_true, cond_false, Option.bind_some]
    rw [ha']
    simp only [Option.bind_some]
    cases ho : optP b notW with
    | none =>
      simp only [Option.bind_none]
      rw [told_loop]
      rfl
    | some w =>
      simp only [Option.bind_some]
      rw [told_loop, if_pos rfl]
      cases hm : toldP w with
      | none => rfl
      | some m =>
        simp only [Option.bind_some, Bool.not_true, cond_false]
        rw [k3_any, k3_eq _ _ _ _ _ _ ⟨hn, had⟩]
  · rw [if_neg (by omega), if_neg (by omega), if_pos rfl]
    simp only [show ((5 : Int) == 3) = false from rfl, show ((5 : Int) == 2) = false from rfl, show ((5 : Int) == 5) = true from rfl, cond_true, cond_false, Option.bind_some, R_Small_eq b hb]
    have hw : (lowP b == ([108, 97, 115, 116] : Str)) = decide (lowP b = lastW) := by rw [Bool.eq_iff_iff, beq_iff_eq, decide_eq_true_eq]; exact Iff.rfl
    rw [hw]
    by_cases hl : lowP b = lastW
    · rw [decide_eq_true hl, if_pos hl]
      simp only [Bool.not_true, cond_false]
      rw [k3_any, k3_eq _ _ _ _ _ _ ⟨hn, had⟩]
    · rw [decide_eq_false hl, if_neg hl]
      rfl
  · rw [if_neg (by simpa using h2), if_neg (by simpa using h3), if_neg (by simpa using h5), h2, h3, h5]
    rfl
theorem k2_other (v : Int) (f : TFault) (l : List Str) (n ad : Str) (z : Int) (hl : l.length ≤ 1) (hn : n.length ≤ 1048576) (had : ad.length ≤ 1048576) :
    R_CommandOf_k2 v f l (n, ad, z) = some (finP ⟨v, n, ad, z, if v = 3 then 1 else 0, false⟩) := by
  have e4 : (((l.length : Nat) : Int) == 2) = false := by rw [beq_eq_false_iff_ne]; omega
  unfold R_CommandOf_k2
  rw [e4]
  by_cases h3 : v = 3
  · subst h3
    simp only [show ((3 : Int) == 3) = true from rfl, cond_true, cond_false, Option.bind_some, if_true]
    rw [k3_any, k3_eq _ _ _ _ _ _ ⟨hn, had⟩]
  · have : (v == 3) = false := by simpa using h3
    simp only [this, cond_false, Option.bind_some, if_neg h3]
    rw [k3_any, k3_eq _ _ _ _ _ _ ⟨hn, had⟩]
theorem R_CommandOf_eq (s : Str) (hs : s.length ≤ 1048576) : R_CommandOf s = some (parseC s) := by
  unfold R_CommandOf parseC
  by_cases h4 : 4000 < s.length
  · rw [decide_eq_true (by omega), if_pos h4]; rfl
  · rw [decide_eq_false (by omega), if_neg h4]
    have hw : ∀ x ∈ wordsC s, x.length ≤ 1048576 := fun x hx => by have := wordsC_len hx; omega
    rw [R_Words_eq s hs]
    simp only [cond_false, Option.bind_some, R_At_eq]
    rw [cref_loop _ hw]
    simp only [Option.bind_some]
    have hwl : (wordsC s).length ≤ 1048577 := by
      have h1 := splitC_total 32 s
      have h2 : (wordsC s).length ≤ (splitC 32 s).length := List.length_filter_le _ _
      omega
    generalize wordsC s = w at hw hwl ⊢
    cases w with
    | nil => rfl
    | cons y r =>
      have e : verbP (y :: r) = verbG (lowP y) := rfl
      rw [e]
      rcases verbG_cases (lowP y) with ⟨h0, _⟩ | ⟨v, h1, h8, hv, _⟩
      · rw [h0]; rfl
      · rw [hv]
        have e0 : (v == 0) = false := by rw [beq_eq_false_iff_ne]; omega
        rw [e0, if_neg (by omega)]
        have ec : cut (y :: r) 1 (((y :: r).length : Nat) : Int) = some r := by
          have := cut_nl (l := y :: r) (a := 1) (by simp)
          exact this
        rw [ec]
        simp only [cond_false, Option.bind_some, List.drop_succ_cons, List.drop_zero]
        have hr : ∀ x ∈ r, x.length ≤ 1048576 := fun x hx => hw x (by simp [hx])
        have hrl : r.length ≤ 1048576 := by simp at hwl; omega
        have z : ([] : Str).length ≤ 1048576 := by decide
        have low : ∀ (a b : Int), R_In (r.length : Int) a b = some (decide (a ≤ (r.length : Int)) && decide ((r.length : Int) ≤ b)) := fun a b => R_In_eq _ _ _
        have many3 : ∀ (a b c : Str) (t : List Str) (v : Int), argsP v (a :: b :: c :: t) = none := by
          intro a b c t v
          unfold argsP
          repeat' split <;> first | rfl | (rename_i h; cases h) | skip
        have lastCase : ∀ (t : List Str) (v : Int), (v = 4 ∨ v = 6 ∨ v = 7 ∨ v = 8) → argsP v t = (if t.isEmpty then some ⟨v, [], [], 0, 0, false⟩ else none) := by
          intro t v hv
          unfold argsP
          rw [if_neg (by omega), if_neg (by omega), if_neg (by omega), if_neg (by omega)]
          cases t <;> rfl
        have quiet : ∀ v : Int, (v = 4 ∨ v = 6 ∨ v = 7 ∨ v = 8) → ∀ (X : Option (TCommand × TFault)), (r = [] → X = R_CommandOf_k2 v ⟨11, -3⟩ r ([], [], 0)) →
            (bif !(decide ((0 : Int) ≤ (r.length : Int)) && decide ((r.length : Int) ≤ 0)) then some (noC, (⟨11, -3⟩ : TFault)) else X) = some (match argsP v r with | none => (noC, ⟨11, -3⟩) | some c => finP c) := by
          intro v hv X hX
          rw [lastCase r v hv]
          cases r with
          | nil =>
            rw [hX rfl, k2_other v _ [] [] [] 0 (by simp) z z, if_neg (by omega)]
            rfl
          | cons a t =>
            have e1 : (decide ((0 : Int) ≤ (((a :: t).length : Nat) : Int)) && decide ((((a :: t).length : Nat) : Int) ≤ 0)) = false := by simp
            rw [e1]
            rfl
        have bad : (⟨11, -3⟩ : TFault) = ⟨11, -3⟩ := rfl
        have hv8 : v = 1 ∨ v = 2 ∨ v = 3 ∨ v = 4 ∨ v = 5 ∨ v = 6 ∨ v = 7 ∨ v = 8 := by omega
        rcases hv8 with rfl | rfl | rfl | rfl | rfl | rfl | rfl | rfl
        · rw [show idx ([1, 1, 1, 0, 1, 0, 0, 0] : List Int) (w64 (1 - 1)) = some 1 from by decide, show idx ([1, 2, 2, 0, 2, 0, 0, 0] : List Int) (w64 (1 - 1)) = some 1 from by decide]
          simp only [Option.bind_some, low]
          match r, hr with
          | [], _ => rfl
          | [n], hr =>
            have e2 : idx [n] 0 = some n := rfl
            have e5 : (decide ((1 : Int) ≤ (((([n] : List Str).length : Nat) : Int))) && decide ((((([n] : List Str).length : Nat) : Int)) ≤ 1)) = true := rfl
            rw [e5, e2]
            simp only [Bool.not_true, cond_false, show ((1 : Int) == 1) = true from rfl, cond_true, Option.bind_some]
            rw [k2_other 1 _ [n] n [] 0 (by simp) (hr n (by simp)) z]
            rfl
          | a :: b :: t, _ =>
            have e1 : (decide ((1 : Int) ≤ (((a :: b :: t).length : Nat) : Int)) && decide ((((a :: b :: t).length : Nat) : Int) ≤ 1)) = false := by simp; omega
            rw [e1]
            rfl
        · rw [show idx ([1, 1, 1, 0, 1, 0, 0, 0] : List Int) (w64 (2 - 1)) = some 1 from by decide, show idx ([1, 2, 2, 0, 2, 0, 0, 0] : List Int) (w64 (2 - 1)) = some 2 from by decide]
          simp only [Option.bind_some, low]
          match r, hr with
          | [], _ => rfl
          | [a], hr =>
            have e2 : idx [a] 0 = some a := rfl
            have e5 : (decide ((1 : Int) ≤ (((([a] : List Str).length : Nat) : Int))) && decide ((((([a] : List Str).length : Nat) : Int)) ≤ 2)) = true := rfl
            have hal := hr a (by simp)
            rw [e5, e2, ap2]
            simp only [Bool.not_true, cond_false, show ((2 : Int) == 1) = false from rfl, show ((2 : Int) == 2) = true from rfl, cond_true, Option.bind_some]
            rcases angP_ref a with ha | ha
            · rw [ha]
              cases hp : angP a with
              | none => rfl
              | some q =>
                simp only [Option.isSome_some, Bool.not_true, cond_false, Option.bind_some, angP_cut hp hal]
                rw [k2_other 2 _ [a] [] q 0 (by simp) z (Nat.le_trans (angP_len hp) hal)]
                rfl
            · omega
          | [a, o], hr =>
            have e2 : idx [a, o] 0 = some a := rfl
            have e5 : (decide ((1 : Int) ≤ (((([a, o] : List Str).length : Nat) : Int))) && decide ((((([a, o] : List Str).length : Nat) : Int)) ≤ 2)) = true := rfl
            have hal := hr a (by simp)
            rw [e5, e2, ap22]
            simp only [Bool.not_true, cond_false, show ((2 : Int) == 1) = false from rfl, show ((2 : Int) == 2) = true from rfl, cond_true, Option.bind_some]
            rcases angP_ref a with ha | ha
            · rw [ha]
              cases hp : angP a with
              | none => rfl
              | some q =>
                simp only [Option.isSome_some, Bool.not_true, cond_false, Option.bind_some, angP_cut hp hal]
                rw [k2_two 2 a o [] q 0 z (Nat.le_trans (angP_len hp) hal) (hr o (by simp)), if_pos rfl]
                cases optP o sizeW with
                | none => rfl
                | some w =>
                  simp only [Option.bind_some]
                  cases numP w <;> rfl
            · omega
          | a :: b :: c :: t, _ =>
            have e1 : (decide ((1 : Int) ≤ (((a :: b :: c :: t).length : Nat) : Int)) && decide ((((a :: b :: c :: t).length : Nat) : Int) ≤ 2)) = false := by simp; omega
            rw [e1, many3]
            rfl
        · rw [show idx ([1, 1, 1, 0, 1, 0, 0, 0] : List Int) (w64 (3 - 1)) = some 1 from by decide, show idx ([1, 2, 2, 0, 2, 0, 0, 0] : List Int) (w64 (3 - 1)) = some 2 from by decide]
          simp only [Option.bind_some, low]
          match r, hr with
          | [], _ => rfl
          | [a], hr =>
            have e2 : idx [a] 0 = some a := rfl
            have e5 : (decide ((1 : Int) ≤ (((([a] : List Str).length : Nat) : Int))) && decide ((((([a] : List Str).length : Nat) : Int)) ≤ 2)) = true := rfl
            have hal := hr a (by simp)
            rw [e5, e2, ap3]
            simp only [Bool.not_true, cond_false, show ((3 : Int) == 1) = false from rfl, show ((3 : Int) == 2) = false from rfl, show ((3 : Int) == 3) = true from rfl, cond_true, Option.bind_some]
            rcases angP_ref a with ha | ha
            · rw [ha]
              cases hp : angP a with
              | none => rfl
              | some q =>
                simp only [Option.isSome_some, Bool.not_true, cond_false, Option.bind_some, angP_cut hp hal]
                rw [k2_other 3 _ [a] [] q 0 (by simp) z (Nat.le_trans (angP_len hp) hal)]
                rfl
            · omega
          | [a, o], hr =>
            have e2 : idx [a, o] 0 = some a := rfl
            have e5 : (decide ((1 : Int) ≤ (((([a, o] : List Str).length : Nat) : Int))) && decide ((((([a, o] : List Str).length : Nat) : Int)) ≤ 2)) = true := rfl
            have hal := hr a (by simp)
            rw [e5, e2, ap33]
            simp only [Bool.not_true, cond_false, show ((3 : Int) == 1) = false from rfl, show ((3 : Int) == 2) = false from rfl, show ((3 : Int) == 3) = true from rfl, cond_true, Option.bind_some]
            rcases angP_ref a with ha | ha
            · rw [ha]
              cases hp : angP a with
              | none => rfl
              | some q =>
                simp only [Option.isSome_some, Bool.not_true, cond_false, Option.bind_some, angP_cut hp hal]
                rw [k2_two 3 a o [] q 0 z (Nat.le_trans (angP_len hp) hal) (hr o (by simp)), if_neg (by omega), if_pos rfl]
                cases optP o notW with
                | none => rfl
                | some w =>
                  simp only [Option.bind_some]
                  cases toldP w <;> rfl
            · omega
          | a :: b :: c :: t, _ =>
            have e1 : (decide ((1 : Int) ≤ (((a :: b :: c :: t).length : Nat) : Int)) && decide ((((a :: b :: c :: t).length : Nat) : Int) ≤ 2)) = false := by simp; omega
            rw [e1, many3]
            rfl
        · rw [show idx ([1, 1, 1, 0, 1, 0, 0, 0] : List Int) (w64 (4 - 1)) = some 0 from by decide, show idx ([1, 2, 2, 0, 2, 0, 0, 0] : List Int) (w64 (4 - 1)) = some 0 from by decide]
          simp only [Option.bind_some, low]
          exact quiet 4 (by omega) _ (fun _ => rfl)
        · rw [show idx ([1, 1, 1, 0, 1, 0, 0, 0] : List Int) (w64 (5 - 1)) = some 1 from by decide, show idx ([1, 2, 2, 0, 2, 0, 0, 0] : List Int) (w64 (5 - 1)) = some 2 from by decide]
          simp only [Option.bind_some, low]
          match r, hr with
          | [], _ => rfl
          | [a], hr =>
            have e2 : idx [a] 0 = some a := rfl
            have e5 : (decide ((1 : Int) ≤ (((([a] : List Str).length : Nat) : Int))) && decide ((((([a] : List Str).length : Nat) : Int)) ≤ 2)) = true := rfl
            have hal := hr a (by simp)
            rw [e5, e2, ap5]
            simp only [Bool.not_true, cond_false, show ((5 : Int) == 1) = false from rfl, show ((5 : Int) == 2) = false from rfl, show ((5 : Int) == 3) = false from rfl, show ((5 : Int) == 5) = true from rfl, cond_true, Option.bind_some, R_Amount_eq a hal]
            cases hn : numP a with
            | none => rfl
            | some m =>
              have hm0 : ¬ ((m : Nat) : Int) < 0 := by omega
              dsimp only
              rw [decide_eq_false hm0]
              simp only [cond_false]
              rw [k2_other 5 _ [a] [] [] _ (by simp) z z]
              rfl
          | [a, o], hr =>
            have e2 : idx [a, o] 0 = some a := rfl
            have e5 : (decide ((1 : Int) ≤ (((([a, o] : List Str).length : Nat) : Int))) && decide ((((([a, o] : List Str).length : Nat) : Int)) ≤ 2)) = true := rfl
            have hal := hr a (by simp)
            rw [e5, e2, ap55]
            simp only [Bool.not_true, cond_false, show ((5 : Int) == 1) = false from rfl, show ((5 : Int) == 2) = false from rfl, show ((5 : Int) == 3) = false from rfl, show ((5 : Int) == 5) = true from rfl, cond_true, Option.bind_some, R_Amount_eq a hal]
            cases hn : numP a with
            | none => rfl
            | some m =>
              have hm0 : ¬ ((m : Nat) : Int) < 0 := by omega
              dsimp only
              rw [decide_eq_false hm0]
              simp only [cond_false]
              rw [k2_two 5 a o [] [] _ z z (hr o (by simp)), if_neg (by omega), if_neg (by omega), if_pos rfl]
              simp only [Option.bind_some]
              by_cases hx : lowP o = lastW
              · rw [if_pos hx, if_pos hx]
              · rw [if_neg hx, if_neg hx]; rfl
          | a :: b :: c :: t, _ =>
            have e1 : (decide ((1 : Int) ≤ (((a :: b :: c :: t).length : Nat) : Int)) && decide ((((a :: b :: c :: t).length : Nat) : Int) ≤ 2)) = false := by simp; omega
            rw [e1, many3]
            rfl
        · rw [show idx ([1, 1, 1, 0, 1, 0, 0, 0] : List Int) (w64 (6 - 1)) = some 0 from by decide, show idx ([1, 2, 2, 0, 2, 0, 0, 0] : List Int) (w64 (6 - 1)) = some 0 from by decide]
          simp only [Option.bind_some, low]
          exact quiet 6 (by omega) _ (fun _ => rfl)
        · rw [show idx ([1, 1, 1, 0, 1, 0, 0, 0] : List Int) (w64 (7 - 1)) = some 0 from by decide, show idx ([1, 2, 2, 0, 2, 0, 0, 0] : List Int) (w64 (7 - 1)) = some 0 from by decide]
          simp only [Option.bind_some, low]
          exact quiet 7 (by omega) _ (fun _ => rfl)
        · rw [show idx ([1, 1, 1, 0, 1, 0, 0, 0] : List Int) (w64 (8 - 1)) = some 0 from by decide, show idx ([1, 2, 2, 0, 2, 0, 0, 0] : List Int) (w64 (8 - 1)) = some 0 from by decide]
          simp only [Option.bind_some, low]
          exact quiet 8 (by omega) _ (fun _ => rfl)
end Go.Proofs.YtgbahimpdoahbaaGreatDoor

/- Commands: the closed example of the laws. -/
namespace Go.Proofs.YtgbahimpdoahbaaGreatDoor
open Go.RowKit
set_option linter.unusedVariables false
set_option maxHeartbeats 2000000
theorem numP_10 : numP [49, 48] = some 10 := by
  have h := numP_dec (m := 10) (by omega)
  rw [decD_big (by omega), decD_small (show 10 / 10 < 10 by omega), decD_small (show 10 % 10 < 10 by omega)] at h
  exact h
theorem dec_10 : Lib.decDigits 10 = [49, 48] := by
  rw [decD_big (by omega), decD_small (show 10 / 10 < 10 by omega), decD_small (show 10 % 10 < 10 by omega)]
  rfl
def exC : TCommand := ⟨2, [], [97, 64, 98], 10, 0, false⟩
theorem ex_parse : parseC [77, 65, 73, 76, 32, 32, 60, 97, 64, 98, 62, 32, 115, 105, 122, 101, 61, 49, 48] = (exC, ⟨0, 0⟩) := by
  have hw : wordsC [77, 65, 73, 76, 32, 32, 60, 97, 64, 98, 62, 32, 115, 105, 122, 101, 61, 49, 48] = [[77, 65, 73, 76], [60, 97, 64, 98, 62], [115, 105, 122, 101, 61, 49, 48]] := by decide
  unfold parseC
  rw [hw, if_neg (by decide)]
  have hv : verbP [[77, 65, 73, 76], [60, 97, 64, 98, 62], [115, 105, 122, 101, 61, 49, 48]] = 2 := by decide
  rw [hv, if_neg (by omega)]
  simp only [List.drop_succ_cons, List.drop_zero]
  rw [ap22]
  have h1 : angP [60, 97, 64, 98, 62] = some [97, 64, 98] := by decide
  have h2 : optP [115, 105, 122, 101, 61, 49, 48] sizeW = some [49, 48] := by decide
  rw [h1]
  simp only [Option.bind_some]
  rw [h2]
  simp only [Option.bind_some]
  rw [numP_10]
  show finP exC = _
  kernel_rfl
theorem ex_bad : parseC [109, 97, 105, 108, 32, 97, 64, 98] = (noC, ⟨11, -3⟩) := by
  have hw : wordsC [109, 97, 105, 108, 32, 97, 64, 98] = [[109, 97, 105, 108], [97, 64, 98]] := by decide
  unfold parseC
  rw [hw, if_neg (by decide)]
  have hv : verbP [[109, 97, 105, 108], [97, 64, 98]] = 2 := by decide
  rw [hv, if_neg (by omega)]
  rfl
theorem L_commands_eq : L_commands = some true := by
  unfold L_commands
  rw [command_Parse_eq _ (by decide), ex_parse, command_Print_eq _ ⟨by decide, by decide⟩, command_Parse_eq _ (by decide), ex_bad, command_Validate_eq _ ⟨by decide, by decide⟩]
  have h1 : cmdF ⟨2, [], [97, 64, 98], 10, 0, false⟩ = ⟨0, 0⟩ := by kernel_rfl
  have h2 : cmdT ⟨2, [], [97, 64, 98], 10, 0, false⟩ = [109, 97, 105, 108, 32, 60, 97, 64, 98, 62, 32, 115, 105, 122, 101, 61, 49, 48] := by
    unfold cmdT argT
    simp only [Int.reduceEq, if_true, if_false]
    rw [show ((10 : Int)).toNat = 10 from rfl, dec_10]
    rfl
  have h3 : cmdF ⟨0, [], [], 0, 0, false⟩ = ⟨4, -2⟩ := by kernel_rfl
  rw [h1, h2, h3]
  rfl
end Go.Proofs.YtgbahimpdoahbaaGreatDoor

/- The law CommandParseMatchesSpec in plain Lean. -/
namespace Go.Proofs.YtgbahimpdoahbaaGreatDoor
open Go.RowKit
set_option linter.unusedVariables false
theorem L_CommandParseMatchesSpec_true (a0 : Str) (o0 : okStr a0) (hk : (fun s => s.length + 1) a0 ≤ 1048576) : L_CommandParseMatchesSpec a0 = some true := by
  dsimp only at hk
  unfold L_CommandParseMatchesSpec
  rw [command_Parse_eq _ (by omega), R_CommandOf_eq _ (by omega), L_commands_eq]
  simp [allEq]
end Go.Proofs.YtgbahimpdoahbaaGreatDoor

namespace Go.Proofs.YtgbahimpdoahbaaGreatDoor
open Go.RowKit
set_option maxRecDepth 100000
set_option maxHeartbeats 40000000
set_option linter.unusedVariables false
theorem R_At_run (a0 : Int) (a1 : Int) (r : TFault) (hr : R_At a0 a1 = some r) : Run Tryz.prog 13 [.i a0, .i a1] (.agg [.i r.Code, .i r.Index]) := by
 unfold R_At at hr
 refine rf (fn := Tryz.f13) ⟨Tryz.func13, rfl, by kernel_rfl⟩ rfl (fun _ => rfl) fun g0 hg => ?_
 refine rn tk 14 rfl ?_
 cases hr
 exact kr tk (.inr rfl) rfl rfl
end Go.Proofs.YtgbahimpdoahbaaGreatDoor

/- Library functions compute what their Lean functions do: texts divided at spaces. -/
namespace Go.Proofs.YtgbahimpdoahbaaGreatDoor
open Go.RowKit Go.Lib
set_option maxRecDepth 100000
theorem ff_pred (w : World) : PredAt Tryz.prog 30 #[] encR sp32 w := fun W r _ => by
  unfold FnGives
  go_enter Tryz.func30, Tryz.ntmps30
  go_wp2
  go_ret
  exact ⟨rfl, 0, rfl⟩
theorem str_argF {g : G} {s : Str} {v : Value} (h : Rel g (.s s) v) : v = .string (strB s) := rel_b h
theorem old_belowU {g : G} {w' : World} {A n : Nat} (h : Below g.w.heap.size g.w w') (hA : g.w.heap.size ≤ A) : Old (fun _ => False) g ⟨w', fun k => if k = A then n else g.u k, g.loc⟩ :=
  ⟨h.os, h.tape, h.output, ⟨h.size, fun k hk => by show g.u k ≤ if k = A then n else g.u k; rw [if_neg (by omega)]; exact Nat.le_refl _, fun k i hk _ => by simp only [World.cell?]; rw [h.block k hk], fun r hr => (h.block r (blk_lt hr)).trans hr⟩, fun k hk _ => ⟨h.block k hk, by show (if k = A then n else g.u k) = g.u k; rw [if_neg (by omega)]⟩⟩
theorem strings_FieldsFunc_sp_run (s : Str) (r : List Str) (hr : strings_FieldsFunc_sp s = some r) : Run Tryz.prog 29 [.s s, .fn (.func 30) [] []] (.l cS r) := by
  unfold strings_FieldsFunc_sp at hr
  split at hr
  case isFalse => cases hr
  rename_i hlen
  cases hr
  refine ⟨⟨_, _, ⟨Tryz.func29, rfl, by kernel_rfl⟩⟩, fun g vs hw hg ha => ?_⟩
  obtain ⟨hsz, hrel⟩ := ha
  obtain ⟨vl⟩ := vs
  match vl, hsz with
  | [x, y], _ =>
    obtain rfl := str_argF (hrel 0 _ rfl)
    have hy : Rel g (.fn (.func 30) [] []) y := hrel 1 _ rfl
    have hy2 : y = .func (.func 30) #[] #[] := by
      cases hy with
      | @fn f first captured fv cv h1 h2 hf hc =>
        have e1 : fv = #[] := Array.eq_empty_of_size_eq_zero h1
        have e2 : cv = #[] := Array.eq_empty_of_size_eq_zero h2
        rw [e1, e2]
    subst hy2
    have hC := Tryz.strings_FieldsFunc 30 #[] (enters_of Tryz.func30 (by kernel_rfl) rfl) sp32 (strB s) g.w (by rw [strB_size]; exact hlen) (ff_pred g.w)
    generalize Lib.goFieldsP sp32 (strB s) = L at hC ⊢
    refine callsIn_wide.2 (hC.mono ?_)
    rintro e w' ⟨A, rfl, hA, hown, hb⟩
    have hlm : (L.map fun b => b.data.toList).length = L.length := by simp
    obtain ⟨hl0, hno⟩ := hown
    rcases hno with ⟨hc, _⟩ | ⟨g0, cap, cur, hv, _, hheap, hle, _, hcs, htk⟩
    · cases hc
    · simp only [Value.slice.injEq, Option.some.injEq, Addr.mk.injEq, and_true, true_and] at hv
      obtain ⟨rfl, rfl⟩ := hv
      have hlt : A < w'.heap.size := by
        rcases Nat.lt_or_ge A w'.heap.size with h | h
        · exact h
        · rw [Array.getElem?_eq_none h] at hheap; cases hheap
      refine ⟨⟨w', fun k => if k = A then L.length else g.u k, g.loc⟩, _, rfl, rfl, old_belowU hb hA, fun k hk => ?_, rfl, ?_⟩
      · show (if k = A then L.length else g.u k) = 0
        have hk' : w'.heap.size ≤ k := hk
        have := hb.size
        rw [if_neg (by omega)]
        exact hw k (by omega)
      · rw [show (Value.slice (some ⟨A, 0, none⟩) L.length L.length) = .slice (some ⟨A, 0, none⟩) ((L.map fun b => b.data.toList).map cS).length L.length by simp]
        refine .pv (.sl (a := some ⟨A, 0, none⟩) (cap := L.length) 1 A 0 (fun i => cur.getD i undef) (fun x hx => by cases hx) (fun hx => by cases hx) (by simp) (fun x' hx' => by obtain ⟨y', hy', rfl⟩ := List.mem_map.1 hx'; rfl) (fun _ => rfl) (fun _ => ⟨?_, hlt⟩) (fun i hi => ?_) (fun i j e c hi hj => ?_))
        · show 0 + _ * 1 ≤ if A = A then L.length else g.u A
          rw [if_pos rfl]; simp
        · have hi' : i < cur.size := by simp at hi; omega
          simp only [World.cell?, hheap, Nat.zero_add]
          simp [Array.getD, hi']
        · simp only [List.getElem?_map, Option.map_eq_some_iff] at hi
          obtain ⟨q, ⟨b, hbq, rfl⟩, rfl⟩ := hi
          have hj0 : j = 0 ∧ c = .b (.string (strB b.data.toList)) := by
            cases j with
            | zero => exact ⟨rfl, (Option.some.inj hj).symm⟩
            | succ j => cases hj
          obtain ⟨rfl, rfl⟩ := hj0
          have hil := (List.getElem?_eq_some_iff.1 hbq).1
          have h1 : (cur.toList.take (L.length * 1))[i]? = some (.string b) := by rw [htk]; simp [hbq]
          have h2 : cur.getD (i * 1 + 0) undef = .string (strB b.data.toList) := by
            rw [List.getElem?_take_of_lt (by omega)] at h1
            rw [Array.getD_eq_getD_getElem?, Nat.mul_one, Nat.add_zero]
            rw [Array.getElem?_toList] at h1
            rw [h1]
            rfl
          rw [h2]
          exact .b rfl
end Go.Proofs.YtgbahimpdoahbaaGreatDoor

namespace Go.Proofs.YtgbahimpdoahbaaGreatDoor
open Go.RowKit
set_option maxRecDepth 100000
set_option maxHeartbeats 40000000
set_option linter.unusedVariables false
theorem basic_Failed_run (a0 : TFault) (r : Bool) (hr : basic_Failed a0 = some r) : Run Tryz.prog 16 [.agg [.i a0.Code, .i a0.Index]] (.bo r) := by
 unfold basic_Failed at hr
 refine rf (fn := Tryz.f16) ⟨Tryz.func16, rfl, by kernel_rfl⟩ rfl (fun _ => rfl) fun g0 hg => ?_
 refine rn tk 15 rfl ?_
 cases hr
 exact kr tk (.inr rfl) rfl rfl
theorem basic_Fault_run (a0 : Int) (a1 : Int) (r : TFault) (hr : basic_Fault a0 a1 = some r) : Run Tryz.prog 24 [.i a0, .i a1] (.agg [.i r.Code, .i r.Index]) := by
 unfold basic_Fault at hr
 refine rf (fn := Tryz.f24) ⟨Tryz.func24, rfl, by kernel_rfl⟩ rfl (fun _ => rfl) fun g0 hg => ?_
 refine rn tk 14 rfl ?_
 cases hr
 exact kr tk (.inr rfl) rfl rfl
theorem basic_Lower_run (a0 : Str) (r : Str) (hr : basic_Lower a0 = some r) : Run Tryz.prog 31 [.s a0] (.s r) := by
 unfold basic_Lower at hr
 refine rf (fn := Tryz.f31) ⟨Tryz.func31, rfl, by kernel_rfl⟩ rfl (fun _ => rfl) fun g0 hg => ?_
 refine rn tk 8 rfl ?_
 refine wo (opTo_s2buf (k := 7) (s := a0) 1007 rfl rfl rfl rfl ty_string ty_s_uint8 ty_uint8) rfl ?_
 refine rn tk 7 rfl ?_
 refine wq (ev_buflen (l := a0) rfl rfl ty_s_uint8.u) rfl rfl rfl ?_
 refine rn tk 4 rfl ?_
 refine al1 hr (fun s1 => [(3, .hs 1007 0), (8, .hs 1007 0), (9, .i ((a0.length : Int))), (10, .i s1.1)]) (fun s1 => [(1007, .buf s1.2)]) (.exit 0) (fun b2 => [(3, .hs 1007 0)]) (fun b2 => [(1007, .buf b2)]) rfl rfl (fun s1 x3 hr => ?_) (fun b2 hr => ?_)
 ·
  unfold basic_Lower_l1 at hr
  refine rn tk 6 rfl ?_
  refine ac 11 hr rfl (fun c4 hr => ?_) (fun c4 hr => ?_)
  ·
   refine rn tk 2 rfl ?_
   refine jb hr (fun j5 => [(3, .hs 1007 0), (8, .hs 1007 0), (9, .i ((a0.length : Int))), (10, .i s1.1)]) (fun j5 => [(1007, .buf j5)]) (fun j5 hr => ?_) (fun j5 hr => ?_)
   ·
    refine rn tk 4 rfl ?_
    obtain ⟨v6, h7, hr⟩ := bind_some hr
    refine wq (ev_bufidx (l := s1.2) (n := s1.1) rfl rfl rfl ty_s_uint8 ty_uint8 h7) rfl rfl rfl ?_
    obtain ⟨v8, h9, hr⟩ := bind_some hr
    refine wq (ev_bufload (l := s1.2) (n := s1.1) rfl rfl ty_uint8 h9) rfl rfl rfl ?_
    refine rn tk 4 rfl ?_
    refine jb hr (fun j10 => [(3, .hs 1007 0), (4, .i s1.1), (5, .u8 v8), (8, .hs 1007 0), (9, .i ((a0.length : Int))), (10, .i s1.1), (20, .bo j10)]) (fun j10 => [(1007, .buf s1.2)]) (fun j10 hr => ?_) (fun j10 hr => ?_)
    ·
     refine rn tk 4 rfl ?_
     refine bs 17 hr rfl (fun c11 hr => ?_) (fun c11 hr => ?_)
     ·
      refine rn tk 4 rfl ?_
      cases hr
      exact jn _ rfl rfl rfl
     ·
      refine rn tk 4 rfl ?_
      cases hr
      exact jn _ rfl rfl rfl
    ·
     refine ac 20 hr rfl (fun c12 hr => ?_) (fun c12 hr => ?_)
     ·
      refine rn tk 4 rfl ?_
      refine wq (ev_u8add (a := v8) (b := (97 : UInt8)) rfl rfl) rfl rfl rfl ?_
      refine wq (ev_u8sub (a := ((v8 + (97 : UInt8)))) (b := (65 : UInt8)) rfl rfl) rfl rfl rfl ?_
      obtain ⟨v13, h14, hr⟩ := bind_some hr
      refine wq (ev_bufidx (l := s1.2) (n := s1.1) rfl rfl rfl ty_s_uint8 ty_uint8 h14) rfl rfl rfl ?_
      obtain ⟨v15, h16, hr⟩ := bind_some hr
      refine wo (opTo_bufstore (l := s1.2) (n := s1.1) (v := v15) (v' := (((v8 + (97 : UInt8)) - (65 : UInt8)))) rfl rfl rfl ty_uint8 h16) rfl ?_
      refine rn tk 2 rfl ?_
      cases hr
      exact jn _ rfl rfl rfl
     ·
      refine rn tk 2 rfl ?_
      cases hr
      exact jn _ rfl rfl rfl
   ·
    refine rn tk 4 rfl ?_
    cases hr
    exact atc rfl rfl
  ·
   refine rn tk 2 rfl ?_
   cases hr
   exact ato rfl rfl rfl rfl
 ·
  refine rn tk 5 rfl ?_
  refine wq (ev_buf2s (l := b2) rfl rfl ty_s_uint8 ty_uint8 ty_string) rfl rfl rfl ?_
  refine rn tk 4 rfl ?_
  cases hr
  exact kr tk (.inr rfl) rfl rfl
theorem basic_None_run  (r : TFault) (hr : basic_None = some r) : Run Tryz.prog 20 [] (.agg [.i r.Code, .i r.Index]) := by
 unfold basic_None at hr
 refine rf (fn := Tryz.f20) ⟨Tryz.func20, rfl, by kernel_rfl⟩ rfl (fun _ => rfl) fun g0 hg => ?_
 refine rn tk 12 rfl ?_
 cases hr
 exact kr tk (.inr rfl) rfl rfl
end Go.Proofs.YtgbahimpdoahbaaGreatDoor
