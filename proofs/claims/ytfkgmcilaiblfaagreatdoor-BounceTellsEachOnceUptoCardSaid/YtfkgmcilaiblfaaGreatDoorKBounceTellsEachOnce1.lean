/- Part 1 of the proof of the law BounceTellsEachOnce: what it needs. -/
import Derived.Test.YtfkgmcilaiblfaaGreatDoorC4
import Derived.Test.YtfkgmcilaiblfaaGreatDoorProg
import Derived.Lib.IndexMore
import Derived.Lib.IndexAny
import Derived.Lib.Atoi
import Derived.Lib.Join
import Derived.Lib.Repeat
import Derived.Lib.Split
import Derived.Lib.FieldsP
import Derived.Lib.Strings
import Derived.Lib.ItoaMem
import Derived.Lib.SplitLaws
import Derived.Laws.RangeAny
set_option linter.unusedVariables false
set_option linter.unusedSimpArgs false
/- Go's structures as Lean's, and their cells. Written by program. -/
namespace Go.Proofs.YtfkgmcilaiblfaaGreatDoor
open Go.RowKit
structure TFault where
  Code : Int
  Index : Int
def TFault.pc (x : TFault) : List PV := [pI x.Code, pI x.Index]
structure TAlias where
  Address : Str
  To : List Str
def TAlias.pc (x : TAlias) : List PV := [pS x.Address, pL cS x.To]
structure TRecipient where
  Address : Str
  Notify : Int
def TRecipient.pc (x : TRecipient) : List PV := [pS x.Address, pI x.Notify]
structure TEnvelope where
  From : Str
  To : List TRecipient
  Id : Str
def TEnvelope.pc (x : TEnvelope) : List PV := [pS x.From, pL TRecipient.pc x.To, pS x.Id]
structure TField where
  Name : Str
  Value : Str
def TField.pc (x : TField) : List PV := [pS x.Name, pS x.Value]
structure TMessage where
  Fields : List TField
  Body : List UInt8
def TMessage.pc (x : TMessage) : List PV := [pL TField.pc x.Fields, pL cU x.Body]
structure TMail where
  Envelope : TEnvelope
  Message : TMessage
def TMail.pc (x : TMail) : List PV := [pS x.Envelope.From, pL TRecipient.pc x.Envelope.To, pS x.Envelope.Id, pL TField.pc x.Message.Fields, pL cU x.Message.Body]
structure TForward where
  Address : Str
  To : List Str
  Keep : Bool
def TForward.pc (x : TForward) : List PV := [pS x.Address, pL cS x.To, pB x.Keep]
structure THeld where
  Number : Int
  Mail : TMail
def THeld.pc (x : THeld) : List PV := [pI x.Number, pS x.Mail.Envelope.From, pL TRecipient.pc x.Mail.Envelope.To, pS x.Mail.Envelope.Id, pL TField.pc x.Mail.Message.Fields, pL cU x.Mail.Message.Body]
structure TList where
  Address : Str
  Owner : Str
  Open : Bool
  Subscribers : List Str
  Moderators : List Str
  Held : List THeld
  Next : Int
def TList.pc (x : TList) : List PV := [pS x.Address, pS x.Owner, pB x.Open, pL cS x.Subscribers, pL cS x.Moderators, pL THeld.pc x.Held, pI x.Next]
structure TReply where
  Code : Int
  Lines : List Str
def TReply.pc (x : TReply) : List PV := [pI x.Code, pL cS x.Lines]
structure TDate where
  Year : Int
  Month : Int
  Day : Int
  Hour : Int
  Minute : Int
  Second : Int
  Zone : Int
def TDate.pc (x : TDate) : List PV := [pI x.Year, pI x.Month, pI x.Day, pI x.Hour, pI x.Minute, pI x.Second, pI x.Zone]
structure TCommand where
  Verb : Int
  Name : Str
  Address : Str
  Size : Int
  Notify : Int
  Last : Bool
def TCommand.pc (x : TCommand) : List PV := [pI x.Verb, pS x.Name, pS x.Address, pI x.Size, pI x.Notify, pB x.Last]
structure Tcommand_condition where
  n : Int
  word : Str
def Tcommand_condition.pc (x : Tcommand_condition) : List PV := [pI x.n, pS x.word]
structure TTold where
  Address : Str
  Result : Int
def TTold.pc (x : TTold) : List PV := [pS x.Address, pI x.Result]
structure TNotice where
  Kind : Int
  Id : Str
  Told : List TTold
def TNotice.pc (x : TNotice) : List PV := [pI x.Kind, pS x.Id, pL TTold.pc x.Told]
structure Tbounce_due where
  kind : Int
  result : Int
def Tbounce_due.pc (x : Tbounce_due) : List PV := [pI x.kind, pI x.result]
end Go.Proofs.YtfkgmcilaiblfaaGreatDoor

/- Rows of the table of types. Written by program. -/
namespace Go.Proofs.YtfkgmcilaiblfaaGreatDoor
open Go.RowKit
set_option maxRecDepth 100000
set_option maxHeartbeats 40000000
set_option linter.unusedVariables false
theorem mixed : Tryz.prog.follows .mixedOrders = true := by kernel_rfl
theorem cmp_api_Fault : CmpOk Tryz.prog 33 := ⟨by kernel_rfl, by kernel_rfl⟩
theorem pl_api_Date (w : World) : Sem.run Tryz.prog (Array.mapM (fun (f : Field) => do pure (f.offset, ← sizeOf f.type)) #[⟨"Year", 3, 0, false, "", "", 0⟩, ⟨"Month", 3, 1, false, "", "", 8⟩, ⟨"Day", 3, 2, false, "", "", 16⟩, ⟨"Hour", 3, 3, false, "", "", 24⟩, ⟨"Minute", 3, 4, false, "", "", 32⟩, ⟨"Second", 3, 5, false, "", "", 40⟩, ⟨"Zone", 3, 6, false, "", "", 48⟩]) w = .ok #[(0, 1), (1, 1), (2, 1), (3, 1), (4, 1), (5, 1), (6, 1)] w := by kernel_rfl
theorem pl_api_Envelope (w : World) : Sem.run Tryz.prog (Array.mapM (fun (f : Field) => do pure (f.offset, ← sizeOf f.type)) #[⟨"From", 9, 0, false, "", "", 0⟩, ⟨"To", 22, 1, false, "", "", 16⟩, ⟨"Id", 9, 2, false, "", "", 40⟩]) w = .ok #[(0, 1), (1, 1), (2, 1)] w := by kernel_rfl
theorem pl_api_Fault (w : World) : Sem.run Tryz.prog (Array.mapM (fun (f : Field) => do pure (f.offset, ← sizeOf f.type)) #[⟨"Code", 3, 0, false, "", "", 0⟩, ⟨"Index", 3, 1, false, "", "", 8⟩]) w = .ok #[(0, 1), (1, 1)] w := by kernel_rfl
theorem pl_api_Field (w : World) : Sem.run Tryz.prog (Array.mapM (fun (f : Field) => do pure (f.offset, ← sizeOf f.type)) #[⟨"Name", 9, 0, false, "", "", 0⟩, ⟨"Value", 9, 1, false, "", "", 16⟩]) w = .ok #[(0, 1), (1, 1)] w := by kernel_rfl
theorem pl_api_Mail (w : World) : Sem.run Tryz.prog (Array.mapM (fun (f : Field) => do pure (f.offset, ← sizeOf f.type)) #[⟨"Envelope", 24, 0, false, "", "", 0⟩, ⟨"Message", 28, 3, false, "", "", 56⟩]) w = .ok #[(0, 3), (3, 2)] w := by kernel_rfl
theorem pl_api_Message (w : World) : Sem.run Tryz.prog (Array.mapM (fun (f : Field) => do pure (f.offset, ← sizeOf f.type)) #[⟨"Fields", 25, 0, false, "", "", 0⟩, ⟨"Body", 26, 1, false, "", "", 24⟩]) w = .ok #[(0, 1), (1, 1)] w := by kernel_rfl
theorem pl_api_Notice (w : World) : Sem.run Tryz.prog (Array.mapM (fun (f : Field) => do pure (f.offset, ← sizeOf f.type)) #[⟨"Kind", 3, 0, false, "", "", 0⟩, ⟨"Id", 9, 1, false, "", "", 8⟩, ⟨"Told", 31, 2, false, "", "", 24⟩]) w = .ok #[(0, 1), (1, 1), (2, 1)] w := by kernel_rfl
theorem pl_api_Recipient (w : World) : Sem.run Tryz.prog (Array.mapM (fun (f : Field) => do pure (f.offset, ← sizeOf f.type)) #[⟨"Address", 9, 0, false, "", "", 0⟩, ⟨"Notify", 3, 1, false, "", "", 16⟩]) w = .ok #[(0, 1), (1, 1)] w := by kernel_rfl
theorem pl_api_Told (w : World) : Sem.run Tryz.prog (Array.mapM (fun (f : Field) => do pure (f.offset, ← sizeOf f.type)) #[⟨"Address", 9, 0, false, "", "", 0⟩, ⟨"Result", 3, 1, false, "", "", 16⟩]) w = .ok #[(0, 1), (1, 1)] w := by kernel_rfl
theorem pl_bounce_due (w : World) : Sem.run Tryz.prog (Array.mapM (fun (f : Field) => do pure (f.offset, ← sizeOf f.type)) #[⟨"kind", 3, 0, false, "", "posthouse/bounce", 0⟩, ⟨"result", 3, 1, false, "", "posthouse/bounce", 8⟩]) w = .ok #[(0, 1), (1, 1)] w := by kernel_rfl
theorem ty__12_int : TyOk Tryz.prog 184 12 96 (.agg #[.int .i64 0, .int .i64 0, .int .i64 0, .int .i64 0, .int .i64 0, .int .i64 0, .int .i64 0, .int .i64 0, .int .i64 0, .int .i64 0, .int .i64 0, .int .i64 0]) (.array 12 3) := ⟨by kernel_rfl, by kernel_rfl⟩
theorem ty__12_string : TyOk Tryz.prog 114 12 192 (.agg #[.string ⟨#[]⟩, .string ⟨#[]⟩, .string ⟨#[]⟩, .string ⟨#[]⟩, .string ⟨#[]⟩, .string ⟨#[]⟩, .string ⟨#[]⟩, .string ⟨#[]⟩, .string ⟨#[]⟩, .string ⟨#[]⟩, .string ⟨#[]⟩, .string ⟨#[]⟩]) (.array 12 9) := ⟨by kernel_rfl, by kernel_rfl⟩
theorem ty__3_bounce_due : TyOk Tryz.prog 89 6 48 (.agg #[.int .i64 0, .int .i64 0, .int .i64 0, .int .i64 0, .int .i64 0, .int .i64 0]) (.array 3 88) := ⟨by kernel_rfl, by kernel_rfl⟩
theorem ty__4_string : TyOk Tryz.prog 120 4 64 (.agg #[.string ⟨#[]⟩, .string ⟨#[]⟩, .string ⟨#[]⟩, .string ⟨#[]⟩]) (.array 4 9) := ⟨by kernel_rfl, by kernel_rfl⟩
theorem ty__5_string : TyOk Tryz.prog 77 5 80 (.agg #[.string ⟨#[]⟩, .string ⟨#[]⟩, .string ⟨#[]⟩, .string ⟨#[]⟩, .string ⟨#[]⟩]) (.array 5 9) := ⟨by kernel_rfl, by kernel_rfl⟩
theorem ty__7_string : TyOk Tryz.prog 112 7 112 (.agg #[.string ⟨#[]⟩, .string ⟨#[]⟩, .string ⟨#[]⟩, .string ⟨#[]⟩, .string ⟨#[]⟩, .string ⟨#[]⟩, .string ⟨#[]⟩]) (.array 7 9) := ⟨by kernel_rfl, by kernel_rfl⟩
theorem ty_api_Date : TyOk Tryz.prog 68 7 56 (.agg #[.int .i64 0, .int .i64 0, .int .i64 0, .int .i64 0, .int .i64 0, .int .i64 0, .int .i64 0]) (.struct #[⟨"Year", 3, 0, false, "", "", 0⟩, ⟨"Month", 3, 1, false, "", "", 8⟩, ⟨"Day", 3, 2, false, "", "", 16⟩, ⟨"Hour", 3, 3, false, "", "", 24⟩, ⟨"Minute", 3, 4, false, "", "", 32⟩, ⟨"Second", 3, 5, false, "", "", 40⟩, ⟨"Zone", 3, 6, false, "", "", 48⟩]) := ⟨by kernel_rfl, by kernel_rfl⟩
theorem ty_api_Envelope : TyOk Tryz.prog 24 3 56 (.agg #[.string ⟨#[]⟩, .slice none 0 0, .string ⟨#[]⟩]) (.struct #[⟨"From", 9, 0, false, "", "", 0⟩, ⟨"To", 22, 1, false, "", "", 16⟩, ⟨"Id", 9, 2, false, "", "", 40⟩]) := ⟨by kernel_rfl, by kernel_rfl⟩
theorem ty_api_Fault : TyOk Tryz.prog 33 2 16 (.agg #[.int .i64 0, .int .i64 0]) (.struct #[⟨"Code", 3, 0, false, "", "", 0⟩, ⟨"Index", 3, 1, false, "", "", 8⟩]) := ⟨by kernel_rfl, by kernel_rfl⟩
theorem ty_api_Field : TyOk Tryz.prog 76 2 32 (.agg #[.string ⟨#[]⟩, .string ⟨#[]⟩]) (.struct #[⟨"Name", 9, 0, false, "", "", 0⟩, ⟨"Value", 9, 1, false, "", "", 16⟩]) := ⟨by kernel_rfl, by kernel_rfl⟩
theorem ty_api_Mail : TyOk Tryz.prog 30 5 104 (.agg #[.string ⟨#[]⟩, .slice none 0 0, .string ⟨#[]⟩, .slice none 0 0, .slice none 0 0]) (.struct #[⟨"Envelope", 24, 0, false, "", "", 0⟩, ⟨"Message", 28, 3, false, "", "", 56⟩]) := ⟨by kernel_rfl, by kernel_rfl⟩
theorem ty_api_Message : TyOk Tryz.prog 28 2 48 (.agg #[.slice none 0 0, .slice none 0 0]) (.struct #[⟨"Fields", 25, 0, false, "", "", 0⟩, ⟨"Body", 26, 1, false, "", "", 24⟩]) := ⟨by kernel_rfl, by kernel_rfl⟩
theorem ty_api_Notice : TyOk Tryz.prog 48 3 48 (.agg #[.int .i64 0, .string ⟨#[]⟩, .slice none 0 0]) (.struct #[⟨"Kind", 3, 0, false, "", "", 0⟩, ⟨"Id", 9, 1, false, "", "", 8⟩, ⟨"Told", 31, 2, false, "", "", 24⟩]) := ⟨by kernel_rfl, by kernel_rfl⟩
theorem ty_api_Recipient : TyOk Tryz.prog 44 2 24 (.agg #[.string ⟨#[]⟩, .int .i64 0]) (.struct #[⟨"Address", 9, 0, false, "", "", 0⟩, ⟨"Notify", 3, 1, false, "", "", 16⟩]) := ⟨by kernel_rfl, by kernel_rfl⟩
theorem ty_api_Told : TyOk Tryz.prog 52 2 24 (.agg #[.string ⟨#[]⟩, .int .i64 0]) (.struct #[⟨"Address", 9, 0, false, "", "", 0⟩, ⟨"Result", 3, 1, false, "", "", 16⟩]) := ⟨by kernel_rfl, by kernel_rfl⟩
theorem ty_bool : TyOk Tryz.prog 4 1 1 (.bool false) .bool := ⟨by kernel_rfl, by kernel_rfl⟩
theorem ty_bounce_due : TyOk Tryz.prog 88 2 16 (.agg #[.int .i64 0, .int .i64 0]) (.struct #[⟨"kind", 3, 0, false, "", "posthouse/bounce", 0⟩, ⟨"result", 3, 1, false, "", "posthouse/bounce", 8⟩]) := ⟨by kernel_rfl, by kernel_rfl⟩
theorem ty_error : TyOk Tryz.prog 144 1 16 (.nilIface) (.interface #[("Error", 147)]) := ⟨by kernel_rfl, by kernel_rfl⟩
theorem ty_int : TyOk Tryz.prog 3 1 8 (.int .i64 0) (.int .i64) := ⟨by kernel_rfl, by kernel_rfl⟩
theorem ty_int32 : TyOk Tryz.prog 21 1 4 (.int .i32 0) (.int .i32) := ⟨by kernel_rfl, by kernel_rfl⟩
theorem ty_s_api_Field : TyOk Tryz.prog 25 1 24 (.slice none 0 0) (.slice 76) := ⟨by kernel_rfl, by kernel_rfl⟩
theorem ty_s_api_Mail : TyOk Tryz.prog 40 1 24 (.slice none 0 0) (.slice 30) := ⟨by kernel_rfl, by kernel_rfl⟩
theorem ty_s_api_Recipient : TyOk Tryz.prog 22 1 24 (.slice none 0 0) (.slice 44) := ⟨by kernel_rfl, by kernel_rfl⟩
theorem ty_s_api_Told : TyOk Tryz.prog 31 1 24 (.slice none 0 0) (.slice 52) := ⟨by kernel_rfl, by kernel_rfl⟩
theorem ty_s_int : TyOk Tryz.prog 39 1 24 (.slice none 0 0) (.slice 3) := ⟨by kernel_rfl, by kernel_rfl⟩
theorem ty_s_s_api_Field : TyOk Tryz.prog 179 1 24 (.slice none 0 0) (.slice 25) := ⟨by kernel_rfl, by kernel_rfl⟩
theorem ty_s_string : TyOk Tryz.prog 91 1 24 (.slice none 0 0) (.slice 9) := ⟨by kernel_rfl, by kernel_rfl⟩
theorem ty_s_uint8 : TyOk Tryz.prog 26 1 24 (.slice none 0 0) (.slice 5) := ⟨by kernel_rfl, by kernel_rfl⟩
theorem ty_string : TyOk Tryz.prog 9 1 16 (.string ⟨#[]⟩) .string := ⟨by kernel_rfl, by kernel_rfl⟩
theorem ty_uint8 : TyOk Tryz.prog 5 1 1 (.int .u8 0) (.int .u8) := ⟨by kernel_rfl, by kernel_rfl⟩
def tab : Tab := [(184, ⟨12, 96, (.agg #[.int .i64 0, .int .i64 0, .int .i64 0, .int .i64 0, .int .i64 0, .int .i64 0, .int .i64 0, .int .i64 0, .int .i64 0, .int .i64 0, .int .i64 0, .int .i64 0]), (.array 12 3), none⟩), (114, ⟨12, 192, (.agg #[.string ⟨#[]⟩, .string ⟨#[]⟩, .string ⟨#[]⟩, .string ⟨#[]⟩, .string ⟨#[]⟩, .string ⟨#[]⟩, .string ⟨#[]⟩, .string ⟨#[]⟩, .string ⟨#[]⟩, .string ⟨#[]⟩, .string ⟨#[]⟩, .string ⟨#[]⟩]), (.array 12 9), none⟩), (89, ⟨6, 48, (.agg #[.int .i64 0, .int .i64 0, .int .i64 0, .int .i64 0, .int .i64 0, .int .i64 0]), (.array 3 88), none⟩), (120, ⟨4, 64, (.agg #[.string ⟨#[]⟩, .string ⟨#[]⟩, .string ⟨#[]⟩, .string ⟨#[]⟩]), (.array 4 9), none⟩), (77, ⟨5, 80, (.agg #[.string ⟨#[]⟩, .string ⟨#[]⟩, .string ⟨#[]⟩, .string ⟨#[]⟩, .string ⟨#[]⟩]), (.array 5 9), none⟩), (112, ⟨7, 112, (.agg #[.string ⟨#[]⟩, .string ⟨#[]⟩, .string ⟨#[]⟩, .string ⟨#[]⟩, .string ⟨#[]⟩, .string ⟨#[]⟩, .string ⟨#[]⟩]), (.array 7 9), none⟩), (68, ⟨7, 56, (.agg #[.int .i64 0, .int .i64 0, .int .i64 0, .int .i64 0, .int .i64 0, .int .i64 0, .int .i64 0]), (.struct #[⟨"Year", 3, 0, false, "", "", 0⟩, ⟨"Month", 3, 1, false, "", "", 8⟩, ⟨"Day", 3, 2, false, "", "", 16⟩, ⟨"Hour", 3, 3, false, "", "", 24⟩, ⟨"Minute", 3, 4, false, "", "", 32⟩, ⟨"Second", 3, 5, false, "", "", 40⟩, ⟨"Zone", 3, 6, false, "", "", 48⟩]), (some #[(0, 1), (1, 1), (2, 1), (3, 1), (4, 1), (5, 1), (6, 1)])⟩), (24, ⟨3, 56, (.agg #[.string ⟨#[]⟩, .slice none 0 0, .string ⟨#[]⟩]), (.struct #[⟨"From", 9, 0, false, "", "", 0⟩, ⟨"To", 22, 1, false, "", "", 16⟩, ⟨"Id", 9, 2, false, "", "", 40⟩]), (some #[(0, 1), (1, 1), (2, 1)])⟩), (33, ⟨2, 16, (.agg #[.int .i64 0, .int .i64 0]), (.struct #[⟨"Code", 3, 0, false, "", "", 0⟩, ⟨"Index", 3, 1, false, "", "", 8⟩]), (some #[(0, 1), (1, 1)])⟩), (76, ⟨2, 32, (.agg #[.string ⟨#[]⟩, .string ⟨#[]⟩]), (.struct #[⟨"Name", 9, 0, false, "", "", 0⟩, ⟨"Value", 9, 1, false, "", "", 16⟩]), (some #[(0, 1), (1, 1)])⟩), (30, ⟨5, 104, (.agg #[.string ⟨#[]⟩, .slice none 0 0, .string ⟨#[]⟩, .slice none 0 0, .slice none 0 0]), (.struct #[⟨"Envelope", 24, 0, false, "", "", 0⟩, ⟨"Message", 28, 3, false, "", "", 56⟩]), (some #[(0, 3), (3, 2)])⟩), (28, ⟨2, 48, (.agg #[.slice none 0 0, .slice none 0 0]), (.struct #[⟨"Fields", 25, 0, false, "", "", 0⟩, ⟨"Body", 26, 1, false, "", "", 24⟩]), (some #[(0, 1), (1, 1)])⟩), (48, ⟨3, 48, (.agg #[.int .i64 0, .string ⟨#[]⟩, .slice none 0 0]), (.struct #[⟨"Kind", 3, 0, false, "", "", 0⟩, ⟨"Id", 9, 1, false, "", "", 8⟩, ⟨"Told", 31, 2, false, "", "", 24⟩]), (some #[(0, 1), (1, 1), (2, 1)])⟩), (44, ⟨2, 24, (.agg #[.string ⟨#[]⟩, .int .i64 0]), (.struct #[⟨"Address", 9, 0, false, "", "", 0⟩, ⟨"Notify", 3, 1, false, "", "", 16⟩]), (some #[(0, 1), (1, 1)])⟩), (52, ⟨2, 24, (.agg #[.string ⟨#[]⟩, .int .i64 0]), (.struct #[⟨"Address", 9, 0, false, "", "", 0⟩, ⟨"Result", 3, 1, false, "", "", 16⟩]), (some #[(0, 1), (1, 1)])⟩), (4, ⟨1, 1, (.bool false), .bool, none⟩), (88, ⟨2, 16, (.agg #[.int .i64 0, .int .i64 0]), (.struct #[⟨"kind", 3, 0, false, "", "posthouse/bounce", 0⟩, ⟨"result", 3, 1, false, "", "posthouse/bounce", 8⟩]), (some #[(0, 1), (1, 1)])⟩), (144, ⟨1, 16, (.nilIface), (.interface #[("Error", 147)]), none⟩), (3, ⟨1, 8, (.int .i64 0), (.int .i64), none⟩), (21, ⟨1, 4, (.int .i32 0), (.int .i32), none⟩), (25, ⟨1, 24, (.slice none 0 0), (.slice 76), none⟩), (40, ⟨1, 24, (.slice none 0 0), (.slice 30), none⟩), (22, ⟨1, 24, (.slice none 0 0), (.slice 44), none⟩), (31, ⟨1, 24, (.slice none 0 0), (.slice 52), none⟩), (39, ⟨1, 24, (.slice none 0 0), (.slice 3), none⟩), (179, ⟨1, 24, (.slice none 0 0), (.slice 25), none⟩), (91, ⟨1, 24, (.slice none 0 0), (.slice 9), none⟩), (26, ⟨1, 24, (.slice none 0 0), (.slice 5), none⟩), (9, ⟨1, 16, (.string ⟨#[]⟩), .string, none⟩), (5, ⟨1, 1, (.int .u8 0), (.int .u8), none⟩)]
theorem tk : TabOk Tryz.prog tab := (tab_cons ty__12_int (tab_cons ty__12_string (tab_cons ty__3_bounce_due (tab_cons ty__4_string (tab_cons ty__5_string (tab_cons ty__7_string (tab_consP ty_api_Date pl_api_Date (tab_consP ty_api_Envelope pl_api_Envelope (tab_consP ty_api_Fault pl_api_Fault (tab_consP ty_api_Field pl_api_Field (tab_consP ty_api_Mail pl_api_Mail (tab_consP ty_api_Message pl_api_Message (tab_consP ty_api_Notice pl_api_Notice (tab_consP ty_api_Recipient pl_api_Recipient (tab_consP ty_api_Told pl_api_Told (tab_cons ty_bool (tab_consP ty_bounce_due pl_bounce_due (tab_cons ty_error (tab_cons ty_int (tab_cons ty_int32 (tab_cons ty_s_api_Field (tab_cons ty_s_api_Mail (tab_cons ty_s_api_Recipient (tab_cons ty_s_api_Told (tab_cons ty_s_int (tab_cons ty_s_s_api_Field (tab_cons ty_s_string (tab_cons ty_s_uint8 (tab_cons ty_string (tab_cons ty_uint8 tab_nil))))))))))))))))))))))))))))))
end Go.Proofs.YtfkgmcilaiblfaaGreatDoor

/- Bounds and bulk of Go's structures. Written by program. -/
namespace Go.Proofs.YtfkgmcilaiblfaaGreatDoor
open Go.RowKit
def TFault.ok (x : TFault) : Prop := ok64 x.Code ∧ ok64 x.Index
def TFault.bk (x : TFault) : Nat := (fun _ => 1) x.Code + (fun _ => 1) x.Index + 1
instance : Inhabited TFault := ⟨⟨default, default⟩⟩
def TAlias.ok (x : TAlias) : Prop := okStr x.Address ∧ (okL okStr) x.To
def TAlias.bk (x : TAlias) : Nat := (fun s => s.length + 1) x.Address + (bkL (fun s => s.length + 1)) x.To + 1
instance : Inhabited TAlias := ⟨⟨default, default⟩⟩
def TRecipient.ok (x : TRecipient) : Prop := okStr x.Address ∧ ok64 x.Notify
def TRecipient.bk (x : TRecipient) : Nat := (fun s => s.length + 1) x.Address + (fun _ => 1) x.Notify + 1
instance : Inhabited TRecipient := ⟨⟨default, default⟩⟩
def TEnvelope.ok (x : TEnvelope) : Prop := okStr x.From ∧ (okL TRecipient.ok) x.To ∧ okStr x.Id
def TEnvelope.bk (x : TEnvelope) : Nat := (fun s => s.length + 1) x.From + (bkL TRecipient.bk) x.To + (fun s => s.length + 1) x.Id + 1
instance : Inhabited TEnvelope := ⟨⟨default, default, default⟩⟩
def TField.ok (x : TField) : Prop := okStr x.Name ∧ okStr x.Value
def TField.bk (x : TField) : Nat := (fun s => s.length + 1) x.Name + (fun s => s.length + 1) x.Value + 1
instance : Inhabited TField := ⟨⟨default, default⟩⟩
def TMessage.ok (x : TMessage) : Prop := (okL TField.ok) x.Fields ∧ (okL (fun _ => True)) x.Body
def TMessage.bk (x : TMessage) : Nat := (bkL TField.bk) x.Fields + (bkL (fun _ => 1)) x.Body + 1
instance : Inhabited TMessage := ⟨⟨default, default⟩⟩
def TMail.ok (x : TMail) : Prop := TEnvelope.ok x.Envelope ∧ TMessage.ok x.Message
def TMail.bk (x : TMail) : Nat := TEnvelope.bk x.Envelope + TMessage.bk x.Message + 1
instance : Inhabited TMail := ⟨⟨default, default⟩⟩
def TForward.ok (x : TForward) : Prop := okStr x.Address ∧ (okL okStr) x.To ∧ (fun _ => True) x.Keep
def TForward.bk (x : TForward) : Nat := (fun s => s.length + 1) x.Address + (bkL (fun s => s.length + 1)) x.To + (fun _ => 1) x.Keep + 1
instance : Inhabited TForward := ⟨⟨default, default, default⟩⟩
def THeld.ok (x : THeld) : Prop := ok64 x.Number ∧ TMail.ok x.Mail
def THeld.bk (x : THeld) : Nat := (fun _ => 1) x.Number + TMail.bk x.Mail + 1
instance : Inhabited THeld := ⟨⟨default, default⟩⟩
def TList.ok (x : TList) : Prop := okStr x.Address ∧ okStr x.Owner ∧ (fun _ => True) x.Open ∧ (okL okStr) x.Subscribers ∧ (okL okStr) x.Moderators ∧ (okL THeld.ok) x.Held ∧ ok64 x.Next
def TList.bk (x : TList) : Nat := (fun s => s.length + 1) x.Address + (fun s => s.length + 1) x.Owner + (fun _ => 1) x.Open + (bkL (fun s => s.length + 1)) x.Subscribers + (bkL (fun s => s.length + 1)) x.Moderators + (bkL THeld.bk) x.Held + (fun _ => 1) x.Next + 1
instance : Inhabited TList := ⟨⟨default, default, default, default, default, default, default⟩⟩
def TReply.ok (x : TReply) : Prop := ok64 x.Code ∧ (okL okStr) x.Lines
def TReply.bk (x : TReply) : Nat := (fun _ => 1) x.Code + (bkL (fun s => s.length + 1)) x.Lines + 1
instance : Inhabited TReply := ⟨⟨default, default⟩⟩
def TDate.ok (x : TDate) : Prop := ok64 x.Year ∧ ok64 x.Month ∧ ok64 x.Day ∧ ok64 x.Hour ∧ ok64 x.Minute ∧ ok64 x.Second ∧ ok64 x.Zone
def TDate.bk (x : TDate) : Nat := (fun _ => 1) x.Year + (fun _ => 1) x.Month + (fun _ => 1) x.Day + (fun _ => 1) x.Hour + (fun _ => 1) x.Minute + (fun _ => 1) x.Second + (fun _ => 1) x.Zone + 1
instance : Inhabited TDate := ⟨⟨default, default, default, default, default, default, default⟩⟩
def TCommand.ok (x : TCommand) : Prop := ok64 x.Verb ∧ okStr x.Name ∧ okStr x.Address ∧ ok64 x.Size ∧ ok64 x.Notify ∧ (fun _ => True) x.Last
def TCommand.bk (x : TCommand) : Nat := (fun _ => 1) x.Verb + (fun s => s.length + 1) x.Name + (fun s => s.length + 1) x.Address + (fun _ => 1) x.Size + (fun _ => 1) x.Notify + (fun _ => 1) x.Last + 1
instance : Inhabited TCommand := ⟨⟨default, default, default, default, default, default⟩⟩
def Tcommand_condition.ok (x : Tcommand_condition) : Prop := ok64 x.n ∧ okStr x.word
def Tcommand_condition.bk (x : Tcommand_condition) : Nat := (fun _ => 1) x.n + (fun s => s.length + 1) x.word + 1
instance : Inhabited Tcommand_condition := ⟨⟨default, default⟩⟩
def TTold.ok (x : TTold) : Prop := okStr x.Address ∧ ok64 x.Result
def TTold.bk (x : TTold) : Nat := (fun s => s.length + 1) x.Address + (fun _ => 1) x.Result + 1
instance : Inhabited TTold := ⟨⟨default, default⟩⟩
def TNotice.ok (x : TNotice) : Prop := ok64 x.Kind ∧ okStr x.Id ∧ (okL TTold.ok) x.Told
def TNotice.bk (x : TNotice) : Nat := (fun _ => 1) x.Kind + (fun s => s.length + 1) x.Id + (bkL TTold.bk) x.Told + 1
instance : Inhabited TNotice := ⟨⟨default, default, default⟩⟩
def Tbounce_due.ok (x : Tbounce_due) : Prop := ok64 x.kind ∧ ok64 x.result
def Tbounce_due.bk (x : Tbounce_due) : Nat := (fun _ => 1) x.kind + (fun _ => 1) x.result + 1
instance : Inhabited Tbounce_due := ⟨⟨default, default⟩⟩
end Go.Proofs.YtfkgmcilaiblfaaGreatDoor

/- How the laws' arguments are read. Written by program. -/
namespace Go.Proofs.YtfkgmcilaiblfaaGreatDoor
open Go.RowKit
set_option maxRecDepth 100000
set_option linter.unusedVariables false
theorem op_string : Opens Tryz.prog 9 1 cS okStr (fun s => s.length + 1) := opens_S ty_string.u (by kernel_rfl)
theorem op_int : Opens Tryz.prog 3 1 cI ok64 (fun _ => 1) := opens_I ty_int.u (by kernel_rfl)
theorem op_api_Recipient : Opens Tryz.prog 44 2 TRecipient.pc TRecipient.ok TRecipient.bk := ⟨by kernel_rfl, fun _ => rfl, fun {H enc W fuel cs d} h => by
  obtain ⟨xs, n, _, rfl, hl, hlen, hf⟩ := DataW.trod_struct ty_api_Recipient.u h
  have hl2 : cs.length = 2 := hl.trans (by kernel_rfl)
  match xs, hlen with
  | [y0, y1], _ =>
    obtain ⟨x0, r0, o0, b0⟩ := op_string.op (show _ = some y0 from hf 0 _ rfl)
    replace r0 : RelC W _ (List.take (Tryz.prog.cellsOf 9) (List.drop 0 cs)) := r0
    rw [op_string.cells] at r0
    obtain ⟨x1, r1, o1, b1⟩ := op_int.op (show _ = some y1 from hf 1 _ rfl)
    replace r1 : RelC W _ (List.take (Tryz.prog.cellsOf 3) (List.drop 1 cs)) := r1
    rw [op_int.cells] at r1
    exact ⟨⟨x0, x1⟩, (relC_seg (off := 0) rfl r0 (relC_seg (off := 1) rfl r1 (relC_end hl2))), ⟨o0, o1⟩, by simp only [List.map, Rows.uptoBulk, Rows.uptoBulkAll, TRecipient.bk]; omega⟩⟩
theorem op_s_api_Recipient : Opens Tryz.prog 22 1 (cL TRecipient.pc) (okL TRecipient.ok) (bkL TRecipient.bk) := opens_L op_api_Recipient rfl ty_s_api_Recipient.u (by kernel_rfl)
theorem op_api_Envelope : Opens Tryz.prog 24 3 TEnvelope.pc TEnvelope.ok TEnvelope.bk := ⟨by kernel_rfl, fun _ => rfl, fun {H enc W fuel cs d} h => by
  obtain ⟨xs, n, _, rfl, hl, hlen, hf⟩ := DataW.trod_struct ty_api_Envelope.u h
  have hl2 : cs.length = 3 := hl.trans (by kernel_rfl)
  match xs, hlen with
  | [y0, y1, y2], _ =>
    obtain ⟨x0, r0, o0, b0⟩ := op_string.op (show _ = some y0 from hf 0 _ rfl)
    replace r0 : RelC W _ (List.take (Tryz.prog.cellsOf 9) (List.drop 0 cs)) := r0
    rw [op_string.cells] at r0
    obtain ⟨x1, r1, o1, b1⟩ := op_s_api_Recipient.op (show _ = some y1 from hf 1 _ rfl)
    replace r1 : RelC W _ (List.take (Tryz.prog.cellsOf 22) (List.drop 1 cs)) := r1
    rw [op_s_api_Recipient.cells] at r1
    obtain ⟨x2, r2, o2, b2⟩ := op_string.op (show _ = some y2 from hf 2 _ rfl)
    replace r2 : RelC W _ (List.take (Tryz.prog.cellsOf 9) (List.drop 2 cs)) := r2
    rw [op_string.cells] at r2
    exact ⟨⟨x0, x1, x2⟩, (relC_seg (off := 0) rfl r0 (relC_seg (off := 1) rfl r1 (relC_seg (off := 2) rfl r2 (relC_end hl2)))), ⟨o0, o1, o2⟩, by simp only [List.map, Rows.uptoBulk, Rows.uptoBulkAll, TEnvelope.bk]; omega⟩⟩
theorem op_api_Field : Opens Tryz.prog 76 2 TField.pc TField.ok TField.bk := ⟨by kernel_rfl, fun _ => rfl, fun {H enc W fuel cs d} h => by
  obtain ⟨xs, n, _, rfl, hl, hlen, hf⟩ := DataW.trod_struct ty_api_Field.u h
  have hl2 : cs.length = 2 := hl.trans (by kernel_rfl)
  match xs, hlen with
  | [y0, y1], _ =>
    obtain ⟨x0, r0, o0, b0⟩ := op_string.op (show _ = some y0 from hf 0 _ rfl)
    replace r0 : RelC W _ (List.take (Tryz.prog.cellsOf 9) (List.drop 0 cs)) := r0
    rw [op_string.cells] at r0
    obtain ⟨x1, r1, o1, b1⟩ := op_string.op (show _ = some y1 from hf 1 _ rfl)
    replace r1 : RelC W _ (List.take (Tryz.prog.cellsOf 9) (List.drop 1 cs)) := r1
    rw [op_string.cells] at r1
    exact ⟨⟨x0, x1⟩, (relC_seg (off := 0) rfl r0 (relC_seg (off := 1) rfl r1 (relC_end hl2))), ⟨o0, o1⟩, by simp only [List.map, Rows.uptoBulk, Rows.uptoBulkAll, TField.bk]; omega⟩⟩
theorem op_s_api_Field : Opens Tryz.prog 25 1 (cL TField.pc) (okL TField.ok) (bkL TField.bk) := opens_L op_api_Field rfl ty_s_api_Field.u (by kernel_rfl)
theorem op_uint8 : Opens Tryz.prog 5 1 cU (fun _ => True) (fun _ => 1) := opens_U ty_uint8.u (by kernel_rfl)
theorem op_s_uint8 : Opens Tryz.prog 26 1 (cL cU) (okL (fun _ => True)) (bkL (fun _ => 1)) := opens_L op_uint8 rfl ty_s_uint8.u (by kernel_rfl)
theorem op_api_Message : Opens Tryz.prog 28 2 TMessage.pc TMessage.ok TMessage.bk := ⟨by kernel_rfl, fun _ => rfl, fun {H enc W fuel cs d} h => by
  obtain ⟨xs, n, _, rfl, hl, hlen, hf⟩ := DataW.trod_struct ty_api_Message.u h
  have hl2 : cs.length = 2 := hl.trans (by kernel_rfl)
  match xs, hlen with
  | [y0, y1], _ =>
    obtain ⟨x0, r0, o0, b0⟩ := op_s_api_Field.op (show _ = some y0 from hf 0 _ rfl)
    replace r0 : RelC W _ (List.take (Tryz.prog.cellsOf 25) (List.drop 0 cs)) := r0
    rw [op_s_api_Field.cells] at r0
    obtain ⟨x1, r1, o1, b1⟩ := op_s_uint8.op (show _ = some y1 from hf 1 _ rfl)
    replace r1 : RelC W _ (List.take (Tryz.prog.cellsOf 26) (List.drop 1 cs)) := r1
    rw [op_s_uint8.cells] at r1
    exact ⟨⟨x0, x1⟩, (relC_seg (off := 0) rfl r0 (relC_seg (off := 1) rfl r1 (relC_end hl2))), ⟨o0, o1⟩, by simp only [List.map, Rows.uptoBulk, Rows.uptoBulkAll, TMessage.bk]; omega⟩⟩
theorem op_api_Mail : Opens Tryz.prog 30 5 TMail.pc TMail.ok TMail.bk := ⟨by kernel_rfl, fun _ => rfl, fun {H enc W fuel cs d} h => by
  obtain ⟨xs, n, _, rfl, hl, hlen, hf⟩ := DataW.trod_struct ty_api_Mail.u h
  have hl2 : cs.length = 5 := hl.trans (by kernel_rfl)
  match xs, hlen with
  | [y0, y1], _ =>
    obtain ⟨x0, r0, o0, b0⟩ := op_api_Envelope.op (show _ = some y0 from hf 0 _ rfl)
    replace r0 : RelC W _ (List.take (Tryz.prog.cellsOf 24) (List.drop 0 cs)) := r0
    rw [op_api_Envelope.cells] at r0
    obtain ⟨x1, r1, o1, b1⟩ := op_api_Message.op (show _ = some y1 from hf 1 _ rfl)
    replace r1 : RelC W _ (List.take (Tryz.prog.cellsOf 28) (List.drop 3 cs)) := r1
    rw [op_api_Message.cells] at r1
    exact ⟨⟨x0, x1⟩, (relC_seg (off := 0) rfl r0 (relC_seg (off := 3) rfl r1 (relC_end hl2))), ⟨o0, o1⟩, by simp only [List.map, Rows.uptoBulk, Rows.uptoBulkAll, TMail.bk]; omega⟩⟩
theorem op_s_int : Opens Tryz.prog 39 1 (cL cI) (okL ok64) (bkL (fun _ => 1)) := opens_L op_int rfl ty_s_int.u (by kernel_rfl)
end Go.Proofs.YtfkgmcilaiblfaaGreatDoor

/- Functions of the program as Lean functions: what they compute. Written by program. -/
namespace Go.Proofs.YtfkgmcilaiblfaaGreatDoor
open Go.RowKit
set_option maxRecDepth 100000
set_option maxHeartbeats 40000000
set_option linter.unusedVariables false
def R_In (a0 : Int) (a1 : Int) (a2 : Int) : Option Bool :=
  ((bif decide (a1 ≤ a0) then some (decide (a0 ≤ a2)) else some false) : Option Bool).bind fun (j1 : Bool) => some j1
def R_At (a0 : Int) (a1 : Int) : Option TFault :=
  some ((TFault.mk a0 a1))
def basic_Fault (a0 : Int) (a1 : Int) : Option TFault :=
  some ((TFault.mk a0 a1))
def basic_None  : Option TFault :=
  some ((TFault.mk 0 0))
def basic_Failed (a0 : TFault) : Option Bool :=
  some ((a0.Code != 0))
def basic_Time (a0 : Int) : Option Bool :=
  ((bif decide ((-68719476736) ≤ a0) then some (decide (a0 ≤ 68719476736)) else some false) : Option Bool).bind fun (j1 : Bool) => some j1
def basic_Letter (a0 : UInt8) : Option Bool :=
  ((bif decide (97 ≤ (a0.toNat : Int)) then (bif decide ((a0.toNat : Int) ≤ 122) then some true else (bif decide (65 ≤ (a0.toNat : Int)) then (bif decide ((a0.toNat : Int) ≤ 90) then some true else (bif decide (48 ≤ (a0.toNat : Int)) then some (decide ((a0.toNat : Int) ≤ 57)) else some false)) else (bif decide (48 ≤ (a0.toNat : Int)) then some (decide ((a0.toNat : Int) ≤ 57)) else some false))) else (bif decide (65 ≤ (a0.toNat : Int)) then (bif decide ((a0.toNat : Int) ≤ 90) then some true else (bif decide (48 ≤ (a0.toNat : Int)) then some (decide ((a0.toNat : Int) ≤ 57)) else some false)) else (bif decide (48 ≤ (a0.toNat : Int)) then some (decide ((a0.toNat : Int) ≤ 57)) else some false))) : Option Bool).bind fun (j1 : Bool) => some j1
end Go.Proofs.YtfkgmcilaiblfaaGreatDoor

/- Library functions as Lean functions. -/
namespace Go.Proofs.YtfkgmcilaiblfaaGreatDoor
open Go.RowKit
def strings_IndexByte (s : Str) (c : UInt8) : Option Int := some (Lib.indexByte s c)
def strings_Contains (s t : Str) : Option Bool := if s.length < 4294967281 then some (Lib.contains s t) else none
def strings_Cut (s t : Str) : Option (Str × Str × Bool) := if s.length < 4294967281 then some (Lib.cut s t) else none
end Go.Proofs.YtfkgmcilaiblfaaGreatDoor

/- Functions of the program as Lean functions: what they compute. Written by program. -/
namespace Go.Proofs.YtfkgmcilaiblfaaGreatDoor
open Go.RowKit
set_option maxRecDepth 100000
set_option maxHeartbeats 40000000
set_option linter.unusedVariables false
def unicode_utf8_ValidRune (a0 : Int) : Option Bool :=
  ((bif decide (0 ≤ a0) then some (decide (a0 < 55296)) else some false) : Option Bool).bind fun (j1 : Bool) => (bif j1 then some true else ((bif decide (57343 < a0) then some (decide (a0 ≤ 1114111)) else some false) : Option Bool).bind fun (j4 : Bool) => (bif j4 then some true else some false))
def strings_IndexRune_l1 (a0 : Str) (s7 : Nat) : Option (Step Nat (Unit ⊕ Int)) :=
  (bif decide (s7 < a0.length) then (bif ((runeAt a0 s7) == 65533) then some (.out (.inr (((s7 : Nat) : Int)))) else some (.cont (s7 + wideAt a0 s7))) else some (.out (.inl (()))))
def strings_IndexRune_l4 (a0 : Str) (a1 : Int) (j23 : Int × Int) (s36 : Int) : Option (Step Int Unit) :=
  (bif decide (s36 < (((runeS a1)).length : Int)) then (idx a0 ((w64 (j23.2 - s36)))).bind fun v40 => (idx ((runeS a1)) ((w64 (j23.1 - s36)))).bind fun v42 => (bif ((v40.toNat : Int) != (v42.toNat : Int)) then none else some (.cont (w64 (s36 + 1)))) else some (.out (())))
noncomputable def strings_IndexRune_k3 (a0 : Str) (a1 : Int) (j23 : Int × Int) : Option (Step Int (Unit ⊕ Int)) :=
  (iter (strings_IndexRune_l4 a0 a1 j23) 1).bind fun b37 => some (.out (.inr ((w64 (j23.2 - j23.1)))))
noncomputable def strings_IndexRune_l2 (a0 : Str) (a1 : Int) (s17 : Int) : Option (Step Int (Unit ⊕ Int)) :=
  (bif decide (s17 < (a0.length : Int)) then (idx a0 s17).bind fun v24 => (idx ((runeS a1)) ((w64 ((((runeS a1)).length : Int) - 1)))).bind fun v26 => (bif ((v24.toNat : Int) != (v26.toNat : Int)) then (cut a0 ((w64 (s17 + 1))) ((a0.length : Int))).bind fun v29 => (idx ((runeS a1)) ((w64 ((((runeS a1)).length : Int) - 1)))).bind fun v31 => (strings_IndexByte v29 v31).bind fun v33 => (bif decide (v33 < 0) then some (.out (.inr ((-1)))) else (strings_IndexRune_k3 a0 a1 ((w64 ((((runeS a1)).length : Int) - 1)), (w64 (s17 + (w64 (v33 + 1))))))) else (strings_IndexRune_k3 a0 a1 ((w64 ((((runeS a1)).length : Int) - 1)), s17))) else some (.out (.inl (()))))
noncomputable def strings_IndexRune (a0 : Str) (a1 : Int) : Option Int :=
  ((bif decide (0 ≤ a1) then some (decide (a1 < 128)) else some false) : Option Bool).bind fun (j1 : Bool) => (bif j1 then (strings_IndexByte a0 ((toU8 a1))).bind fun v4 => some v4 else (bif (a1 == 65533) then (iter (strings_IndexRune_l1 a0) 0).bind (Sum.elim (fun b8 => some ((-1))) (fun b9 => some b9)) else (unicode_utf8_ValidRune a1).bind fun v14 => (bif (!v14) then some ((-1)) else (iter (strings_IndexRune_l2 a0 a1) ((w64 ((((runeS a1)).length : Int) - 1)))).bind (Sum.elim (fun b18 => some ((-1))) (fun b19 => some b19)))))
def strings_shouldUseASCIISet (a0 : Int) : Option Bool :=
  some (decide (8 < a0))
noncomputable def strings_IndexAnyP_l1 (a0 : Str) (a1 : Str) (s12 : Nat) : Option (Step Nat (Unit ⊕ Int)) :=
  (bif decide (s12 < a0.length) then (strings_IndexRune a1 ((runeAt a0 s12))).bind fun v18 => (bif decide (0 ≤ v18) then some (.out (.inr (((s12 : Nat) : Int)))) else some (.cont (s12 + wideAt a0 s12))) else some (.out (.inl (()))))
noncomputable def strings_IndexAnyP (a0 : Str) (a1 : Str) : Option Int :=
  (bif (a1 == ([] : Str)) then some ((-1)) else (bif ((a1.length : Int) == 1) then (idx a1 0).bind fun v3 => ((bif decide (128 ≤ (v3.toNat : Int)) then some 65533 else some ((v3.toNat : Int))) : Option Int).bind fun (j5 : Int) => (strings_IndexRune a0 j5).bind fun v7 => some v7 else (strings_shouldUseASCIISet ((a0.length : Int))).bind fun v9 => (bif v9 then none else (iter (strings_IndexAnyP_l1 a0 a1) 0).bind (Sum.elim (fun b13 => some ((-1))) (fun b14 => some b14)))))
end Go.Proofs.YtfkgmcilaiblfaaGreatDoor

/- Library functions as Lean functions. -/
namespace Go.Proofs.YtfkgmcilaiblfaaGreatDoor
open Go.RowKit
def asciiL (t : Str) : Bool := t.all fun c => decide (c.toNat < 128)
def strings_IndexAny (s t : Str) : Option Int := if s.length < 4294967281 ∧ t.length < 4294967281 ∧ 2 ≤ t.length ∧ asciiL t = true then some (Lib.indexAny s t) else none
end Go.Proofs.YtfkgmcilaiblfaaGreatDoor

/- Functions of the program as Lean functions: what they compute. Written by program. -/
namespace Go.Proofs.YtfkgmcilaiblfaaGreatDoor
open Go.RowKit
set_option maxRecDepth 100000
set_option maxHeartbeats 40000000
set_option linter.unusedVariables false
end Go.Proofs.YtfkgmcilaiblfaaGreatDoor

/- Functions of the program as Lean functions: what they compute. Written by program. -/
namespace Go.Proofs.YtfkgmcilaiblfaaGreatDoor
open Go.RowKit
set_option maxRecDepth 100000
set_option maxHeartbeats 40000000
set_option linter.unusedVariables false
end Go.Proofs.YtfkgmcilaiblfaaGreatDoor

/- Functions of the program as Lean functions: what they compute. Written by program. -/
namespace Go.Proofs.YtfkgmcilaiblfaaGreatDoor
open Go.RowKit
set_option maxRecDepth 100000
set_option maxHeartbeats 40000000
set_option linter.unusedVariables false
end Go.Proofs.YtfkgmcilaiblfaaGreatDoor

/- Functions of the program as Lean functions: what they compute. Written by program. -/
namespace Go.Proofs.YtfkgmcilaiblfaaGreatDoor
open Go.RowKit
set_option maxRecDepth 100000
set_option maxHeartbeats 40000000
set_option linter.unusedVariables false
def internal_stringslite_HasPrefix (a0 : Str) (a1 : Str) : Option Bool :=
  ((bif decide ((a1.length : Int) ≤ (a0.length : Int)) then (cut a0 0 ((a1.length : Int))).bind fun v3 => some ((v3 == a1)) else some false) : Option Bool).bind fun (j1 : Bool) => some j1
def strings_HasPrefix (a0 : Str) (a1 : Str) : Option Bool :=
  (internal_stringslite_HasPrefix a0 a1).bind fun v1 => some v1
def internal_stringslite_HasSuffix (a0 : Str) (a1 : Str) : Option Bool :=
  ((bif decide ((a1.length : Int) ≤ (a0.length : Int)) then (cut a0 ((w64 ((a0.length : Int) - (a1.length : Int)))) ((a0.length : Int))).bind fun v3 => some ((v3 == a1)) else some false) : Option Bool).bind fun (j1 : Bool) => some j1
def strings_HasSuffix (a0 : Str) (a1 : Str) : Option Bool :=
  (internal_stringslite_HasSuffix a0 a1).bind fun v1 => some v1
def envelope_Domain_l1 (a0 : Str) (s5 : Int) : Option (Step Int (Unit ⊕ Unit)) :=
  (bif decide (s5 < (a0.length : Int)) then (idx a0 s5).bind fun v11 => ((bif decide (97 ≤ (v11.toNat : Int)) then (bif decide ((v11.toNat : Int) ≤ 122) then some true else (bif decide (48 ≤ (v11.toNat : Int)) then (bif decide ((v11.toNat : Int) ≤ 57) then some true else (bif ((v11.toNat : Int) == 45) then some true else some (((v11.toNat : Int) == 46)))) else (bif ((v11.toNat : Int) == 45) then some true else some (((v11.toNat : Int) == 46))))) else (bif decide (48 ≤ (v11.toNat : Int)) then (bif decide ((v11.toNat : Int) ≤ 57) then some true else (bif ((v11.toNat : Int) == 45) then some true else some (((v11.toNat : Int) == 46)))) else (bif ((v11.toNat : Int) == 45) then some true else some (((v11.toNat : Int) == 46))))) : Option Bool).bind fun (j13 : Bool) => (bif (!j13) then some (.out (.inr (()))) else some (.cont (w64 (s5 + 1)))) else some (.out (.inl (()))))
noncomputable def envelope_Domain (a0 : Str) : Option Bool :=
  ((bif (a0 != ([] : Str)) then (bif decide ((a0.length : Int) ≤ 60) then ((iter (envelope_Domain_l1 a0) 0).bind (Sum.elim (fun b6 => some true) (fun b7 => some false)) : Option Bool).bind fun (j4 : Bool) => (bif j4 then (strings_HasPrefix a0 (([46] : Str))).bind fun v26 => (bif (!v26) then (strings_HasSuffix a0 (([46] : Str))).bind fun v29 => (bif (!v29) then (strings_Contains a0 (([46, 46] : Str))).bind fun v32 => some ((!v32)) else some false) else some false) else some false) else some false) else some false) : Option Bool).bind fun (j1 : Bool) => some j1
def envelope_Split_l1 (v1 : Str × Str × Bool) (s8 : Int) : Option (Step Int (Unit ⊕ Unit)) :=
  (bif decide (s8 < (v1.1.length : Int)) then (idx v1.1 s8).bind fun v14 => ((basic_Letter v14).bind fun v17 => (bif v17 then some true else (strings_IndexByte (([45, 95, 46, 43, 61] : Str)) v14).bind fun v20 => some (decide (0 ≤ v20))) : Option Bool).bind fun (j16 : Bool) => (bif (!j16) then some (.out (.inr (()))) else some (.cont (w64 (s8 + 1)))) else some (.out (.inl (()))))
noncomputable def envelope_Split (a0 : Str) : Option (Str × Str × Bool) :=
  (strings_Cut a0 (([64] : Str))).bind fun v1 => ((bif v1.2.2 then (bif (v1.1 != ([] : Str)) then (bif decide ((v1.1.length : Int) ≤ 60) then ((iter (envelope_Split_l1 v1) 0).bind (Sum.elim (fun b9 => some true) (fun b10 => some false)) : Option Bool).bind fun (j7 : Bool) => (bif j7 then (envelope_Domain v1.2.1).bind fun v24 => some v24 else some false) else some false) else some false) else some false) : Option Bool).bind fun (j3 : Bool) => some ((v1.1, v1.2.1, j3))
noncomputable def envelope_Address (a0 : Str) : Option Bool :=
  (envelope_Split a0).bind fun v1 => some v1.2.2
end Go.Proofs.YtfkgmcilaiblfaaGreatDoor

/- Functions of the program as Lean functions: what they compute. Written by program. -/
namespace Go.Proofs.YtfkgmcilaiblfaaGreatDoor
open Go.RowKit
set_option maxRecDepth 100000
set_option maxHeartbeats 40000000
set_option linter.unusedVariables false
end Go.Proofs.YtfkgmcilaiblfaaGreatDoor

/- Functions of the program as Lean functions: what they compute. Written by program. -/
namespace Go.Proofs.YtfkgmcilaiblfaaGreatDoor
open Go.RowKit
set_option maxRecDepth 100000
set_option maxHeartbeats 40000000
set_option linter.unusedVariables false
def basic_Name_l1 (a0 : Str) (s5 : Int) : Option (Step Int (Unit ⊕ Unit)) :=
  (bif decide (s5 < (a0.length : Int)) then (idx a0 s5).bind fun v11 => ((basic_Letter v11).bind fun v14 => (bif v14 then some true else (bif ((v11.toNat : Int) == 45) then some true else (bif ((v11.toNat : Int) == 95) then some true else some (((v11.toNat : Int) == 46))))) : Option Bool).bind fun (j13 : Bool) => (bif (!j13) then some (.out (.inr (()))) else some (.cont (w64 (s5 + 1)))) else some (.out (.inl (()))))
noncomputable def basic_Name (a0 : Str) : Option Bool :=
  ((bif (a0 != ([] : Str)) then (bif decide ((a0.length : Int) ≤ 60) then ((iter (basic_Name_l1 a0) 0).bind (Sum.elim (fun b6 => some true) (fun b7 => some false)) : Option Bool).bind fun (j4 : Bool) => some j4 else some false) else some false) : Option Bool).bind fun (j1 : Bool) => some j1
def envelope_Notify (a0 : Int) : Option Bool :=
  ((bif decide (0 ≤ a0) then some (decide (a0 ≤ 7)) else some false) : Option Bool).bind fun (j1 : Bool) => some j1
def envelope_Recipients_l2 (v7 : TRecipient) (v19 : List TRecipient) (s22 : Int) : Option (Step Int (Unit ⊕ Int)) :=
  (bif decide (s22 < (v19.length : Int)) then (idx v19 s22).bind fun v28 => (bif (v28.Address == v7.Address) then some (.out (.inr s22)) else some (.cont (w64 (s22 + 1)))) else some (.out (.inl (()))))
noncomputable def envelope_Recipients_l1 (a0 : List TRecipient) (s1 : Int) : Option (Step Int (Unit ⊕ TFault)) :=
  (bif decide (s1 < (a0.length : Int)) then (idx a0 s1).bind fun v7 => (envelope_Address v7.Address).bind fun v9 => (bif (!v9) then (basic_Fault 10 s1).bind fun v12 => some (.out (.inr v12)) else (envelope_Notify v7.Notify).bind fun v14 => (bif (!v14) then (basic_Fault 3 s1).bind fun v17 => some (.out (.inr v17)) else (cut a0 0 s1).bind fun v19 => ((iter (envelope_Recipients_l2 v7 v19) 0).bind (Sum.elim (fun b23 => some ((-1))) (fun b24 => some b24)) : Option Int).bind fun (j21 : Int) => (bif decide (0 ≤ j21) then (basic_Fault 7 s1).bind fun v32 => some (.out (.inr v32)) else some (.cont (w64 (s1 + 1)))))) else some (.out (.inl (()))))
noncomputable def envelope_Recipients (a0 : List TRecipient) : Option TFault :=
  (iter (envelope_Recipients_l1 a0) 0).bind (Sum.elim (fun b2 => (basic_None).bind fun v34 => some v34) (fun b3 => some b3))
noncomputable def envelope_Validate (a0 : TEnvelope) : Option TFault :=
  ((bif (a0.From != ([] : Str)) then (envelope_Address a0.From).bind fun v3 => some ((!v3)) else some false) : Option Bool).bind fun (j1 : Bool) => (bif j1 then (basic_Fault 10 ((-10))).bind fun v6 => some v6 else ((bif decide ((a0.To.length : Int) < 1) then some true else some (decide (60 < (a0.To.length : Int)))) : Option Bool).bind fun (j8 : Bool) => (bif j8 then (basic_Fault 2 ((-11))).bind fun v11 => some v11 else ((bif (a0.Id != ([] : Str)) then (basic_Name a0.Id).bind fun v15 => some ((!v15)) else some false) : Option Bool).bind fun (j13 : Bool) => (bif j13 then (basic_Fault 10 ((-12))).bind fun v18 => some v18 else (envelope_Recipients a0.To).bind fun v20 => some v20)))
def slices_Index_string_string_l1 (a0 : List Str) (a1 : Str) (s1 : Int) : Option (Step Int (Unit ⊕ Int)) :=
  (bif decide (s1 < (a0.length : Int)) then (idx a0 s1).bind fun v7 => (bif (a1 == v7) then some (.out (.inr s1)) else some (.cont (w64 (s1 + 1)))) else some (.out (.inl (()))))
noncomputable def slices_Index_string_string (a0 : List Str) (a1 : Str) : Option Int :=
  (iter (slices_Index_string_string_l1 a0 a1) 0).bind (Sum.elim (fun b2 => some ((-1))) (fun b3 => some b3))
end Go.Proofs.YtfkgmcilaiblfaaGreatDoor

/- Functions of the program as Lean functions: what they compute. Written by program. -/
namespace Go.Proofs.YtfkgmcilaiblfaaGreatDoor
open Go.RowKit
set_option maxRecDepth 100000
set_option maxHeartbeats 40000000
set_option linter.unusedVariables false
def strings_ContainsAny (a0 : Str) (a1 : Str) : Option Bool :=
  (strings_IndexAny a0 a1).bind fun v1 => some (decide (0 ≤ v1))
def fold_name_l1 (a0 : Str) (s5 : Int) : Option (Step Int (Unit ⊕ Unit)) :=
  (bif decide (s5 < (a0.length : Int)) then (idx a0 s5).bind fun v11 => ((bif decide (33 ≤ (v11.toNat : Int)) then (bif decide ((v11.toNat : Int) ≤ 126) then some (((v11.toNat : Int) != 58)) else some false) else some false) : Option Bool).bind fun (j13 : Bool) => (bif (!j13) then some (.out (.inr (()))) else some (.cont (w64 (s5 + 1)))) else some (.out (.inl (()))))
noncomputable def fold_name (a0 : Str) : Option Bool :=
  ((bif (a0 != ([] : Str)) then (bif decide ((a0.length : Int) ≤ 60) then ((iter (fold_name_l1 a0) 0).bind (Sum.elim (fun b6 => some true) (fun b7 => some false)) : Option Bool).bind fun (j4 : Bool) => some j4 else some false) else some false) : Option Bool).bind fun (j1 : Bool) => some j1
def fold_ends (a0 : Str) : Option Bool :=
  (strings_ContainsAny a0 (([13, 10, 0] : Str))).bind fun v1 => some v1
def basic_Blank (a0 : UInt8) : Option Bool :=
  ((bif ((a0.toNat : Int) == 32) then some true else some (((a0.toNat : Int) == 9))) : Option Bool).bind fun (j1 : Bool) => some j1
def fold_value (a0 : Str) : Option Bool :=
  ((fold_ends a0).bind fun v2 => (bif (!v2) then (bif (a0 == ([] : Str)) then some true else (idx a0 0).bind fun v6 => (basic_Blank v6).bind fun v8 => (bif (!v8) then (idx a0 ((w64 ((a0.length : Int) - 1)))).bind fun v11 => (basic_Blank v11).bind fun v13 => some ((!v13)) else some false)) else some false) : Option Bool).bind fun (j1 : Bool) => some j1
def fold_point_k2 (s1 : Int × Int) (j5 : Int) : Option (Step (Int × Int) Int) :=
  some (.cont (j5, (w64 (s1.2 + 1))))
def fold_point_l1 (a0 : Str) (s1 : Int × Int) : Option (Step (Int × Int) Int) :=
  (bif decide (s1.2 < (a0.length : Int)) then ((idx a0 s1.2).bind fun v7 => (basic_Blank v7).bind fun v9 => (bif (!v9) then some true else (idx a0 ((w64 (s1.2 - 1)))).bind fun v12 => (basic_Blank v12).bind fun v14 => some v14) : Option Bool).bind fun (j6 : Bool) => (bif j6 then (fold_point_k2 s1 s1.1) else ((bif decide (0 < s1.1) then some (decide (78 < s1.2)) else some false) : Option Bool).bind fun (j17 : Bool) => (bif j17 then some (.out s1.1) else (fold_point_k2 s1 s1.2))) else some (.out s1.1))
noncomputable def fold_point (a0 : Str) (a1 : Int) : Option Int :=
  (iter (fold_point_l1 a0) ((0, (max a1 1)))).bind fun b2 => some b2
noncomputable def fold_Fold_l1  (s18 : Str × Int × (List Str)) : Option (Step (Str × Int × (List Str)) (Str × (List Str))) :=
  (bif decide (78 < (s18.1.length : Int)) then (fold_point s18.1 s18.2.1).bind fun v22 => (bif (v22 == 0) then some (.out ((s18.1, s18.2.2))) else (cut s18.1 0 v22).bind fun v25 => (app 8796093022208 s18.2.2 (([v25] : List Str))).bind fun v27 => (cut s18.1 v22 ((s18.1.length : Int))).bind fun v29 => some (.cont (v29, 0, v27))) else some (.out ((s18.1, s18.2.2))))
def fold_Fold_l2 (v31 : List Str) (s34 : Int) : Option (Step Int (Unit ⊕ ((List Str) × TFault))) :=
  (bif decide (s34 < (v31.length : Int)) then (idx v31 s34).bind fun v40 => (bif decide (998 < (v40.length : Int)) then (basic_Fault 1 s34).bind fun v43 => some (.out (.inr (([], v43)))) else some (.cont (w64 (s34 + 1)))) else some (.out (.inl (()))))
noncomputable def fold_Fold (a0 : Str) (a1 : Str) : Option ((List Str) × TFault) :=
  (fold_name a0).bind fun v1 => (bif (!v1) then (basic_Fault 10 ((-1))).bind fun v4 => some (([], v4)) else (bif decide (4000 < (a1.length : Int)) then (basic_Fault 1 ((-1))).bind fun v7 => some (([], v7)) else (fold_value a1).bind fun v9 => (bif (!v9) then (basic_Fault 11 ((-1))).bind fun v12 => some (([], v12)) else (cat a0 (([58, 32] : Str))).bind fun v14 => (cat v14 a1).bind fun v16 => (iter (fold_Fold_l1) ((v16, (w64 ((a0.length : Int) + 2)), ([] : List Str)))).bind fun b19 => (app 8796093022208 b19.2 (([b19.1] : List Str))).bind fun v31 => (iter (fold_Fold_l2 v31) 0).bind (Sum.elim (fun b35 => (basic_None).bind fun v45 => some ((v31, v45))) (fun b36 => some ((b36.1, b36.2)))))))
end Go.Proofs.YtfkgmcilaiblfaaGreatDoor

/- Functions of the program as Lean functions: what they compute. Written by program. -/
namespace Go.Proofs.YtfkgmcilaiblfaaGreatDoor
open Go.RowKit
set_option maxRecDepth 100000
set_option maxHeartbeats 40000000
set_option linter.unusedVariables false
noncomputable def header_Validate_l1 (a0 : List TField) (s4 : Int) : Option (Step Int (Unit ⊕ TFault)) :=
  (bif decide (s4 < (a0.length : Int)) then (idx a0 s4).bind fun v10 => (fold_Fold v10.Name v10.Value).bind fun v12 => (basic_Failed v12.2).bind fun v14 => (bif v14 then (basic_Fault v12.2.Code s4).bind fun v17 => some (.out (.inr v17)) else some (.cont (w64 (s4 + 1)))) else some (.out (.inl (()))))
noncomputable def header_Validate (a0 : List TField) : Option TFault :=
  (bif decide (60 < (a0.length : Int)) then (basic_Fault 2 ((-1))).bind fun v2 => some v2 else (iter (header_Validate_l1 a0) 0).bind (Sum.elim (fun b5 => (basic_None).bind fun v19 => some v19) (fun b6 => some b6)))
def message_write_l2 (v7 : (List Str) × TFault) (s9 : Int × (List UInt8)) : Option (Step (Int × (List UInt8)) (List UInt8)) :=
  (bif decide (s9.1 < (v7.1.length : Int)) then (idx v7.1 s9.1).bind fun v13 => (app 140737488355328 s9.2 v13).bind fun v15 => (app 140737488355328 v15 (([(13 : UInt8), (10 : UInt8)] : List UInt8))).bind fun v17 => some (.cont ((w64 (s9.1 + 1)), v17)) else some (.out s9.2))
noncomputable def message_write_l1 (a0 : TMessage) (s1 : Int × (List UInt8)) : Option (Step (Int × (List UInt8)) (List UInt8)) :=
  (bif decide (s1.1 < (a0.Fields.length : Int)) then (idx a0.Fields s1.1).bind fun v5 => (fold_Fold v5.Name v5.Value).bind fun v7 => (iter (message_write_l2 v7) ((0, s1.2))).bind fun b10 => some (.cont ((w64 (s1.1 + 1)), b10)) else some (.out s1.2))
noncomputable def message_write (a0 : TMessage) : Option (List UInt8) :=
  (iter (message_write_l1 a0) ((0, ([] : List UInt8)))).bind fun b2 => (app 140737488355328 b2 (([(13 : UInt8), (10 : UInt8)] : List UInt8))).bind fun v19 => (app 140737488355328 v19 a0.Body).bind fun v21 => some v21
def basic_Body_k2  (j7 : Int × Int) : Option (Step (Int × Int) (Unit ⊕ Int)) :=
  some (.cont (j7.1, (w64 (j7.2 + 1))))
def basic_Body_l1 (a0 : List UInt8) (s1 : Int × Int) : Option (Step (Int × Int) (Unit ⊕ Int)) :=
  (bif decide (s1.2 < (a0.length : Int)) then (idx a0 s1.2).bind fun v8 => ((bif ((v8.toNat : Int) == 13) then (bif decide ((w64 (s1.2 + 1)) < (a0.length : Int)) then (idx a0 ((w64 (s1.2 + 1)))).bind fun v13 => some (((v13.toNat : Int) == 10)) else some false) else some false) : Option Bool).bind fun (j10 : Bool) => (bif j10 then (basic_Body_k2  (0, (w64 (s1.2 + 1)))) else ((bif ((v8.toNat : Int) == 13) then some true else some (((v8.toNat : Int) == 10))) : Option Bool).bind fun (j16 : Bool) => (bif j16 then some (.out (.inr 11)) else (bif decide (998 < (w64 (s1.1 + 1))) then some (.out (.inr 1)) else (basic_Body_k2  ((w64 (s1.1 + 1)), s1.2))))) else some (.out (.inl (()))))
noncomputable def basic_Body (a0 : List UInt8) : Option Int :=
  (iter (basic_Body_l1 a0) ((0, 0))).bind (Sum.elim (fun b2 => some 0) (fun b3 => some b3))
noncomputable def message_body (a0 : List UInt8) : Option TFault :=
  (basic_Body a0).bind fun v1 => (bif (v1 == 11) then (basic_Fault 11 ((-5))).bind fun v4 => some v4 else (bif (v1 == 1) then (basic_Fault 1 ((-6))).bind fun v7 => some v7 else (basic_None).bind fun v9 => some v9))
noncomputable def message_Validate (a0 : TMessage) : Option TFault :=
  (header_Validate a0.Fields).bind fun v1 => (basic_Failed v1).bind fun v3 => (bif v3 then some v1 else (message_write a0).bind fun v6 => (bif decide (12000 < (v6.length : Int)) then (basic_Fault 1 ((-4))).bind fun v9 => some v9 else (message_body a0.Body).bind fun v11 => some v11))
noncomputable def envelope_Check (a0 : TMail) : Option TFault :=
  (envelope_Validate a0.Envelope).bind fun v1 => (basic_Failed v1).bind fun v3 => (bif v3 then some v1 else (message_Validate a0.Message).bind fun v6 => (basic_Failed v6).bind fun v8 => (bif v8 then (basic_Fault v6.Code ((-30))).bind fun v11 => some v11 else (basic_None).bind fun v13 => some v13))
end Go.Proofs.YtfkgmcilaiblfaaGreatDoor

/- Functions of the program as Lean functions: what they compute. Written by program. -/
namespace Go.Proofs.YtfkgmcilaiblfaaGreatDoor
open Go.RowKit
set_option maxRecDepth 100000
set_option maxHeartbeats 40000000
set_option linter.unusedVariables false
noncomputable def header_name (a0 : Str) : Option Bool :=
  (fold_Fold a0 (([] : Str))).bind fun v1 => (basic_Failed v1.2).bind fun v3 => some ((!v3))
noncomputable def header_valid (a0 : List TField) (a1 : Str) : Option TFault :=
  (header_Validate a0).bind fun v1 => (basic_Failed v1).bind fun v3 => (bif v3 then some v1 else (header_name a1).bind fun v6 => (bif (!v6) then (basic_Fault 10 ((-3))).bind fun v9 => some v9 else (basic_None).bind fun v11 => some v11))
def basic_Lower_l1 (a0 : Str) (s1 : Int × (List UInt8)) : Option (Step (Int × (List UInt8)) (List UInt8)) :=
  (bif decide (s1.1 < (a0.length : Int)) then ((idx s1.2 s1.1).bind fun v6 => (idx s1.2 s1.1).bind fun v8 => ((bif decide (65 ≤ (v8.toNat : Int)) then some (decide ((v8.toNat : Int) ≤ 90)) else some false) : Option Bool).bind fun (j10 : Bool) => (bif j10 then (idx s1.2 s1.1).bind fun v13 => (idx s1.2 s1.1).bind fun v15 => some ((List.set s1.2 (Int.toNat s1.1) (((v8 + (97 : UInt8)) - (65 : UInt8))))) else some s1.2) : Option (List UInt8)).bind fun (j5 : List UInt8) => some (.cont ((w64 (s1.1 + 1)), j5)) else some (.out s1.2))
noncomputable def basic_Lower (a0 : Str) : Option Str :=
  (iter (basic_Lower_l1 a0) ((0, a0))).bind fun b2 => some b2
noncomputable def basic_Same (a0 : Str) (a1 : Str) : Option Bool :=
  ((bif ((a0.length : Int) == (a1.length : Int)) then (basic_Lower a0).bind fun v3 => (basic_Lower a1).bind fun v5 => some ((v3 == v5)) else some false) : Option Bool).bind fun (j1 : Bool) => some j1
noncomputable def header_Get_l1 (a0 : List TField) (a1 : Str) (s6 : Int × (List Str)) : Option (Step (Int × (List Str)) (List Str)) :=
  (bif decide (s6.1 < (a0.length : Int)) then ((idx a0 s6.1).bind fun v11 => (basic_Same v11.Name a1).bind fun v13 => (bif v13 then (app 8796093022208 s6.2 (([v11.Value] : List Str))).bind fun v16 => some v16 else some s6.2) : Option (List Str)).bind fun (j10 : List Str) => some (.cont ((w64 (s6.1 + 1)), j10)) else some (.out s6.2))
noncomputable def header_Get (a0 : List TField) (a1 : Str) : Option ((List Str) × TFault) :=
  (header_valid a0 a1).bind fun v1 => (basic_Failed v1).bind fun v3 => (bif v3 then some (([], v1)) else (iter (header_Get_l1 a0 a1) ((0, ([] : List Str)))).bind fun b7 => (basic_None).bind fun v18 => some ((b7, v18)))
def L_plain_l1 (a0 : List Str) (s1 : Int × (List TRecipient)) : Option (Step (Int × (List TRecipient)) (List TRecipient)) :=
  (bif decide (s1.1 < (a0.length : Int)) then (idx a0 s1.1).bind fun v5 => (app 5864062014805 s1.2 (([(TRecipient.mk v5 1)] : List TRecipient))).bind fun v7 => some (.cont ((w64 (s1.1 + 1)), v7)) else some (.out s1.2))
noncomputable def L_plain (a0 : List Str) : Option TMail :=
  (iter (L_plain_l1 a0) ((0, ([] : List TRecipient)))).bind fun b2 => some ((TMail.mk ((TEnvelope.mk (([115, 64, 120] : Str)) b2 (([55] : Str)))) ((TMessage.mk ([]) ([])))))
end Go.Proofs.YtfkgmcilaiblfaaGreatDoor

/- Functions of the program as Lean functions: what they compute. Written by program. -/
namespace Go.Proofs.YtfkgmcilaiblfaaGreatDoor
open Go.RowKit
set_option maxRecDepth 100000
set_option maxHeartbeats 40000000
set_option linter.unusedVariables false
end Go.Proofs.YtfkgmcilaiblfaaGreatDoor

/- Functions of the program as Lean functions: what they compute. Written by program. -/
namespace Go.Proofs.YtfkgmcilaiblfaaGreatDoor
open Go.RowKit
set_option maxRecDepth 100000
set_option maxHeartbeats 40000000
set_option linter.unusedVariables false
end Go.Proofs.YtfkgmcilaiblfaaGreatDoor

/- Functions of the program as Lean functions: what they compute. Written by program. -/
namespace Go.Proofs.YtfkgmcilaiblfaaGreatDoor
open Go.RowKit
set_option maxRecDepth 100000
set_option maxHeartbeats 40000000
set_option linter.unusedVariables false
end Go.Proofs.YtfkgmcilaiblfaaGreatDoor

/- Functions of the program as Lean functions: what they compute. Written by program. -/
namespace Go.Proofs.YtfkgmcilaiblfaaGreatDoor
open Go.RowKit
set_option maxRecDepth 100000
set_option maxHeartbeats 40000000
set_option linter.unusedVariables false
end Go.Proofs.YtfkgmcilaiblfaaGreatDoor

/- Numerals of the library as Lean functions. -/
namespace Go.Proofs.YtfkgmcilaiblfaaGreatDoor
open Go.RowKit
def strconv_Itoa (n : Int) : Option Str := if -9223372036854775808 ≤ n ∧ n ≤ 9223372036854775807 then some (Lib.itoa n) else none
end Go.Proofs.YtfkgmcilaiblfaaGreatDoor

/- Functions of the program as Lean functions: what they compute. Written by program. -/
namespace Go.Proofs.YtfkgmcilaiblfaaGreatDoor
open Go.RowKit
set_option maxRecDepth 100000
set_option maxHeartbeats 40000000
set_option linter.unusedVariables false
def R_Digits_r0 (a0 : Int) : Option Str :=
  (bif decide (a0 < 10) then (cut (([48, 49, 50, 51, 52, 53, 54, 55, 56, 57] : Str)) a0 ((w64 (a0 + 1)))).bind fun v2 => some v2 else none)
def R_Digits_r1 (a0 : Int) : Option Str :=
  (bif decide (a0 < 10) then (cut (([48, 49, 50, 51, 52, 53, 54, 55, 56, 57] : Str)) a0 ((w64 (a0 + 1)))).bind fun v2 => some v2 else (R_Digits_r0 ((iQuo a0 10))).bind fun v4 => (R_Digits_r0 ((iRem a0 10))).bind fun v6 => (cat v4 v6).bind fun v8 => some v8)
def R_Digits_r2 (a0 : Int) : Option Str :=
  (bif decide (a0 < 10) then (cut (([48, 49, 50, 51, 52, 53, 54, 55, 56, 57] : Str)) a0 ((w64 (a0 + 1)))).bind fun v2 => some v2 else (R_Digits_r1 ((iQuo a0 10))).bind fun v4 => (R_Digits_r1 ((iRem a0 10))).bind fun v6 => (cat v4 v6).bind fun v8 => some v8)
def R_Digits_r3 (a0 : Int) : Option Str :=
  (bif decide (a0 < 10) then (cut (([48, 49, 50, 51, 52, 53, 54, 55, 56, 57] : Str)) a0 ((w64 (a0 + 1)))).bind fun v2 => some v2 else (R_Digits_r2 ((iQuo a0 10))).bind fun v4 => (R_Digits_r2 ((iRem a0 10))).bind fun v6 => (cat v4 v6).bind fun v8 => some v8)
def R_Digits_r4 (a0 : Int) : Option Str :=
  (bif decide (a0 < 10) then (cut (([48, 49, 50, 51, 52, 53, 54, 55, 56, 57] : Str)) a0 ((w64 (a0 + 1)))).bind fun v2 => some v2 else (R_Digits_r3 ((iQuo a0 10))).bind fun v4 => (R_Digits_r3 ((iRem a0 10))).bind fun v6 => (cat v4 v6).bind fun v8 => some v8)
def R_Digits_r5 (a0 : Int) : Option Str :=
  (bif decide (a0 < 10) then (cut (([48, 49, 50, 51, 52, 53, 54, 55, 56, 57] : Str)) a0 ((w64 (a0 + 1)))).bind fun v2 => some v2 else (R_Digits_r4 ((iQuo a0 10))).bind fun v4 => (R_Digits_r4 ((iRem a0 10))).bind fun v6 => (cat v4 v6).bind fun v8 => some v8)
def R_Digits_r6 (a0 : Int) : Option Str :=
  (bif decide (a0 < 10) then (cut (([48, 49, 50, 51, 52, 53, 54, 55, 56, 57] : Str)) a0 ((w64 (a0 + 1)))).bind fun v2 => some v2 else (R_Digits_r5 ((iQuo a0 10))).bind fun v4 => (R_Digits_r5 ((iRem a0 10))).bind fun v6 => (cat v4 v6).bind fun v8 => some v8)
def R_Digits_r7 (a0 : Int) : Option Str :=
  (bif decide (a0 < 10) then (cut (([48, 49, 50, 51, 52, 53, 54, 55, 56, 57] : Str)) a0 ((w64 (a0 + 1)))).bind fun v2 => some v2 else (R_Digits_r6 ((iQuo a0 10))).bind fun v4 => (R_Digits_r6 ((iRem a0 10))).bind fun v6 => (cat v4 v6).bind fun v8 => some v8)
def R_Digits_r8 (a0 : Int) : Option Str :=
  (bif decide (a0 < 10) then (cut (([48, 49, 50, 51, 52, 53, 54, 55, 56, 57] : Str)) a0 ((w64 (a0 + 1)))).bind fun v2 => some v2 else (R_Digits_r7 ((iQuo a0 10))).bind fun v4 => (R_Digits_r7 ((iRem a0 10))).bind fun v6 => (cat v4 v6).bind fun v8 => some v8)
def R_Digits_r9 (a0 : Int) : Option Str :=
  (bif decide (a0 < 10) then (cut (([48, 49, 50, 51, 52, 53, 54, 55, 56, 57] : Str)) a0 ((w64 (a0 + 1)))).bind fun v2 => some v2 else (R_Digits_r8 ((iQuo a0 10))).bind fun v4 => (R_Digits_r8 ((iRem a0 10))).bind fun v6 => (cat v4 v6).bind fun v8 => some v8)
def R_Digits_r10 (a0 : Int) : Option Str :=
  (bif decide (a0 < 10) then (cut (([48, 49, 50, 51, 52, 53, 54, 55, 56, 57] : Str)) a0 ((w64 (a0 + 1)))).bind fun v2 => some v2 else (R_Digits_r9 ((iQuo a0 10))).bind fun v4 => (R_Digits_r9 ((iRem a0 10))).bind fun v6 => (cat v4 v6).bind fun v8 => some v8)
def R_Digits_r11 (a0 : Int) : Option Str :=
  (bif decide (a0 < 10) then (cut (([48, 49, 50, 51, 52, 53, 54, 55, 56, 57] : Str)) a0 ((w64 (a0 + 1)))).bind fun v2 => some v2 else (R_Digits_r10 ((iQuo a0 10))).bind fun v4 => (R_Digits_r10 ((iRem a0 10))).bind fun v6 => (cat v4 v6).bind fun v8 => some v8)
def R_Digits (a0 : Int) : Option Str :=
  (bif decide (a0 < 10) then (cut (([48, 49, 50, 51, 52, 53, 54, 55, 56, 57] : Str)) a0 ((w64 (a0 + 1)))).bind fun v2 => some v2 else (R_Digits_r11 ((iQuo a0 10))).bind fun v4 => (R_Digits_r11 ((iRem a0 10))).bind fun v6 => (cat v4 v6).bind fun v8 => some v8)
end Go.Proofs.YtfkgmcilaiblfaaGreatDoor

/- Library functions as Lean functions: texts joined and repeated. -/
namespace Go.Proofs.YtfkgmcilaiblfaaGreatDoor
open Go.RowKit
def strings_Join (l : List Str) (s : Str) : Option Str := if l.length ≤ 140737488355328 ∧ (Lib.join l s).length ≤ 140737488355328 then some (Lib.join l s) else none
def strings_Repeat (s : Str) (n : Int) : Option Str := if 0 ≤ n ∧ n ≤ 9223372036854775807 ∧ s.length * n.toNat ≤ 140737488355328 then some (Lib.repeatL s n.toNat) else none
end Go.Proofs.YtfkgmcilaiblfaaGreatDoor

/- Library functions as Lean functions: texts split. -/
namespace Go.Proofs.YtfkgmcilaiblfaaGreatDoor
open Go.RowKit
end Go.Proofs.YtfkgmcilaiblfaaGreatDoor

/- Functions of the program as Lean functions: what they compute. Written by program. -/
namespace Go.Proofs.YtfkgmcilaiblfaaGreatDoor
open Go.RowKit
set_option maxRecDepth 100000
set_option maxHeartbeats 40000000
set_option linter.unusedVariables false
def dates_within (a0 : Int) (a1 : Int) (a2 : Int) : Option Bool :=
  ((bif decide (a1 ≤ a0) then some (decide (a0 ≤ a2)) else some false) : Option Bool).bind fun (j1 : Bool) => some j1
def dates_split (a0 : Int) (a1 : Int) : Option (Int × Int) :=
  (nz a1).bind fun v1 => (nz a1).bind fun v3 => (nz a1).bind fun v5 => some (((iQuo ((w64 (a0 - (iRem ((w64 ((iRem a0 a1) + a1))) a1)))) a1), (iRem ((w64 ((iRem a0 a1) + a1))) a1)))
def dates_before (a0 : Int) : Option Int :=
  some ((w64 ((w64 ((w64 ((w64 (365 * (w64 (a0 - 1)))) + (iQuo ((w64 (a0 - 1))) 4))) - (iQuo ((w64 (a0 - 1))) 100))) + (iQuo ((w64 (a0 - 1))) 400))))
def dates_leap (a0 : Int) : Option Bool :=
  ((bif ((iRem a0 4) == 0) then (bif ((iRem a0 100) != 0) then some true else some (((iRem a0 400) == 0))) else some false) : Option Bool).bind fun (j1 : Bool) => some j1
def dates_length (a0 : Int) (a1 : Int) : Option Int :=
  (idx ([31, 28, 31, 30, 31, 30, 31, 31, 30, 31, 30, 31] : List Int) ((w64 (a1 - 1)))).bind fun v1 => (((bif (a1 == 2) then (dates_leap a0).bind fun v6 => some v6 else some false) : Option Bool).bind fun (j4 : Bool) => (bif j4 then some ((w64 (v1 + 1))) else some v1) : Option Int).bind fun (j3 : Int) => some j3
def dates_day_l1 (a0 : Int) (a1 : Int) (s5 : Int × Int) : Option (Step (Int × Int) Int) :=
  (bif decide (s5.2 < a1) then (dates_length a0 s5.2).bind fun v9 => some (.cont ((w64 (s5.1 + v9)), (w64 (s5.2 + 1)))) else some (.out s5.1))
noncomputable def dates_day (a0 : Int) (a1 : Int) (a2 : Int) : Option Int :=
  (dates_before a0).bind fun v1 => (dates_before 1970).bind fun v3 => (iter (dates_day_l1 a0 a1) (((w64 ((w64 ((w64 (v1 - v3)) + a2)) - 1)), 1))).bind fun b6 => some b6
noncomputable def dates_Civil_l1 (v11 : Int × Int) (s22 : Int × Int) : Option (Step (Int × Int) Int) :=
  (bif decide (0 < s22.2) then (((bif decide ((w64 (s22.1 + s22.2)) ≤ 4000) then (dates_day ((w64 (s22.1 + s22.2))) 1 1).bind fun v29 => some (decide (v29 ≤ v11.1)) else some false) : Option Bool).bind fun (j27 : Bool) => (bif j27 then some ((w64 (s22.1 + s22.2))) else some s22.1) : Option Int).bind fun (j26 : Int) => some (.cont (j26, (iQuo s22.2 2))) else some (.out s22.1))
noncomputable def dates_Civil_l2 (v11 : Int × Int) (b23 : Int) (s32 : Int) : Option (Step Int Int) :=
  (dates_day b23 s32 1).bind fun v35 => (bif decide (v11.1 < v35) then some (.cont (w64 (s32 - 1))) else some (.out s32))
noncomputable def dates_Civil (a0 : Int) (a1 : Int) : Option (TDate × TFault) :=
  (basic_Time a0).bind fun v1 => (bif (!v1) then (basic_Fault 3 ((-2))).bind fun v4 => some (((TDate.mk 0 0 0 0 0 0 0), v4)) else (dates_within a1 ((-900)) 900).bind fun v6 => (bif (!v6) then (basic_Fault 3 ((-4))).bind fun v9 => some (((TDate.mk 0 0 0 0 0 0 0), v9)) else (dates_split ((w64 (a0 + (w64 (60 * a1))))) 86400).bind fun v11 => ((dates_day 1 1 1).bind fun v14 => (bif decide (v11.1 < v14) then some true else (dates_day 4000 12 31).bind fun v17 => some (decide (v17 < v11.1))) : Option Bool).bind fun (j13 : Bool) => (bif j13 then (basic_Fault 3 ((-3))).bind fun v20 => some (((TDate.mk 0 0 0 0 0 0 0), v20)) else (iter (dates_Civil_l1 v11) ((1, 2048))).bind fun b23 => (iter (dates_Civil_l2 v11 b23) 12).bind fun b33 => (dates_day b23 b33 1).bind fun v38 => (basic_None).bind fun v40 => some (((TDate.mk b23 b33 ((w64 ((w64 (v11.1 - v38)) + 1))) ((iQuo v11.2 3600)) ((iRem ((iQuo v11.2 60)) 60)) ((iRem v11.2 60)) a1), v40)))))
def dates_Validate (a0 : TDate) : Option TFault :=
  ((dates_within a0.Year 1 4000).bind fun v2 => (bif v2 then (dates_within a0.Month 1 12).bind fun v5 => (bif v5 then (dates_length a0.Year ((min ((max a0.Month 1)) 12))).bind fun v8 => (dates_within a0.Day 1 v8).bind fun v10 => (bif v10 then (dates_within a0.Hour 0 23).bind fun v13 => (bif v13 then (dates_within a0.Minute 0 59).bind fun v16 => (bif v16 then (dates_within a0.Second 0 59).bind fun v19 => (bif v19 then (dates_within a0.Zone ((-900)) 900).bind fun v22 => some v22 else some false) else some false) else some false) else some false) else some false) else some false) : Option Bool).bind fun (j1 : Bool) => (bif (!j1) then (basic_Fault 3 ((-3))).bind fun v25 => some v25 else (basic_None).bind fun v27 => some v27)
noncomputable def dates_Weekday (a0 : TDate) : Option (Int × TFault) :=
  (dates_Validate a0).bind fun v1 => (basic_Failed v1).bind fun v3 => (bif v3 then some ((0, v1)) else (dates_day a0.Year a0.Month a0.Day).bind fun v6 => (dates_split ((w64 (v6 + 4))) 7).bind fun v8 => (basic_None).bind fun v10 => some ((v8.2, v10)))
noncomputable def dates_pad (a0 : Int) (a1 : Int) : Option Str :=
  (strconv_Itoa a0).bind fun v1 => (strings_Repeat (([48] : Str)) ((max 0 ((w64 (a1 - (v1.length : Int))))))).bind fun v3 => (cat v3 v1).bind fun v5 => some v5
def dates_weekdays  : Option (Str × Str × Str × Str × Str × Str × Str) :=
  some ((([83, 117, 110] : Str), ([77, 111, 110] : Str), ([84, 117, 101] : Str), ([87, 101, 100] : Str), ([84, 104, 117] : Str), ([70, 114, 105] : Str), ([83, 97, 116] : Str)))
def dates_months  : Option (Str × Str × Str × Str × Str × Str × Str × Str × Str × Str × Str × Str) :=
  some ((([74, 97, 110] : Str), ([70, 101, 98] : Str), ([77, 97, 114] : Str), ([65, 112, 114] : Str), ([77, 97, 121] : Str), ([74, 117, 110] : Str), ([74, 117, 108] : Str), ([65, 117, 103] : Str), ([83, 101, 112] : Str), ([79, 99, 116] : Str), ([78, 111, 118] : Str), ([68, 101, 99] : Str)))
noncomputable def dates_Print (a0 : TDate) : Option (Str × TFault) :=
  (dates_Weekday a0).bind fun v1 => (basic_Failed v1.2).bind fun v3 => (bif v3 then some ((([] : Str), v1.2)) else ((bif decide (a0.Zone < 0) then some ((([45] : Str), (w64 (0 - a0.Zone)))) else some ((([43] : Str), a0.Zone))) : Option (Str × Int)).bind fun (j6 : Str × Int) => (dates_pad ((iQuo j6.2 60)) 2).bind fun v8 => (dates_pad ((iRem j6.2 60)) 2).bind fun v10 => (cat v8 v10).bind fun v12 => (cat j6.1 v12).bind fun v14 => (dates_pad a0.Hour 2).bind fun v16 => (cat v16 (([58] : Str))).bind fun v18 => (dates_pad a0.Minute 2).bind fun v20 => (cat v18 v20).bind fun v22 => (cat v22 (([58] : Str))).bind fun v24 => (dates_pad a0.Second 2).bind fun v26 => (cat v24 v26).bind fun v28 => (dates_weekdays).bind fun v30 => (idx ([v30.1, v30.2.1, v30.2.2.1, v30.2.2.2.1, v30.2.2.2.2.1, v30.2.2.2.2.2.1, v30.2.2.2.2.2.2] : List Str) v1.1).bind fun v32 => (cat v32 (([44] : Str))).bind fun v34 => (dates_pad a0.Day 2).bind fun v36 => (dates_months).bind fun v38 => (idx ([v38.1, v38.2.1, v38.2.2.1, v38.2.2.2.1, v38.2.2.2.2.1, v38.2.2.2.2.2.1, v38.2.2.2.2.2.2.1, v38.2.2.2.2.2.2.2.1, v38.2.2.2.2.2.2.2.2.1, v38.2.2.2.2.2.2.2.2.2.1, v38.2.2.2.2.2.2.2.2.2.2.1, v38.2.2.2.2.2.2.2.2.2.2.2] : List Str) ((w64 (a0.Month - 1)))).bind fun v40 => (dates_pad a0.Year 4).bind fun v42 => (strings_Join (([v34, v36, v40, v42, v28, v14] : List Str)) (([32] : Str))).bind fun v44 => (basic_None).bind fun v46 => some ((v44, v46)))
def R_leap (a0 : Int) : Option Bool :=
  ((bif ((iRem a0 4) == 0) then (bif ((iRem a0 100) != 0) then some true else some (((iRem a0 400) == 0))) else some (((iRem a0 400) == 0))) : Option Bool).bind fun (j1 : Bool) => some j1
def R_days (a0 : Int) (a1 : Int) : Option Int :=
  ((bif (a1 == 2) then (R_leap a0).bind fun v3 => some v3 else some false) : Option Bool).bind fun (j1 : Bool) => (bif j1 then some 29 else (idx (([31, 28, 31, 30, 31, 30, 31, 31, 30, 31, 30, 31] : List Int)) ((w64 (a1 - 1)))).bind fun v6 => some v6)
def R_Fill_l1 (a1 : Int) (s3 : Str) : Option (Step Str Str) :=
  (bif decide ((s3.length : Int) < a1) then (cat (([48] : Str)) s3).bind fun v7 => some (.cont v7) else some (.out s3))
noncomputable def R_Fill (a0 : Int) (a1 : Int) : Option Str :=
  (R_Digits a0).bind fun v1 => (iter (R_Fill_l1 a1) v1).bind fun b4 => some b4
def R_When_l1  (s4 : Int × Int) : Option (Step (Int × Int) (Int × Int)) :=
  (bif decide (s4.1 < 0) then some (.cont ((w64 (s4.1 + 34560000)), (w64 (s4.2 - 400)))) else some (.out ((s4.1, s4.2))))
def R_When_l2  (s8 : Int × Int) : Option (Step (Int × Int) (Int × Int)) :=
  (bif decide (s8.1 < 0) then (R_leap ((w64 (s8.2 - 1)))).bind fun v12 => (bif v12 then some (.cont ((w64 ((w64 (s8.1 + 365)) + 1)), (w64 (s8.2 - 1)))) else some (.cont ((w64 (s8.1 + 365)), (w64 (s8.2 - 1))))) else some (.out ((s8.1, s8.2))))
def R_When_l3  (s15 : Int × Int) : Option (Step (Int × Int) (Int × Int)) :=
  ((R_leap s15.2).bind fun v19 => (bif v19 then some 366 else some 365) : Option Int).bind fun (j18 : Int) => (bif decide (s15.1 < j18) then some (.out ((s15.1, s15.2))) else some (.cont ((w64 (s15.1 - j18)), (w64 (s15.2 + 1)))))
def R_When_l4 (b16 : Int × Int) (s26 : Int × Int) : Option (Step (Int × Int) (Int × Int)) :=
  (R_days b16.2 s26.1).bind fun v29 => (bif decide (v29 ≤ s26.2) then (R_days b16.2 s26.1).bind fun v32 => some (.cont ((w64 (s26.1 + 1)), (w64 (s26.2 - v32)))) else some (.out ((s26.1, s26.2))))
def R_When_l5 (b16 : Int × Int) (s34 : Int × Int) : Option (Step (Int × Int) Int) :=
  (bif decide (s34.2 < b16.2) then ((R_leap s34.2).bind fun v39 => (bif v39 then some ((w64 ((w64 (s34.1 + 1)) + 1))) else some ((w64 (s34.1 + 1)))) : Option Int).bind fun (j38 : Int) => some (.cont (j38, (w64 (s34.2 + 1)))) else some (.out s34.1))
noncomputable def R_When (a0 : Int) : Option (Str × Bool) :=
  (R_In a0 ((-68719476736)) 68719476736).bind fun v1 => (bif (!v1) then some ((([] : Str), false)) else (iter (R_When_l1) ((a0, 0))).bind fun b5 => (iter (R_When_l2) (((w64 (b5.2 + (iQuo b5.1 86400))), 1970))).bind fun b9 => (iter (R_When_l3) ((b9.1, b9.2))).bind fun b16 => (R_In b16.2 1 4000).bind fun v23 => (bif (!v23) then some ((([] : Str), false)) else (iter (R_When_l4 b16) ((1, b16.1))).bind fun b27 => (iter (R_When_l5 b16) ((1, 1))).bind fun b35 => (cut (([83, 117, 110, 77, 111, 110, 84, 117, 101, 87, 101, 100, 84, 104, 117, 70, 114, 105, 83, 97, 116] : Str)) ((w64 (3 * (iRem ((w64 (b35 + b16.1))) 7)))) ((w64 ((w64 (3 * (iRem ((w64 (b35 + b16.1))) 7))) + 3)))).bind fun v42 => (cat v42 (([44, 32] : Str))).bind fun v44 => (R_Fill ((w64 (b27.2 + 1))) 2).bind fun v46 => (cat v44 v46).bind fun v48 => (cat v48 (([32] : Str))).bind fun v50 => (cut (([74, 97, 110, 70, 101, 98, 77, 97, 114, 65, 112, 114, 77, 97, 121, 74, 117, 110, 74, 117, 108, 65, 117, 103, 83, 101, 112, 79, 99, 116, 78, 111, 118, 68, 101, 99] : Str)) ((w64 ((w64 (3 * b27.1)) - 3))) ((w64 (3 * b27.1)))).bind fun v52 => (cat v50 v52).bind fun v54 => (cat v54 (([32] : Str))).bind fun v56 => (R_Fill b16.2 4).bind fun v58 => (cat v56 v58).bind fun v60 => (cat v60 (([32] : Str))).bind fun v62 => (R_Fill ((iQuo ((iRem b5.1 86400)) 3600)) 2).bind fun v64 => (cat v62 v64).bind fun v66 => (cat v66 (([58] : Str))).bind fun v68 => (R_Fill ((iRem ((iQuo ((iRem b5.1 86400)) 60)) 60)) 2).bind fun v70 => (cat v68 v70).bind fun v72 => (cat v72 (([58] : Str))).bind fun v74 => (R_Fill ((iRem ((iRem b5.1 86400)) 60)) 2).bind fun v76 => (cat v74 v76).bind fun v78 => (cat v78 (([32, 43, 48, 48, 48, 48] : Str))).bind fun v80 => some ((v80, true))))
end Go.Proofs.YtfkgmcilaiblfaaGreatDoor

/- Library functions as Lean functions: texts divided at spaces. -/
namespace Go.Proofs.YtfkgmcilaiblfaaGreatDoor
open Go.RowKit
end Go.Proofs.YtfkgmcilaiblfaaGreatDoor

/- Library functions as Lean functions: beginnings and ends taken away. -/
namespace Go.Proofs.YtfkgmcilaiblfaaGreatDoor
open Go.RowKit
def strings_TrimSuffix (s t : Str) : Option Str := if s.length ≤ 9223372036854775807 then some (Lib.trimSuffix s t) else none
end Go.Proofs.YtfkgmcilaiblfaaGreatDoor

/- Functions of the program as Lean functions: what they compute. Written by program. -/
namespace Go.Proofs.YtfkgmcilaiblfaaGreatDoor
open Go.RowKit
set_option maxRecDepth 100000
set_option maxHeartbeats 40000000
set_option linter.unusedVariables false
end Go.Proofs.YtfkgmcilaiblfaaGreatDoor

/- Functions of the program as Lean functions: what they compute. Written by program. -/
namespace Go.Proofs.YtfkgmcilaiblfaaGreatDoor
open Go.RowKit
set_option maxRecDepth 100000
set_option maxHeartbeats 40000000
set_option linter.unusedVariables false
end Go.Proofs.YtfkgmcilaiblfaaGreatDoor

/- Functions of the program as Lean functions: what they compute. Written by program. -/
namespace Go.Proofs.YtfkgmcilaiblfaaGreatDoor
open Go.RowKit
set_option maxRecDepth 100000
set_option maxHeartbeats 40000000
set_option linter.unusedVariables false
def notice_kinds  : Option (Str × Str × Str × Str × Str) :=
  some ((([] : Str), ([102, 97, 105, 108, 117, 114, 101] : Str), ([100, 101, 108, 97, 121] : Str), ([] : Str), ([115, 117, 99, 99, 101, 115, 115] : Str)))
def notice_known (a0 : Int) : Option Bool :=
  ((bif decide (0 ≤ a0) then (notice_kinds).bind fun v3 => (bif decide (a0 < 5) then (notice_kinds).bind fun v6 => (idx ([v6.1, v6.2.1, v6.2.2.1, v6.2.2.2.1, v6.2.2.2.2] : List Str) a0).bind fun v8 => some ((v8 != ([] : Str))) else some false) else some false) : Option Bool).bind fun (j1 : Bool) => some j1
noncomputable def notice_id (a0 : Str) (a1 : Int) : Option Str :=
  (cat a0 (([46, 110] : Str))).bind fun v1 => (strconv_Itoa a1).bind fun v3 => (cat v1 v3).bind fun v5 => some v5
noncomputable def notice_told_l1 (a0 : List TTold) (s6 : Int) : Option (Step Int (Unit ⊕ TFault)) :=
  (bif decide (s6 < (a0.length : Int)) then (idx a0 s6).bind fun v12 => (envelope_Address v12.Address).bind fun v14 => (bif (!v14) then (basic_Fault 10 s6).bind fun v17 => some (.out (.inr v17)) else ((bif decide (1 ≤ v12.Result) then some (decide (v12.Result ≤ 3)) else some false) : Option Bool).bind fun (j19 : Bool) => (bif (!j19) then (basic_Fault 3 s6).bind fun v22 => some (.out (.inr v22)) else some (.cont (w64 (s6 + 1))))) else some (.out (.inl (()))))
noncomputable def notice_told (a0 : List TTold) : Option TFault :=
  ((bif decide ((a0.length : Int) < 1) then some true else some (decide (60 < (a0.length : Int)))) : Option Bool).bind fun (j1 : Bool) => (bif j1 then (basic_Fault 2 ((-15))).bind fun v4 => some v4 else (iter (notice_told_l1 a0) 0).bind (Sum.elim (fun b7 => (basic_None).bind fun v24 => some v24) (fun b8 => some b8)))
noncomputable def notice_about (a0 : Str) (a1 : Int) : Option Str :=
  (notice_kinds).bind fun v1 => (idx ([v1.1, v1.2.1, v1.2.2.1, v1.2.2.2.1, v1.2.2.2.2] : List Str) a1).bind fun v3 => (cat v3 (([32] : Str))).bind fun v5 => (cat v5 a0).bind fun v7 => (strings_TrimSuffix v7 (([32] : Str))).bind fun v9 => some v9
def notice_results  : Option (Str × Str × Str × Str) :=
  some ((([] : Str), ([115, 101, 110, 116] : Str), ([108, 97, 116, 101, 114] : Str), ([102, 97, 105, 108, 101, 100] : Str)))
def notice_body_l1 (a0 : List TTold) (s1 : Str × Int) : Option (Step (Str × Int) Str) :=
  (bif decide (s1.2 < (a0.length : Int)) then (idx a0 s1.2).bind fun v5 => (notice_results).bind fun v7 => (idx ([v7.1, v7.2.1, v7.2.2.1, v7.2.2.2] : List Str) v5.Result).bind fun v9 => (cat v9 (([32] : Str))).bind fun v11 => (cat v11 v5.Address).bind fun v13 => (cat v13 (([13, 10] : Str))).bind fun v15 => (cat s1.1 v15).bind fun v17 => some (.cont (v17, (w64 (s1.2 + 1)))) else some (.out s1.1))
noncomputable def notice_body (a0 : List TTold) : Option Str :=
  (iter (notice_body_l1 a0) ((([] : Str), 0))).bind fun b2 => some b2
noncomputable def notice_Make (a0 : TMail) (a1 : Int) (a2 : List TTold) (a3 : Int) : Option (TMail × TFault) :=
  (envelope_Check a0).bind fun v1 => (basic_Failed v1).bind fun v3 => (bif v3 then some (((TMail.mk ((TEnvelope.mk (([] : Str)) ([]) (([] : Str)))) ((TMessage.mk ([]) ([])))), v1)) else (bif (a0.Envelope.From == ([] : Str)) then (basic_Fault 8 ((-13))).bind fun v7 => some (((TMail.mk ((TEnvelope.mk (([] : Str)) ([]) (([] : Str)))) ((TMessage.mk ([]) ([])))), v7)) else (notice_known a1).bind fun v9 => (bif (!v9) then (basic_Fault 4 ((-14))).bind fun v12 => some (((TMail.mk ((TEnvelope.mk (([] : Str)) ([]) (([] : Str)))) ((TMessage.mk ([]) ([])))), v12)) else (notice_id a0.Envelope.Id a1).bind fun v14 => (bif decide (60 < (v14.length : Int)) then (basic_Fault 1 ((-16))).bind fun v17 => some (((TMail.mk ((TEnvelope.mk (([] : Str)) ([]) (([] : Str)))) ((TMessage.mk ([]) ([])))), v17)) else (notice_told a2).bind fun v19 => (basic_Failed v19).bind fun v21 => (bif v21 then some (((TMail.mk ((TEnvelope.mk (([] : Str)) ([]) (([] : Str)))) ((TMessage.mk ([]) ([])))), v19)) else (dates_Civil a3 0).bind fun v24 => (basic_Failed v24.2).bind fun v26 => (bif v26 then (basic_Fault v24.2.Code ((-2))).bind fun v29 => some (((TMail.mk ((TEnvelope.mk (([] : Str)) ([]) (([] : Str)))) ((TMessage.mk ([]) ([])))), v29)) else (dates_Print v24.1).bind fun v31 => (envelope_Split a0.Envelope.From).bind fun v33 => (cat (([112, 111, 115, 116, 109, 97, 115, 116, 101, 114, 64] : Str)) v33.2.1).bind fun v35 => (notice_kinds).bind fun v37 => (idx ([v37.1, v37.2.1, v37.2.2.1, v37.2.2.2.1, v37.2.2.2.2] : List Str) a1).bind fun v39 => (cat (([68, 101, 108, 105, 118, 101, 114, 121, 58, 32] : Str)) v39).bind fun v41 => (notice_about a0.Envelope.Id a1).bind fun v43 => (notice_id a0.Envelope.Id a1).bind fun v45 => (notice_body a2).bind fun v47 => (basic_None).bind fun v49 => some (((TMail.mk ((TEnvelope.mk (([] : Str)) (([(TRecipient.mk a0.Envelope.From 0)] : List TRecipient)) v45)) ((TMessage.mk (([(TField.mk (([70, 114, 111, 109] : Str)) v35), (TField.mk (([84, 111] : Str)) a0.Envelope.From), (TField.mk (([83, 117, 98, 106, 101, 99, 116] : Str)) v41), (TField.mk (([68, 97, 116, 101] : Str)) v31.1), (TField.mk (([88, 45, 78, 111, 116, 105, 99, 101] : Str)) v43)] : List TField)) v47))), v49))))))))
noncomputable def notice_list_l1 (v1 : Str × Str × Str × Str) (s4 : Str × (List TTold)) : Option (Step (Str × (List TTold)) ((List TTold) ⊕ ((List TTold) × Bool))) :=
  (bif (s4.1 != ([] : Str)) then (strings_Cut s4.1 (([13, 10] : Str))).bind fun v10 => (strings_Cut v10.1 (([32] : Str))).bind fun v12 => (slices_Index_string_string (([v1.1, v1.2.1, v1.2.2.1, v1.2.2.2] : List Str)) v12.1).bind fun v14 => ((bif (!v10.2.2) then some true else (bif (!v12.2.2) then some true else (bif decide (v14 < 1) then some true else some (decide (60 < (s4.2.length : Int)))))) : Option Bool).bind fun (j16 : Bool) => (bif j16 then some (.out (.inr (([], false)))) else (app 5864062014805 s4.2 (([(TTold.mk v12.2.1 v14)] : List TTold))).bind fun v21 => some (.cont (v10.2.1, v21))) else some (.out (.inl s4.2)))
noncomputable def notice_list (a0 : Str) : Option ((List TTold) × Bool) :=
  (notice_results).bind fun v1 => (iter (notice_list_l1 v1) ((a0, ([] : List TTold)))).bind (Sum.elim (fun b5 => (notice_told b5).bind fun v23 => (basic_Failed v23).bind fun v25 => some ((b5, (!v25)))) (fun b6 => some ((b6.1, b6.2))))
noncomputable def notice_Read (a0 : TMessage) : Option (TNotice × Bool × TFault) :=
  (message_Validate a0).bind fun v1 => (basic_Failed v1).bind fun v3 => (bif v3 then some (((TNotice.mk 0 (([] : Str)) ([])), false, v1)) else (header_Get a0.Fields (([88, 45, 78, 111, 116, 105, 99, 101] : Str))).bind fun v6 => (bif ((v6.1.length : Int) == 0) then (basic_None).bind fun v9 => some (((TNotice.mk 0 (([] : Str)) ([])), false, v9)) else (idx v6.1 0).bind fun v11 => (strings_Cut v11 (([32] : Str))).bind fun v13 => (notice_kinds).bind fun v15 => (slices_Index_string_string (([v15.1, v15.2.1, v15.2.2.1, v15.2.2.2.1, v15.2.2.2.2] : List Str)) v13.1).bind fun v17 => ((bif decide (v17 < 1) then some true else (bif (v13.1 == ([] : Str)) then some true else (bif v13.2.2 then (basic_Name v13.2.1).bind fun v23 => (bif (!v23) then some true else (notice_id v13.2.1 v17).bind fun v26 => some (decide (60 < (v26.length : Int)))) else (notice_id v13.2.1 v17).bind fun v28 => some (decide (60 < (v28.length : Int)))))) : Option Bool).bind fun (j19 : Bool) => (bif j19 then (basic_None).bind fun v31 => some (((TNotice.mk 0 (([] : Str)) ([])), false, v31)) else (notice_list a0.Body).bind fun v33 => (bif (!v33.2) then (basic_None).bind fun v36 => some (((TNotice.mk 0 (([] : Str)) ([])), false, v36)) else (basic_None).bind fun v38 => some (((TNotice.mk v17 v13.2.1 v33.1), true, v38))))))
def bounce_Due_l1 (a1 : List Int) (s9 : Int) : Option (Step Int (Unit ⊕ ((List TMail) × TFault))) :=
  (bif decide (s9 < (a1.length : Int)) then (idx a1 s9).bind fun v15 => ((bif decide (v15 < 0) then some true else some (decide (3 < v15))) : Option Bool).bind fun (j17 : Bool) => (bif j17 then (basic_Fault 3 ((-17))).bind fun v20 => some (.out (.inr (([], v20)))) else some (.cont (w64 (s9 + 1)))) else some (.out (.inl (()))))
def bounce_Due_k3 (s29 : Int × (List TMail)) (j35 : List TMail) : Option (Step (Int × (List TMail)) ((List TMail) ⊕ ((List TMail) × TFault))) :=
  some (.cont ((w64 (s29.1 + 1)), j35))
def bounce_Due_l4 (a0 : TMail) (a1 : List Int) (v36 : Tbounce_due) (s38 : Int × (List TTold)) : Option (Step (Int × (List TTold)) (List TTold)) :=
  (bif decide (s38.1 < (a1.length : Int)) then ((idx a1 s38.1).bind fun v43 => ((bif (v43 == v36.result) then (idx a0.Envelope.To s38.1).bind fun v47 => some (((iAnd v47.Notify v36.kind) != 0)) else some false) : Option Bool).bind fun (j45 : Bool) => (bif j45 then (idx a0.Envelope.To s38.1).bind fun v50 => (app 5864062014805 s38.2 (([(TTold.mk v50.Address v43)] : List TTold))).bind fun v52 => some v52 else some s38.2) : Option (List TTold)).bind fun (j42 : List TTold) => some (.cont ((w64 (s38.1 + 1)), j42)) else some (.out s38.2))
noncomputable def bounce_Due_l2 (a0 : TMail) (a1 : List Int) (a2 : Int) (s29 : Int × (List TMail)) : Option (Step (Int × (List TMail)) ((List TMail) ⊕ ((List TMail) × TFault))) :=
  (bif decide (s29.1 < 3) then (idx ([(Tbounce_due.mk 1 3), (Tbounce_due.mk 2 2), (Tbounce_due.mk 4 1)] : List Tbounce_due) s29.1).bind fun v36 => (iter (bounce_Due_l4 a0 a1 v36) ((0, ([] : List TTold)))).bind fun b39 => (bif ((b39.length : Int) == 0) then (bounce_Due_k3 s29 s29.2) else (notice_Make a0 v36.kind b39 a2).bind fun v55 => (basic_Failed v55.2).bind fun v57 => (bif v57 then some (.out (.inr (([], v55.2)))) else (app 1353245080339 s29.2 (([v55.1] : List TMail))).bind fun v60 => (bounce_Due_k3 s29 v60))) else some (.out (.inl s29.2)))
noncomputable def bounce_Due (a0 : TMail) (a1 : List Int) (a2 : Int) : Option ((List TMail) × TFault) :=
  (envelope_Check a0).bind fun v1 => (basic_Failed v1).bind fun v3 => (bif v3 then some (([], v1)) else (bif ((a1.length : Int) != (a0.Envelope.To.length : Int)) then (basic_Fault 9 ((-17))).bind fun v7 => some (([], v7)) else (iter (bounce_Due_l1 a1) 0).bind (Sum.elim (fun b10 => (notice_Read a0.Message).bind fun v22 => ((bif v22.2.1 then some true else some ((a0.Envelope.From == ([] : Str)))) : Option Bool).bind fun (j24 : Bool) => (bif j24 then (basic_None).bind fun v27 => some (([], v27)) else (iter (bounce_Due_l2 a0 a1 a2) ((0, ([] : List TMail)))).bind (Sum.elim (fun b30 => (basic_None).bind fun v62 => some ((b30, v62))) (fun b31 => some ((b31.1, b31.2)))))) (fun b11 => some ((b11.1, b11.2))))))
noncomputable def L_dues  : Option Bool :=
  (L_plain (([([97, 64, 121] : Str), ([98, 64, 121] : Str)] : List Str))).bind fun v1 => (bounce_Due v1 (([3, 1] : List Int)) 0).bind fun v3 => (L_plain (([([97, 64, 121] : Str)] : List Str))).bind fun v5 => (bounce_Due v5 (([0] : List Int)) 0).bind fun v7 => (L_plain (([([97, 64, 121] : Str)] : List Str))).bind fun v9 => (bounce_Due v9 ([]) 0).bind fun v11 => ((bif (v3.2.Code == 0) then (bif (v7.2.Code == 0) then (R_At 9 ((-17))).bind fun v16 => (bif (allEq [(v11.2.Code == v16.Code), (v11.2.Index == v16.Index)]) then (bif ((v3.1.length : Int) == 1) then (bif ((v7.1.length : Int) == 0) then (idx v3.1 0).bind fun v21 => some ((v21.Envelope.Id == ([55, 46, 110, 49] : Str))) else some false) else some false) else some false) else some false) else some false) : Option Bool).bind fun (j13 : Bool) => some j13
def L_BounceTellsEachOnce_l3 (a0 : TMail) (s17 : Int) (v31 : TNotice × Bool × TFault) (s36 : Int × Int) : Option (Step (Int × Int) Int) :=
  (bif decide (s36.2 < (v31.1.Told.length : Int)) then ((idx v31.1.Told s36.2).bind fun v41 => (idx a0.Envelope.To s17).bind fun v43 => (bif (v41.Address == v43.Address) then some ((w64 (s36.1 + 1))) else some s36.1) : Option Int).bind fun (j40 : Int) => some (.cont (j40, (w64 (s36.2 + 1)))) else some (.out s36.1))
noncomputable def L_BounceTellsEachOnce_l2 (a0 : TMail) (v1 : (List TMail) × TFault) (s17 : Int) (s23 : Int × Int) : Option (Step (Int × Int) (Int ⊕ Bool)) :=
  (bif decide (s23.2 < (v1.1.length : Int)) then (idx v1.1 s23.2).bind fun v29 => (notice_Read v29.Message).bind fun v31 => ((bif (v31.2.2.Code != 0) then some true else some ((!v31.2.1))) : Option Bool).bind fun (j33 : Bool) => (bif j33 then some (.out (.inr false)) else (iter (L_BounceTellsEachOnce_l3 a0 s17 v31) ((s23.1, 0))).bind fun b37 => some (.cont (b37, (w64 (s23.2 + 1))))) else some (.out (.inl s23.1)))
noncomputable def L_BounceTellsEachOnce_l1 (a0 : TMail) (a1 : List Int) (v1 : (List TMail) × TFault) (v15 : TNotice × Bool × TFault) (s17 : Int) : Option (Step Int (Unit ⊕ Bool)) :=
  (bif decide (s17 < (a1.length : Int)) then (iter (L_BounceTellsEachOnce_l2 a0 v1 s17) ((0, 0))).bind (Sum.elim (fun b24 => ((idx a1 s17).bind fun v47 => (bif (v47 == 1) then (idx a0.Envelope.To s17).bind fun v50 => (bif decide (4 ≤ v50.Notify) then some true else (idx a1 s17).bind fun v53 => (bif (v53 == 2) then (idx a0.Envelope.To s17).bind fun v56 => (bif ((iRem ((iQuo v56.Notify 2)) 2) == 1) then some true else (idx a1 s17).bind fun v59 => (bif (v59 == 3) then (idx a0.Envelope.To s17).bind fun v62 => some (((iRem v62.Notify 2) == 1)) else some false)) else (idx a1 s17).bind fun v64 => (bif (v64 == 3) then (idx a0.Envelope.To s17).bind fun v67 => some (((iRem v67.Notify 2) == 1)) else some false))) else (idx a1 s17).bind fun v69 => (bif (v69 == 2) then (idx a0.Envelope.To s17).bind fun v72 => (bif ((iRem ((iQuo v72.Notify 2)) 2) == 1) then some true else (idx a1 s17).bind fun v75 => (bif (v75 == 3) then (idx a0.Envelope.To s17).bind fun v78 => some (((iRem v78.Notify 2) == 1)) else some false)) else (idx a1 s17).bind fun v80 => (bif (v80 == 3) then (idx a0.Envelope.To s17).bind fun v83 => some (((iRem v83.Notify 2) == 1)) else some false))) : Option Bool).bind fun (j46 : Bool) => ((bif j46 then (bif ((b24 == 1) != (!v15.2.1)) then some true else some (decide (1 < b24))) else (bif ((b24 == 1) != false) then some true else some (decide (1 < b24)))) : Option Bool).bind fun (j85 : Bool) => (bif j85 then some (.out (.inr false)) else some (.cont (w64 (s17 + 1))))) (fun b25 => some (.out (.inr b25)))) else some (.out (.inl (()))))
noncomputable def L_BounceTellsEachOnce (a0 : TMail) (a1 : List Int) (a2 : Int) : Option Bool :=
  (bounce_Due a0 a1 a2).bind fun v1 => ((L_dues).bind fun v4 => (bif (!v4) then some true else (bif (v1.2.Code != 0) then some true else (bif (a0.Envelope.From == ([] : Str)) then some true else some (((a1.length : Int) != (a0.Envelope.To.length : Int)))))) : Option Bool).bind fun (j3 : Bool) => (bif j3 then ((L_dues).bind fun v11 => (bif v11 then (bif (v1.2.Code == 0) then some true else some (((v1.1.length : Int) == 0))) else some false) : Option Bool).bind fun (j10 : Bool) => some j10 else (notice_Read a0.Message).bind fun v15 => (iter (L_BounceTellsEachOnce_l1 a0 a1 v1 v15) 0).bind (Sum.elim (fun b18 => some true) (fun b19 => some b19)))
end Go.Proofs.YtfkgmcilaiblfaaGreatDoor

/- Plain lemmas on the operations of typed functions: no program is named. -/
namespace Go.Proofs.YtfkgmcilaiblfaaGreatDoor
open Go.RowKit

theorem w64_ns (a b : Nat) (h : b ≤ a) (ha : a ≤ 9223372036854775807) : w64 ((a : Int) - (b : Int)) = ((a - b : Nat) : Int) := by
  rw [w64_id (by omega) (by omega)]; omega
theorem w64_n (a : Nat) (h : a ≤ 9223372036854775807) : w64 (a : Int) = (a : Int) := w64_id (by omega) (by omega)

theorem u8_eq (c : UInt8) (k : Nat) (hk : OfNat.ofNat k < 256) : ((c.toNat : Int) == no_index (OfNat.ofNat k : Int)) = (c == OfNat.ofNat k) := by
  have e : (OfNat.ofNat k : Int) = ((OfNat.ofNat k : Nat) : Int) := rfl
  have h2 : (OfNat.ofNat k : UInt8).toNat = (OfNat.ofNat k : Nat) := by
    show (UInt8.ofNat k).toNat = k
    rw [UInt8.toNat_ofNat']; exact Nat.mod_eq_of_lt hk
  rw [Bool.eq_iff_iff, beq_iff_eq, beq_iff_eq, ← UInt8.toNat_inj, h2, e]
  omega
theorem u8_ne (c : UInt8) (k : Nat) (hk : OfNat.ofNat k < 256) : ((c.toNat : Int) != no_index (OfNat.ofNat k : Int)) = (c != OfNat.ofNat k) := by
  unfold bne; rw [u8_eq c k hk]
section
variable {α : Type}
theorem idx_nat (l : List α) (i : Nat) : idx l (i : Int) = l[i]? := by unfold idx; rw [if_pos (by omega)]; simp
theorem idx_lt {l : List α} {i : Nat} (h : i < l.length) : idx l (i : Int) = some l[i] := by rw [idx_nat]; exact List.getElem?_eq_getElem h
theorem idx_app (p : List α) (x : α) (r : List α) : idx (p ++ x :: r) (p.length : Int) = some x := by rw [idx_nat]; simp
theorem cut_nn {l : List α} {a b : Nat} (h1 : a ≤ b) (h2 : b ≤ l.length) : cut l (a : Int) (b : Int) = some ((l.drop a).take (b - a)) := by
  unfold cut; rw [if_pos (by omega)]; simp
theorem cut_nl {l : List α} {a : Nat} (h1 : a ≤ l.length) : cut l (a : Int) (l.length : Int) = some (l.drop a) := by
  rw [cut_nn h1 (Nat.le_refl _)]; rw [List.take_of_length_le (by simp)]
theorem cut_0n {l : List α} {b : Nat} (h2 : b ≤ l.length) : cut l 0 (b : Int) = some (l.take b) := by
  have := cut_nn (l := l) (a := 0) (b := b) (by omega) h2
  simpa using this
theorem app_ok {lim : Nat} {l xs : List α} (h : l.length + xs.length ≤ lim) : app lim l xs = some (l ++ xs) := by unfold app; rw [if_pos h]
theorem cat_ok {a b : Str} (h : a.length + b.length ≤ 9223372036854775807) : cat a b = some (a ++ b) := by unfold cat; rw [if_pos h]
end

section
variable {A R : Type} {body : A → Option (Step A R)}
/-- a loop that ends, by an invariant and a measure -/
theorem iter_rec (Inv : A → Prop) (m : A → Nat) (Post : A → R → Prop)
    (h : ∀ s, Inv s → (∃ r, body s = some (.out r) ∧ Post s r) ∨ ∃ s', body s = some (.cont s') ∧ Inv s' ∧ m s' < m s ∧ ∀ r, Post s' r → Post s r) :
    ∀ s, Inv s → ∃ r, iter body s = some r ∧ Post s r := by
  intro s
  induction hn : m s using Nat.strongRecOn generalizing s with
  | _ n ih =>
    intro hi
    rcases h s hi with ⟨r, h1, h2⟩ | ⟨s', h1, h2, h3, h4⟩
    · exact ⟨r, iter_out h1, h2⟩
    · obtain ⟨r, h5, h6⟩ := ih (m s') (by omega) s' rfl h2
      exact ⟨r, (iter_cont h1).trans h5, h4 r h6⟩
/-- the same, with an invariant -/
theorem iter_listI {α S : Type} (l : List α) (enc : Nat → S → A) (spec : Nat → List α → S → R) (Inv : Nat → List α → S → Prop)
    (h0 : ∀ s, Inv l.length [] s → body (enc l.length s) = some (.out (spec l.length [] s)))
    (h1 : ∀ p x r s, l = p ++ x :: r → Inv p.length (x :: r) s → (body (enc p.length s) = some (.out (spec p.length (x :: r) s))) ∨ ∃ s', body (enc p.length s) = some (.cont (enc (p.length + 1) s')) ∧ spec p.length (x :: r) s = spec (p.length + 1) r s' ∧ Inv (p.length + 1) r s') :
    ∀ {s0 : A} (s : S) (_ : s0 = enc 0 s) (_ : Inv 0 l s), iter body s0 = some (spec 0 l s) := by
  have key : ∀ r p s, l = p ++ r → Inv p.length r s → iter body (enc p.length s) = some (spec p.length r s) := by
    intro r
    induction r with
    | nil =>
      intro p s h hi
      have : p = l := by simp [h]
      subst this
      exact iter_out (h0 s hi)
    | cons x r ih =>
      intro p s h hi
      rcases h1 p x r s h hi with hb | ⟨s', hb, hs, hi'⟩
      · exact iter_out hb
      · rw [iter_cont hb, hs]
        have := ih (p ++ [x]) s' (by simp [h]) (by simpa using hi')
        simpa using this
  rintro _ s rfl hi
  exact key l [] s rfl hi
end
end Go.Proofs.YtfkgmcilaiblfaaGreatDoor

/- Plain lemmas on loops of typed functions: first hits, folds. No program is named. -/
namespace Go.Proofs.YtfkgmcilaiblfaaGreatDoor
open Go.RowKit
section
variable {α R O A S : Type}
/-- the first hit, with its number -/
def firstI (q : Nat → α → Option R) : Nat → List α → Option R
  | _, [] => none
  | i, x :: r => match q i x with | some y => some y | none => firstI q (i + 1) r
theorem iter_first (l : List α) (q : Nat → α → Option R) (oN : O) (oS : R → O) {body : Int → Option (Step Int O)} (hl : body (l.length : Int) = some (.out oN))
    (hs : ∀ (i : Nat) x, l[i]? = some x → body (i : Int) = some ((q i x).elim (.cont ((i + 1 : Nat) : Int)) fun r => .out (oS r))) :
    iter body 0 = some ((firstI q 0 l).elim oN oS) := by
  have key : ∀ r p, l = p ++ r → iter body (p.length : Int) = some ((firstI q p.length r).elim oN oS) := by
    intro r
    induction r with
    | nil => intro p h; have : p = l := by simp [h]
             subst this; exact iter_out hl
    | cons x r ih =>
      intro p h
      have hx := hs p.length x (by simp [h])
      unfold firstI
      cases hq : q p.length x with
      | some y => rw [hq] at hx; exact iter_out hx
      | none =>
        rw [hq] at hx
        rw [iter_cont hx]
        have := ih (p ++ [x]) (by simp [h])
        simpa using this
  exact key l [] rfl
/-- a loop with a counter and a state that goes on to its end -/
theorem iter_foldI (l : List α) (enc : Int → S → A) (f : Nat → S → α → S) (out : S → O) (Inv : Nat → S → Prop) {body : A → Option (Step A O)}
    (hl : ∀ s, Inv l.length s → body (enc l.length s) = some (.out (out s)))
    (hs : ∀ (i : Nat) x s, l[i]? = some x → Inv i s → body (enc i s) = some (.cont (enc ((i + 1 : Nat) : Int) (f i s x))) ∧ Inv (i + 1) (f i s x)) (s : S) (h0 : Inv 0 s) :
    ∃ t, iter body (enc 0 s) = some (out t) ∧ Inv l.length t ∧ t = (l.zipIdx.foldl (fun s p => f p.2 s p.1) s) := by
  have key : ∀ r p s, l = p ++ r → Inv p.length s → ∃ t, iter body (enc (p.length : Int) s) = some (out t) ∧ Inv l.length t ∧ t = ((r.zipIdx p.length).foldl (fun s p => f p.2 s p.1) s) := by
    intro r
    induction r with
    | nil => intro p s h hi; have : p = l := by simp [h]
             subst this; exact ⟨s, iter_out (hl s hi), hi, rfl⟩
    | cons x r ih =>
      intro p s h hi
      obtain ⟨h1, h2⟩ := hs p.length x s (by simp [h]) hi
      rw [iter_cont h1]
      obtain ⟨t, h3, h4, h5⟩ := ih (p ++ [x]) (f p.length s x) (by simp [h]) (by simpa using h2)
      refine ⟨t, by simpa using h3, h4, ?_⟩
      rw [h5]; simp
  exact key l [] s rfl h0
theorem foldl_zipIdx (f : S → α → S) (l : List α) : ∀ (n : Nat) (s : S), (l.zipIdx n).foldl (fun s p => f s p.1) s = l.foldl f s := by
  induction l with
  | nil => intro n s; rfl
  | cons x r ih => intro n s; simp [ih]
/-- the same, where the number does not matter -/
theorem iter_fold (l : List α) (enc : Int → S → A) (f : S → α → S) (out : S → O) (Inv : Nat → S → Prop) {body : A → Option (Step A O)}
    (hl : ∀ s, Inv l.length s → body (enc l.length s) = some (.out (out s)))
    (hs : ∀ (i : Nat) x s, l[i]? = some x → Inv i s → body (enc i s) = some (.cont (enc ((i + 1 : Nat) : Int) (f s x))) ∧ Inv (i + 1) (f s x)) (s : S) (h0 : Inv 0 s) :
    iter body (enc 0 s) = some (out (l.foldl f s)) ∧ Inv l.length (l.foldl f s) := by
  obtain ⟨t, h1, h2, h3⟩ := iter_foldI l enc (fun _ => f) out Inv hl hs s h0
  have : t = l.foldl f s := by rw [h3]; exact foldl_zipIdx f l 0 s
  subst this
  exact ⟨h1, h2⟩
theorem firstI_any (c : α → Bool) (r : R) (l : List α) (n : Nat) : firstI (fun _ x => if c x then some r else none) n l = if l.any c then some r else none := by
  induction l generalizing n with
  | nil => rfl
  | cons x l ih => unfold firstI; cases h : c x <;> simp [h, ih]
theorem firstI_none {q : Nat → α → Option R} {l : List α} {n : Nat} : firstI q n l = none ↔ ∀ (i : Nat) x, l[i]? = some x → q (n + i) x = none := by
  induction l generalizing n with
  | nil => simp [firstI]
  | cons x l ih =>
    unfold firstI
    cases h : q n x with
    | some y =>
      simp only [reduceCtorEq, false_iff]
      intro hh
      have := hh 0 x rfl
      rw [Nat.add_zero, h] at this; cases this
    | none =>
      rw [ih]
      constructor
      · intro hh i y hy
        cases i with
        | zero => simp at hy; subst hy; exact h
        | succ i => rw [show n + (i + 1) = n + 1 + i by omega]; exact hh i y (by simpa using hy)
      · intro hh i y hy
        rw [show n + 1 + i = n + (i + 1) by omega]; exact hh (i + 1) y (by simpa using hy)
theorem firstI_some {q : Nat → α → Option R} {l : List α} {n : Nat} {r : R} (h : firstI q n l = some r) : ∃ (i : Nat) (x : α), l[i]? = some x ∧ q (n + i) x = some r := by
  induction l generalizing n with
  | nil => cases h
  | cons x l ih =>
    unfold firstI at h
    cases hq : q n x with
    | some y => rw [hq] at h; cases h; exact ⟨0, x, rfl, hq⟩
    | none =>
      rw [hq] at h
      obtain ⟨i, y, h1, h2⟩ := ih h
      exact ⟨i + 1, y, by simpa using h1, by rw [show n + (i + 1) = n + 1 + i by omega]; exact h2⟩
theorem lt_get {l : List α} {i : Nat} {x : α} (h : l[i]? = some x) : i < l.length := (List.getElem?_eq_some_iff.1 h).1
theorem dec_lt {l : List α} {i : Nat} {x : α} (h : l[i]? = some x) : decide ((i : Int) < (l.length : Int)) = true := by have := lt_get h; simp; omega
theorem dec_len (l : List α) : decide ((l.length : Int) < (l.length : Int)) = false := by simp
theorem idx_get {l : List α} {i : Nat} {x : α} (h : l[i]? = some x) : idx l (i : Int) = some x := by rw [idx_nat]; exact h
end
end Go.Proofs.YtfkgmcilaiblfaaGreatDoor

/- Days and years: plain arithmetic. No program is named. -/
namespace Go.Proofs.YtfkgmcilaiblfaaGreatDoor
open Go.RowKit

def leapI (y : Int) : Bool := y % 4 == 0 && (y % 100 != 0 || y % 400 == 0)
/-- days of the years from 1 on that end before the year y -/
def befI (y : Int) : Int := 365 * (y - 1) + (y - 1) / 4 - (y - 1) / 100 + (y - 1) / 400
def ylen (y : Int) : Int := if leapI y then 366 else 365
theorem befI_succ (y : Int) : befI (y + 1) = befI y + ylen y := by
  unfold befI ylen leapI
  by_cases h4 : y % 4 = 0 <;> by_cases h100 : y % 100 = 0 <;> by_cases h400 : y % 400 = 0 <;> simp [h4, h100, h400] <;> omega
theorem ylen_pos (y : Int) : 365 ≤ ylen y ∧ ylen y ≤ 366 := by unfold ylen; split <;> omega
theorem befI_add (y : Int) (k : Nat) : befI y + 365 * k ≤ befI (y + k) ∧ befI (y + k) ≤ befI y + 366 * k := by
  induction k with
  | zero => simp
  | succ k ih =>
    have h := befI_succ (y + k)
    have h2 := ylen_pos (y + k)
    rw [show y + ((k + 1 : Nat) : Int) = y + k + 1 by omega, h]
    omega
theorem befI_mono {a b : Int} (h : a ≤ b) : befI a ≤ befI b := by
  have := (befI_add a (b - a).toNat).1
  rw [show a + ((b - a).toNat : Int) = b by omega] at this
  omega
/-- the year of a day (counted from year 1's first day) is one -/
theorem year_unique {n a b : Int} (ha : befI a ≤ n ∧ n < befI (a + 1)) (hb : befI b ≤ n ∧ n < befI (b + 1)) : a = b := by
  rcases Int.lt_trichotomy a b with h | h | h
  · have := befI_mono (show a + 1 ≤ b by omega); omega
  · exact h
  · have := befI_mono (show b + 1 ≤ a by omega); omega
/-- days of a month -/
def dimI (y m : Int) : Int := if m = 2 then (if leapI y then 29 else 28) else if m = 4 ∨ m = 6 ∨ m = 9 ∨ m = 11 then 30 else 31
/-- days of the months before the month m + 1 -/
def domI (y : Int) : Nat → Int
  | 0 => 0
  | m + 1 => domI y m + dimI y ((m + 1 : Nat) : Int)
theorem domI_12 (y : Int) : domI y 12 = ylen y := by
  unfold ylen
  cases h : leapI y <;> simp [domI, dimI, h]
theorem dimI_pos (y m : Int) : 28 ≤ dimI y m ∧ dimI y m ≤ 31 := by unfold dimI; repeat' split <;> omega
theorem domI_lt (y : Int) {a b : Nat} (h : a < b) : domI y a + 28 ≤ domI y b := by
  induction b with
  | zero => omega
  | succ b ih =>
    have := dimI_pos y ((b + 1 : Nat) : Int)
    rw [domI]
    by_cases e : a = b
    · subst e; omega
    · have := ih (by omega); omega
theorem month_unique {y n : Int} {a b : Nat} (ha : domI y a ≤ n ∧ n < domI y (a + 1)) (hb : domI y b ≤ n ∧ n < domI y (b + 1)) : a = b := by
  rcases Nat.lt_trichotomy a b with h | h | h
  · have : domI y (a + 1) ≤ domI y b := by
      by_cases e : a + 1 = b
      · rw [e]; omega
      · have := domI_lt y (show a + 1 < b by omega); omega
    omega
  · exact h
  · have : domI y (b + 1) ≤ domI y a := by
      by_cases e : b + 1 = a
      · rw [e]; omega
      · have := domI_lt y (show b + 1 < a by omega); omega
    omega
end Go.Proofs.YtfkgmcilaiblfaaGreatDoor

/- Plain lemmas: bulk, counters, copying down in a list. No program is named. -/
namespace Go.Proofs.YtfkgmcilaiblfaaGreatDoor
open Go.RowKit
theorem first_idx {α : Type} (c : α → Bool) (l : List α) : ∀ n : Nat, decide ((0 : Int) ≤ (firstI (fun i x => if c x then some ((i : Nat) : Int) else none) n l).getD (-1)) = l.any c := by
  induction l with
  | nil => intro n; rfl
  | cons x l ih =>
    intro n
    unfold firstI
    cases hc : c x with
    | true => simp [hc]
    | false => simp only [Bool.false_eq_true, if_false, List.any_cons, hc, Bool.false_or]; exact ih (n + 1)
theorem elim_idx (o : Option Int) : Sum.elim (fun _ => some (-1)) (fun b => some b) (o.elim (Sum.inl ()) Sum.inr : Unit ⊕ Int) = some (o.getD (-1)) := by cases o <;> rfl
theorem sc (i : Nat) (h : i < 9223372036854775807) : w64 ((i : Int) + 1) = ((i + 1 : Nat) : Int) := by rw [show ((i : Int) + 1) = ((i + 1 : Nat) : Int) by omega, w64_n _ (by omega)]

theorem bkL_pos {T : Type} (bk : T → Nat) (l : List T) : 1 ≤ bkL bk l := by
  induction l with
  | nil => simp [bkL]
  | cons y l ih => unfold bkL; omega
theorem bkL_mem {T : Type} {bk : T → Nat} {l : List T} {x : T} (h : x ∈ l) : bk x + 1 ≤ bkL bk l := by
  induction l with
  | nil => cases h
  | cons y l ih =>
    unfold bkL
    have hp := bkL_pos bk l
    rcases List.mem_cons.1 h with rfl | h
    · omega
    · have := ih h; omega
theorem bkL_len {T : Type} {bk : T → Nat} (hb : ∀ x, 1 ≤ bk x) (l : List T) : l.length + 1 ≤ bkL bk l := by
  induction l with
  | nil => simp [bkL]
  | cons y l ih => unfold bkL; have := hb y; simp; omega

section
variable {α : Type}
end
theorem mget_mputG {V : Type} (m : List (Str × V)) (k : Str) (v : V) (x : Str) : mget (mput m k v) x = if k == x then some v else mget m x := by
  induction m with
  | nil => rfl
  | cons p m ih =>
    obtain ⟨k', v'⟩ := p
    unfold mput
    by_cases h : k' = k
    · subst h
      simp only [beq_self_eq_true, if_true, mget]
      cases k' == x <;> simp
    · have h1 : (k' == k) = false := by simpa using h
      rw [h1]
      simp only [Bool.false_eq_true, if_false, mget]
      rw [ih]
      by_cases h2 : k' = x
      · subst h2
        have : (k == k') = false := by simpa using fun h' => h h'.symm
        simp [this]
      · have : (k' == x) = false := by simpa using h2
        rw [this]; simp

section
variable {α A S O : Type}
end
end Go.Proofs.YtfkgmcilaiblfaaGreatDoor

/- Days and years: what the typed functions of package dates compute. -/
namespace Go.Proofs.YtfkgmcilaiblfaaGreatDoor
open Go.RowKit
set_option linter.unusedVariables false
set_option maxHeartbeats 1000000

theorem iRem_zero (y k : Int) : (iRem y k == 0) = (y % k == 0) := by
  unfold iRem
  rw [Bool.eq_iff_iff, beq_iff_eq, beq_iff_eq]
  constructor
  · intro h; exact Int.emod_eq_zero_of_dvd (Int.dvd_of_tmod_eq_zero h)
  · intro h; exact Int.tmod_eq_zero_of_dvd (Int.dvd_of_emod_eq_zero h)
theorem dates_leap_eq (y : Int) : dates_leap y = some (leapI y) := by
  unfold dates_leap leapI bne
  rw [iRem_zero, iRem_zero, iRem_zero]
  cases y % 4 == 0 <;> cases y % 100 == 0 <;> cases y % 400 == 0 <;> rfl
theorem R_leap_eq (y : Int) : R_leap y = some (leapI y) := by
  unfold R_leap leapI bne
  rw [iRem_zero, iRem_zero, iRem_zero]
  have h : (y % 4 == 0) = false → (y % 400 == 0) = false := by
    intro h
    rw [beq_eq_false_iff_ne] at h ⊢
    omega
  revert h
  cases y % 4 == 0 <;> cases y % 100 == 0 <;> cases y % 400 == 0 <;> simp
theorem iQuo_nn {a b : Int} (ha : 0 ≤ a) (hb : 0 < b) (h : a ≤ 9223372036854775807) : iQuo a b = a / b := by
  unfold iQuo
  rw [Int.tdiv_eq_ediv_of_nonneg ha]
  have h1 : 0 ≤ a / b := Int.ediv_nonneg ha (by omega)
  have h2 : a / b ≤ a := Int.ediv_le_self b ha
  exact w64_id (by omega) (by omega)
theorem dates_before_eq {y : Int} (h1 : 1 ≤ y) (h2 : y ≤ 100000) : dates_before y = some (befI y) := by
  unfold dates_before befI
  have e0 : w64 (y - 1) = y - 1 := w64_id (by omega) (by omega)
  have e1 : w64 (365 * (y - 1)) = 365 * (y - 1) := w64_id (by omega) (by omega)
  rw [e0, e1, iQuo_nn (by omega) (by omega) (by omega), iQuo_nn (by omega) (by omega) (by omega), iQuo_nn (by omega) (by omega) (by omega)]
  have e2 : w64 (365 * (y - 1) + (y - 1) / 4) = 365 * (y - 1) + (y - 1) / 4 := w64_id (by omega) (by omega)
  have e3 : w64 (365 * (y - 1) + (y - 1) / 4 - (y - 1) / 100) = 365 * (y - 1) + (y - 1) / 4 - (y - 1) / 100 := w64_id (by omega) (by omega)
  rw [e2, e3, w64_id (by omega) (by omega)]
theorem dates_length_eq {y m : Int} (h1 : 1 ≤ m) (h2 : m ≤ 12) : dates_length y m = some (dimI y m) := by
  unfold dates_length
  have e0 : w64 (m - 1) = m - 1 := w64_id (by omega) (by omega)
  rw [e0, dates_leap_eq]
  obtain rfl | rfl | rfl | rfl | rfl | rfl | rfl | rfl | rfl | rfl | rfl | rfl : m = 1 ∨ m = 2 ∨ m = 3 ∨ m = 4 ∨ m = 5 ∨ m = 6 ∨ m = 7 ∨ m = 8 ∨ m = 9 ∨ m = 10 ∨ m = 11 ∨ m = 12 := by omega
  all_goals (cases h : leapI y <;> simp [dimI, h, idx] <;> rfl)
theorem domI_nn (y : Int) (n : Nat) : 0 ≤ domI y n ∧ domI y n ≤ 31 * n := by
  induction n with
  | zero => simp [domI]
  | succ n ih => have := dimI_pos y ((n + 1 : Nat) : Int); rw [domI]; omega
theorem day_loop (y : Int) : ∀ (r j : Nat) (n : Int), j + r ≤ 12 → -100000000 ≤ n → n + 31 * r ≤ 100000000 → iter (dates_day_l1 y ((j + r + 1 : Nat) : Int)) (n, ((j + 1 : Nat) : Int)) = some (n + (domI y (j + r) - domI y j))
  | 0, j, n, h1, h2, h3 => by
    refine iter_out ?_
    unfold dates_day_l1
    dsimp only
    rw [decide_eq_false (by omega)]
    simp
  | r + 1, j, n, h1, h2, h3 => by
    have hd := dimI_pos y ((j + 1 : Nat) : Int)
    have hc : dates_day_l1 y ((j + (r + 1) + 1 : Nat) : Int) (n, ((j + 1 : Nat) : Int)) = some (.cont (n + dimI y ((j + 1 : Nat) : Int), ((j + 1 + 1 : Nat) : Int))) := by
      unfold dates_day_l1
      dsimp only
      rw [decide_eq_true (by omega), dates_length_eq (by omega) (by omega)]
      simp only [cond_true, Option.bind_some]
      rw [w64_id (by omega) (by omega), w64_id (by omega) (by omega)]
      rfl
    rw [iter_cont hc]
    have := day_loop y r (j + 1) (n + dimI y ((j + 1 : Nat) : Int)) (by omega) (by omega) (by omega)
    rw [show j + 1 + r + 1 = j + (r + 1) + 1 by omega] at this
    rw [this, show j + 1 + r = j + (r + 1) by omega, domI]
    congr 1
    omega
/-- the number of a day -/
def dayN (y : Int) (m : Nat) (d : Int) : Int := befI y - befI 1970 + d - 1 + domI y (m - 1)
theorem befI_1970 : befI 1970 = 719162 := by decide
theorem befI_bound {y : Int} (h1 : 1 ≤ y) (h2 : y ≤ 5000) : 0 ≤ befI y ∧ befI y ≤ 2000000 := by unfold befI; omega
theorem dates_day_eq {y d : Int} {m : Nat} (h1 : 1 ≤ y) (h2 : y ≤ 5000) (hm1 : 1 ≤ m) (hm2 : m ≤ 12) (hd1 : 0 ≤ d) (hd2 : d ≤ 1000) : dates_day y m d = some (dayN y m d) := by
  have hb := befI_bound h1 h2
  unfold dates_day
  rw [dates_before_eq h1 (by omega), dates_before_eq (by omega : (1 : Int) ≤ 1970) (by omega), befI_1970]
  simp only [Option.bind_some]
  have e1 : w64 (befI y - 719162) = befI y - 719162 := w64_id (by omega) (by omega)
  have e2 : w64 (befI y - 719162 + d) = befI y - 719162 + d := w64_id (by omega) (by omega)
  have e3 : w64 (befI y - 719162 + d - 1) = befI y - 719162 + d - 1 := w64_id (by omega) (by omega)
  rw [e1, e2, e3]
  have := day_loop y (m - 1) 0 (befI y - 719162 + d - 1) (by omega) (by omega) (by omega)
  rw [show 0 + (m - 1) + 1 = m by omega, Nat.zero_add] at this
  rw [show ((0 + 1 : Nat) : Int) = 1 from rfl] at this
  rw [this]
  unfold dayN
  rw [befI_1970]
  simp [domI]
theorem dayN_11 (y : Int) : dayN y 1 1 = befI y - 719162 := by unfold dayN; rw [befI_1970]; simp [domI]
/-- the year of a day -/
theorem civil_year {v : Int × Int} {Y : Int} (h1 : 1 ≤ Y) (h2 : Y ≤ 4000) (hY : befI Y ≤ v.1 + 719162 ∧ v.1 + 719162 < befI (Y + 1)) : ∀ (k : Nat) (y : Int), k ≤ 11 → 1 ≤ y → y ≤ Y → Y < y + 2 * ((2 ^ k : Nat) : Int) → iter (dates_Civil_l1 v) (y, ((2 ^ k : Nat) : Int)) = some Y := by
  have step : ∀ (s : Nat) (y : Int), 1 ≤ s → s ≤ 2048 → 1 ≤ y → y ≤ Y → dates_Civil_l1 v (y, (s : Int)) = some (.cont (if y + s ≤ Y then y + s else y, ((s / 2 : Nat) : Int))) := by
    intro s y hs1 hs2 hy1 hy2
    unfold dates_Civil_l1
    dsimp only
    rw [decide_eq_true (by omega : (0 : Int) < (s : Int))]
    have e1 : w64 (y + (s : Int)) = y + s := w64_id (by omega) (by omega)
    have e2 : iQuo (s : Int) 2 = ((s / 2 : Nat) : Int) := by rw [iQuo_nn (by omega) (by omega) (by omega)]; omega
    rw [e1, e2]
    simp only [cond_true]
    by_cases h4 : y + s ≤ 4000
    · rw [decide_eq_true h4]
      have hd := dates_day_eq (y := y + s) (d := 1) (m := 1) (by omega) (by omega) (by omega) (by omega) (by omega) (by omega)
      rw [show ((1 : Nat) : Int) = 1 from rfl] at hd
      rw [hd, dayN_11]
      simp only [cond_true, Option.bind_some]
      by_cases hc : y + s ≤ Y
      · have := befI_mono hc
        rw [if_pos hc, decide_eq_true (by omega)]; rfl
      · have := befI_mono (show Y + 1 ≤ y + s by omega)
        rw [if_neg hc, decide_eq_false (by omega)]; rfl
    · rw [decide_eq_false h4, if_neg (by omega)]; rfl
  intro k
  induction k with
  | zero =>
    intro y _ hy1 hy2 hy3
    have hs := step 1 y (by omega) (by omega) hy1 hy2
    rw [show ((2 ^ 0 : Nat) : Int) = ((1 : Nat) : Int) from rfl, iter_cont hs]
    have e : (if y + ((1 : Nat) : Int) ≤ Y then y + ((1 : Nat) : Int) else y) = Y := by
      simp only [Nat.pow_zero] at hy3
      split <;> omega
    rw [e]
    exact iter_out (by unfold dates_Civil_l1; rfl)
  | succ k ih =>
    intro y hk hy1 hy2 hy3
    have hp : (2 ^ k : Nat) ≤ 2 ^ 10 := Nat.pow_le_pow_right (by omega) (by omega)
    have hp1 : 1 ≤ (2 ^ k : Nat) := Nat.one_le_pow _ _ (by omega)
    rw [Nat.pow_succ] at hy3 ⊢
    generalize hq : (2 ^ k : Nat) = q at *
    have hs := step (q * 2) y (by omega) (by omega) hy1 hy2
    rw [iter_cont hs, show q * 2 / 2 = q by omega]
    refine ih _ (by omega) (by split <;> omega) (by split <;> omega) (by split <;> omega)
theorem domI_mono (y : Int) {a b : Nat} (h : a ≤ b) : domI y a ≤ domI y b := by
  rcases Nat.lt_or_ge a b with h2 | h2
  · have := domI_lt y h2; omega
  · rw [show a = b by omega]; omega
/-- the month of a day -/
theorem civil_month {v : Int × Int} {Y : Int} {M : Nat} (h1 : 1 ≤ Y) (h2 : Y ≤ 4000) (hM : M ≤ 11) (hD : domI Y M ≤ v.1 + 719162 - befI Y ∧ v.1 + 719162 - befI Y < domI Y (M + 1)) : ∀ (r : Nat), M + r ≤ 11 → iter (dates_Civil_l2 v Y) ((M + r + 1 : Nat) : Int) = some ((M + 1 : Nat) : Int) := by
  have val : ∀ m : Nat, m ≤ 11 → dates_day Y ((m + 1 : Nat) : Int) 1 = some (befI Y - 719162 + domI Y m) := by
    intro m hm
    rw [dates_day_eq h1 (by omega) (by omega) (by omega) (by omega) (by omega)]
    unfold dayN
    rw [befI_1970, Nat.add_sub_cancel]
    congr 1; omega
  intro r
  induction r with
  | zero =>
    intro _
    refine iter_out ?_
    unfold dates_Civil_l2
    rw [Nat.add_zero, val M hM]
    simp only [Option.bind_some]
    rw [decide_eq_false (by omega)]; rfl
  | succ r ih =>
    intro hr
    have hc : dates_Civil_l2 v Y ((M + (r + 1) + 1 : Nat) : Int) = some (.cont ((M + r + 1 : Nat) : Int)) := by
      unfold dates_Civil_l2
      rw [val (M + (r + 1)) hr]
      have := domI_mono Y (show M + 1 ≤ M + (r + 1) by omega)
      simp only [Option.bind_some]
      rw [decide_eq_true (by omega), w64_id (by omega) (by omega)]
      simp only [cond_true]
      congr 2; omega
    rw [iter_cont hc]
    exact ih (by omega)
end Go.Proofs.YtfkgmcilaiblfaaGreatDoor

/- Days and years: dates_split, dates.Civil. -/
namespace Go.Proofs.YtfkgmcilaiblfaaGreatDoor
open Go.RowKit
set_option linter.unusedVariables false
set_option maxHeartbeats 1000000
theorem dates_split_eq {n k : Int} (hk1 : 1 ≤ k) (hk2 : k ≤ 1000000) (h1 : -1000000000000 ≤ n) (h2 : n ≤ 1000000000000) : dates_split n k = some (n / k, n % k) := by
  have hb1 := Int.emod_nonneg n (show k ≠ 0 by omega)
  have hb2 := Int.emod_lt_of_pos n (show 0 < k by omega)
  have ht : (iRem n k + k) = n % k + (if 0 ≤ n ∨ n % k = 0 then k else 0) := by
    unfold iRem
    rw [Int.tmod_eq_emod]
    by_cases h0 : 0 ≤ n
    · simp [h0]
    · by_cases hd : k ∣ n
      · have := Int.emod_eq_zero_of_dvd hd
        simp [hd, this]
      · have hne : n % k ≠ 0 := fun h => hd (Int.dvd_of_emod_eq_zero h)
        have hnat : (k.natAbs : Int) = k := by omega
        simp [h0, hd, hne, hnat]
  have hr : iRem (iRem n k + k) k = n % k := by
    rw [ht]
    unfold iRem
    split
    · rw [Int.tmod_eq_emod_of_nonneg (by omega)]
      simp
    · rw [Int.add_zero, Int.tmod_eq_emod_of_nonneg hb1]
      simp
  unfold dates_split nz
  have hz : (k == 0) = false := by rw [beq_eq_false_iff_ne]; omega
  have e1 : w64 (iRem n k + k) = iRem n k + k := by
    refine w64_id ?_ ?_ <;> (rw [ht]; split <;> omega)
  simp only [hz, Bool.false_eq_true, if_false, Option.bind_some, e1, hr]
  have hq : n = k * (n / k) + n % k := (Int.mul_ediv_add_emod n k).symm
  have e2 : w64 (n - n % k) = n - n % k := w64_id (by omega) (by omega)
  rw [e2]
  have e3 : iQuo (n - n % k) k = n / k := by
    unfold iQuo
    have e4 : n - n % k = k * (n / k) := by omega
    rw [e4, Int.mul_tdiv_cancel_left _ (by omega)]
    have h3 : -1000000000000 ≤ n / k := Int.le_ediv_of_mul_le (by omega) (by omega)
    have h4 : n / k ≤ 1000000000000 := Int.ediv_le_of_le_mul (by omega) (by omega)
    exact w64_id (by omega) (by omega)
  rw [e3]
end Go.Proofs.YtfkgmcilaiblfaaGreatDoor

/- Numerals: strconv.Itoa, the reference's Digits and Fill, dates.pad. -/
namespace Go.Proofs.YtfkgmcilaiblfaaGreatDoor
open Go.RowKit
set_option linter.unusedVariables false
set_option maxHeartbeats 1000000
theorem decD_small {u : Nat} (h : u < 10) : Lib.decDigits u = [UInt8.ofNat (48 + u)] := by rw [Lib.decDigits, dif_pos h]
theorem decD_big {u : Nat} (h : ¬ u < 10) : Lib.decDigits u = Lib.decDigits (u / 10) ++ Lib.decDigits (u % 10) := by
  rw [Lib.decDigits, dif_neg h, decD_small (show u % 10 < 10 by omega)]
theorem decD_len : ∀ (k u : Nat), u < 10 ^ (k + 1) → (Lib.decDigits u).length ≤ k + 1
  | 0, u, h => by rw [decD_small (by simpa using h)]; simp
  | k + 1, u, h => by
    by_cases h10 : u < 10
    · rw [decD_small h10]; simp
    · have := decD_len k (u / 10) (by rw [Nat.pow_succ] at h; omega)
      rw [decD_big h10, decD_small (show u % 10 < 10 by omega)]
      simp; omega
theorem iQuo10 {u : Nat} (h : u ≤ 9223372036854775807) : iQuo (u : Int) 10 = ((u / 10 : Nat) : Int) := by
  unfold iQuo
  rw [Int.tdiv_eq_ediv_of_nonneg (by omega), w64_id (by omega) (by omega)]
  omega
theorem iRem10 (u : Nat) : iRem (u : Int) 10 = ((u % 10 : Nat) : Int) := by
  unfold iRem
  rw [Int.tmod_eq_emod_of_nonneg (by omega)]
  omega
theorem cut_digit : ∀ u : Fin 10, cut ([48, 49, 50, 51, 52, 53, 54, 55, 56, 57] : Str) (u.val : Int) (w64 ((u.val : Int) + 1)) = some [UInt8.ofNat (48 + u.val)] := by decide
theorem digits_step {f g : Int → Option Str} (hf : ∀ n : Int, f n = bif decide (n < 10) then (cut ([48, 49, 50, 51, 52, 53, 54, 55, 56, 57] : Str) n (w64 (n + 1))).bind fun v2 => some v2 else (g (iQuo n 10)).bind fun v4 => (g (iRem n 10)).bind fun v6 => (cat v4 v6).bind fun v8 => some v8)
    (k : Nat) (hk : k ≤ 17) (hg : ∀ u : Nat, u < 10 ^ k → 1 ≤ k → g (u : Int) = some (Lib.decDigits u)) (u : Nat) (hu : u < 10 ^ (k + 1)) : f (u : Int) = some (Lib.decDigits u) := by
  have hp : 10 ^ (k + 1) ≤ 10 ^ 18 := Nat.pow_le_pow_right (by omega) (by omega)
  rw [hf]
  by_cases h10 : u < 10
  · rw [decide_eq_true (by omega : (u : Int) < 10), cond_true, cut_digit ⟨u, h10⟩, decD_small h10]
    rfl
  · have hk1 : 1 ≤ k := by
      rcases Nat.eq_zero_or_pos k with rfl | h
      · simp at hu; omega
      · exact h
    have h9 : 10 ^ 1 ≤ 10 ^ k := Nat.pow_le_pow_right (by omega) hk1
    rw [decide_eq_false (by omega : ¬ (u : Int) < 10), cond_false, iQuo10 (by omega), iRem10, hg _ (by rw [Nat.pow_succ] at hu; omega) hk1, hg _ (by omega) hk1, decD_big h10]
    have h1 := decD_len 17 (u / 10) (by omega)
    have h2 := decD_len 17 (u % 10) (by omega)
    simp only [Option.bind_some]
    rw [cat_ok (by omega)]
    rfl
theorem R_Digits_eq (u : Nat) (h : u < 10 ^ 12) : R_Digits (u : Int) = some (Lib.decDigits u) := by
  have h1 := digits_step (f := R_Digits_r1) (g := R_Digits_r0) (fun _ => rfl) 0 (by omega) (fun _ _ h => by omega)
  have h2 := digits_step (f := R_Digits_r2) (fun _ => rfl) 1 (by omega) (fun u hu _ => h1 u hu)
  have h3 := digits_step (f := R_Digits_r3) (fun _ => rfl) 2 (by omega) (fun u hu _ => h2 u hu)
  have h4 := digits_step (f := R_Digits_r4) (fun _ => rfl) 3 (by omega) (fun u hu _ => h3 u hu)
  have h5 := digits_step (f := R_Digits_r5) (fun _ => rfl) 4 (by omega) (fun u hu _ => h4 u hu)
  have h6 := digits_step (f := R_Digits_r6) (fun _ => rfl) 5 (by omega) (fun u hu _ => h5 u hu)
  have h7 := digits_step (f := R_Digits_r7) (fun _ => rfl) 6 (by omega) (fun u hu _ => h6 u hu)
  have h8 := digits_step (f := R_Digits_r8) (fun _ => rfl) 7 (by omega) (fun u hu _ => h7 u hu)
  have h9 := digits_step (f := R_Digits_r9) (fun _ => rfl) 8 (by omega) (fun u hu _ => h8 u hu)
  have h10 := digits_step (f := R_Digits_r10) (fun _ => rfl) 9 (by omega) (fun u hu _ => h9 u hu)
  have h11 := digits_step (f := R_Digits_r11) (fun _ => rfl) 10 (by omega) (fun u hu _ => h10 u hu)
  exact digits_step (f := R_Digits) (fun _ => rfl) 11 (by omega) (fun u hu _ => h11 u hu) u h
theorem strconv_Itoa_eq (u : Nat) (h : u ≤ 9223372036854775807) : strconv_Itoa (u : Int) = some (Lib.decDigits u) := by
  unfold strconv_Itoa
  rw [if_pos (by omega), Lib.itoa_nonneg]
/-- a numeral with at least so many digits -/
def padD (u k : Nat) : Str := List.replicate (k - (Lib.decDigits u).length) 48 ++ Lib.decDigits u
theorem padD_len {u k : Nat} (hk : 1 ≤ k) (h : u < 10 ^ k) : (padD u k).length = k := by
  unfold padD
  have := decD_len (k - 1) u (by rw [show k - 1 + 1 = k by omega]; exact h)
  simp; omega
theorem fill_loop (k : Nat) (hk : k ≤ 1000) : ∀ (n : Nat) (s : Str), k - s.length = n → iter (R_Fill_l1 (k : Int)) s = some (List.replicate n 48 ++ s)
  | 0, s, h => by
    refine iter_out ?_
    unfold R_Fill_l1
    rw [decide_eq_false (by omega)]; rfl
  | n + 1, s, h => by
    have hc : R_Fill_l1 (k : Int) s = some (.cont (48 :: s)) := by
      unfold R_Fill_l1
      rw [decide_eq_true (by omega), cat_ok (by simp; omega)]; rfl
    rw [iter_cont hc, fill_loop k hk n (48 :: s) (by simp; omega), List.replicate_succ', List.append_assoc]
    rfl
theorem R_Fill_eq (u k : Nat) (hk : k ≤ 1000) (h : u < 10 ^ 12) : R_Fill (u : Int) (k : Int) = some (padD u k) := by
  unfold R_Fill padD
  rw [R_Digits_eq u h]
  simp only [Option.bind_some]
  rw [fill_loop k hk _ _ rfl]
  rfl
theorem repeat_one (c : UInt8) (n : Nat) : Lib.repeatL [c] n = List.replicate n c := by
  induction n with
  | zero => rfl
  | succ n ih => rw [Lib.repeatL, ih]; rfl
theorem dates_pad_eq (u k : Nat) (hk : k ≤ 1000) (h : u < 10 ^ 12) : dates_pad (u : Int) (k : Int) = some (padD u k) := by
  have hl := decD_len 11 u (by omega)
  unfold dates_pad padD
  rw [strconv_Itoa_eq u (by omega)]
  simp only [Option.bind_some]
  have e : max 0 (w64 ((k : Int) - ((Lib.decDigits u).length : Int))) = ((k - (Lib.decDigits u).length : Nat) : Int) := by
    rw [w64_id (by omega) (by omega)]; omega
  unfold strings_Repeat
  rw [e, if_pos ⟨by omega, by omega, by simp; omega⟩, Int.toNat_natCast, repeat_one]
  simp only [Option.bind_some]
  rw [cat_ok (by simp; omega)]
  rfl
end Go.Proofs.YtfkgmcilaiblfaaGreatDoor

/- Domains and addresses: the plain functions, and what the typed functions compute. -/
namespace Go.Proofs.YtfkgmcilaiblfaaGreatDoor
open Go.RowKit
set_option linter.unusedVariables false
set_option maxHeartbeats 1000000

def lettC (c : UInt8) : Bool := (decide (97 ≤ c) && decide (c ≤ 122)) || (decide (65 ≤ c) && decide (c ≤ 90)) || (decide (48 ≤ c) && decide (c ≤ 57))
def smallC (c : UInt8) : Bool := (decide (97 ≤ c) && decide (c ≤ 122)) || (decide (48 ≤ c) && decide (c ≤ 57)) || c == 45 || c == 46
def goodC (c : UInt8) : Bool := lettC c || c == 45 || c == 95 || c == 46 || c == 43 || c == 61
/-- no dot at the front or behind a dot (p: there is one, or the front), none at the end -/
def dotsOk : Bool → Str → Bool
  | p, [] => !p
  | p, c :: r => if c = 46 then !p && dotsOk true r else dotsOk false r
def domP (s : Str) : Bool := decide (s.length ≤ 60) && s.all smallC && dotsOk true s
def atP (s : Str) : Nat := s.findIdx (· == 64)
def addrP (s : Str) : Bool := decide (atP s < s.length) && decide (1 ≤ atP s) && decide (atP s ≤ 60) && (s.take (atP s)).all goodC && domP (s.drop (atP s + 1))

theorem u8_le1 (k : Nat) (c : UInt8) (hk : OfNat.ofNat k < 256) : decide ((no_index (OfNat.ofNat k : Int)) ≤ (c.toNat : Int)) = decide ((OfNat.ofNat k : UInt8) ≤ c) := by
  have e : (OfNat.ofNat k : Int) = ((OfNat.ofNat k : Nat) : Int) := rfl
  have h2 : (OfNat.ofNat k : UInt8).toNat = (OfNat.ofNat k : Nat) := by
    show (UInt8.ofNat k).toNat = k
    rw [UInt8.toNat_ofNat']; exact Nat.mod_eq_of_lt hk
  rw [Bool.eq_iff_iff, decide_eq_true_eq, decide_eq_true_eq, UInt8.le_iff_toNat_le, h2, e]; omega
theorem u8_le2 (k : Nat) (c : UInt8) (hk : OfNat.ofNat k < 256) : decide ((c.toNat : Int) ≤ (no_index (OfNat.ofNat k : Int))) = decide (c ≤ (OfNat.ofNat k : UInt8)) := by
  have e : (OfNat.ofNat k : Int) = ((OfNat.ofNat k : Nat) : Int) := rfl
  have h2 : (OfNat.ofNat k : UInt8).toNat = (OfNat.ofNat k : Nat) := by
    show (UInt8.ofNat k).toNat = k
    rw [UInt8.toNat_ofNat']; exact Nat.mod_eq_of_lt hk
  rw [Bool.eq_iff_iff, decide_eq_true_eq, decide_eq_true_eq, UInt8.le_iff_toNat_le, h2, e]; omega

theorem R_In_eq (a b c : Int) : R_In a b c = some (decide (b ≤ a) && decide (a ≤ c)) := by
  unfold R_In; cases decide (b ≤ a) <;> rfl
theorem basic_Letter_eq (c : UInt8) : basic_Letter c = some (lettC c) := by
  unfold basic_Letter lettC
  simp only [u8_le1 97 c (by decide), u8_le2 122 c (by decide), u8_le1 65 c (by decide), u8_le2 90 c (by decide), u8_le1 48 c (by decide), u8_le2 57 c (by decide)]
  cases decide ((97 : UInt8) ≤ c) <;> cases decide (c ≤ 122) <;> cases decide ((65 : UInt8) ≤ c) <;> cases decide (c ≤ 90) <;> cases decide ((48 : UInt8) ≤ c) <;> cases decide (c ≤ 57) <;> rfl


/-! ### the reference's domains -/
/-! ### the reference's addresses -/
/-! ### the program's domains and addresses -/
theorem dots_contains (s : Str) : ∀ p, dotsOk p s = (!(p && (s.isEmpty || s.head? == some 46)) && !(s.getLast? == some 46) && !Lib.contains s [46, 46]) := by
  induction s with
  | nil => intro p; cases p <;> simp [dotsOk, Lib.contains, Lib.index]
  | cons c r ih =>
    intro p
    have hcont : Lib.contains (c :: r) [46, 46] = ((c == 46 && r.head? == some 46) || Lib.contains r [46, 46]) := by
      unfold Lib.contains
      rw [Lib.index]
      have hpre : ([46, 46] : List UInt8).isPrefixOf (c :: r) = (c == 46 && r.head? == some 46) := by
        cases r with
        | nil => simp [List.isPrefixOf]
        | cons d r => simp only [List.isPrefixOf, List.head?_cons, Bool.and_true]; rw [Bool.eq_iff_iff]; simp; constructor <;> rintro ⟨rfl, rfl⟩ <;> exact ⟨rfl, rfl⟩
      rw [hpre]
      have hg := Lib.index_ge r [46, 46]
      cases c == 46 && r.head? == some 46 with
      | true => simp
      | false =>
        simp only [Bool.false_eq_true, if_false, Bool.false_or]
        by_cases h : Lib.index r [46, 46] = -1
        · simp [h]
        · have : (Lib.index r [46, 46] == -1) = false := by simpa using h
          rw [this]
          simp only [Bool.false_eq_true, if_false]
          rw [Bool.eq_iff_iff]; simp; omega
    rw [hcont, dotsOk]
    have hlast : (c :: r).getLast? = if r.isEmpty then some c else r.getLast? := by cases r <;> simp
    rw [hlast]
    by_cases hc : c = 46
    · subst hc
      rw [if_pos rfl, ih true]
      cases r with
      | nil => simp
      | cons d r => cases p <;> cases hd : (d == 46) <;> simp_all [Bool.and_comm, Bool.and_assoc, Bool.and_left_comm]
    · have h1 : (c == 46) = false := by simpa using hc
      have h2 : (some c == some (46 : UInt8)) = false := by simpa using hc
      rw [if_neg hc, ih false]
      cases r with
      | nil => simp [h1, h2, Lib.contains, Lib.index, hc]
      | cons d r => simp [h1, h2, hc]
theorem strings_HasPrefix_eq (s t : Str) : strings_HasPrefix s t = some (t.isPrefixOf s) := by
  unfold strings_HasPrefix internal_stringslite_HasPrefix
  by_cases h : t.length ≤ s.length
  · have : decide ((t.length : Int) ≤ (s.length : Int)) = true := by simp; omega
    rw [this, cut_0n h]
    simp only [cond_true, Option.bind_some, Option.some.injEq]
    rw [Bool.eq_iff_iff, beq_iff_eq, List.isPrefixOf_iff_prefix, List.prefix_iff_eq_take]
    constructor <;> exact fun h => h.symm
  · have : decide ((t.length : Int) ≤ (s.length : Int)) = false := by simp; omega
    rw [this]
    simp only [cond_false, Option.bind_some, Option.some.injEq]
    symm
    rw [Bool.eq_false_iff]
    intro hp
    exact h (List.isPrefixOf_iff_prefix.1 hp).length_le
theorem strings_HasSuffix_eq (s t : Str) (hs : s.length ≤ 9223372036854775806) : strings_HasSuffix s t = some (t.isSuffixOf s) := by
  unfold strings_HasSuffix internal_stringslite_HasSuffix
  by_cases h : t.length ≤ s.length
  · have : decide ((t.length : Int) ≤ (s.length : Int)) = true := by simp; omega
    rw [this, w64_ns _ _ h (by omega), cut_nl (by omega)]
    simp only [cond_true, Option.bind_some, Option.some.injEq]
    rw [Bool.eq_iff_iff, beq_iff_eq, List.isSuffixOf_iff_suffix, List.suffix_iff_eq_drop]
    constructor <;> exact fun h => h.symm
  · have : decide ((t.length : Int) ≤ (s.length : Int)) = false := by simp; omega
    rw [this]
    simp only [cond_false, Option.bind_some, Option.some.injEq]
    symm
    rw [Bool.eq_false_iff]
    intro hp
    exact h (List.isSuffixOf_iff_suffix.1 hp).length_le
theorem dom_char (c : UInt8) : ((bif decide ((97 : UInt8) ≤ c) then (bif decide (c ≤ 122) then some true else (bif decide ((48 : UInt8) ≤ c) then (bif decide (c ≤ 57) then some true else (bif (c == 45) then some true else some (c == 46))) else (bif (c == 45) then some true else some (c == 46)))) else (bif decide ((48 : UInt8) ≤ c) then (bif decide (c ≤ 57) then some true else (bif (c == 45) then some true else some (c == 46))) else (bif (c == 45) then some true else some (c == 46)))) : Option Bool) = some (smallC c) := by
  unfold smallC
  cases decide ((97 : UInt8) ≤ c) <;> cases decide (c ≤ 122) <;> cases decide ((48 : UInt8) ≤ c) <;> cases decide (c ≤ 57) <;> cases (c == 45) <;> rfl
theorem envelope_Domain_eq (s : Str) (hs : s.length < 4294967281) : envelope_Domain s = some (domP s) := by
  have hloop : iter (envelope_Domain_l1 s) 0 = some ((firstI (fun _ c => if !smallC c then some () else none) 0 s).elim (.inl ()) .inr) := by
    refine iter_first s _ (Sum.inl ()) Sum.inr ?_ ?_
    · unfold envelope_Domain_l1; rw [dec_len]; rfl
    · intro i c hc
      have hi := lt_get hc
      unfold envelope_Domain_l1
      rw [dec_lt hc, idx_get hc]
      simp only [cond_true, Option.bind_some, u8_eq c 45 (by decide), u8_eq c 46 (by decide), u8_le1 97 c (by decide), u8_le2 122 c (by decide), u8_le1 48 c (by decide), u8_le2 57 c (by decide), dom_char]
      rw [show ((i : Int) + 1) = ((i + 1 : Nat) : Int) by omega, w64_n _ (by omega)]
      cases smallC c <;> rfl
  unfold envelope_Domain domP
  rw [hloop, firstI_any, dots_contains]
  by_cases hn : s = []
  · subst hn; simp
  · have h1 : (s != ([] : Str)) = true := by simpa using hn
    rw [h1]
    simp only [cond_true]
    by_cases hl : s.length ≤ 60
    · have h2 : decide ((s.length : Int) ≤ 60) = true := by simp; omega
      rw [h2]
      have hall : s.any (fun c => !smallC c) = !(s.all smallC) := by simp [List.not_all_eq_any_not]
      rw [hall]
      cases hg : s.all smallC with
      | false => simp [hl]
      | true =>
        simp only [Bool.not_true, Bool.false_eq_true, if_false, Option.elim, Option.bind_some, cond_true, strings_HasPrefix_eq, strings_HasSuffix_eq s [46] (by omega), strings_Contains, if_pos hs]
        have hp : ([46] : Str).isPrefixOf s = (s.head? == some 46) := by
          cases s with
          | nil => rfl
          | cons d r => simp only [List.isPrefixOf, List.head?_cons, Bool.and_true]; rw [Bool.eq_iff_iff]; simp; exact ⟨fun h => h.symm, fun h => h.symm⟩
        have hsf : ([46] : Str).isSuffixOf s = (s.getLast? == some 46) := by
          rw [Bool.eq_iff_iff, List.isSuffixOf_iff_suffix, beq_iff_eq]
          constructor
          · rintro ⟨t, rfl⟩; simp
          · intro h
            obtain ⟨ys, rfl⟩ := List.getLast?_eq_some_iff.1 h
            exact ⟨ys, rfl⟩
        have he : s.isEmpty = false := by simpa using hn
        rw [hp, hsf, he]
        cases s.head? == some 46 <;> cases s.getLast? == some 46 <;> cases Lib.contains s [46, 46] <;> simp [hl]
    · have h2 : decide ((s.length : Int) ≤ 60) = false := by simp; omega
      rw [h2]; simp [hl]
theorem indexByte_atP (s : Str) : Lib.index s [64] = if atP s < s.length then (atP s : Int) else -1 := by
  rw [Lib.index_one]
  unfold atP
  induction s with
  | nil => rfl
  | cons c r ih =>
    rw [Lib.indexByte, List.findIdx_cons]
    cases hc : (c == 64) with
    | true => simp
    | false =>
      simp only [Bool.false_eq_true, if_false, cond_false, List.length_cons]
      rw [ih]
      by_cases h : r.findIdx (· == 64) < r.length
      · simp only [if_pos h, if_pos (show r.findIdx (· == 64) + 1 < r.length + 1 by omega)]
        have : (((r.findIdx (· == 64) : Nat) : Int) == -1) = false := by rw [beq_eq_false_iff_ne]; omega
        rw [this]; simp
      · simp only [if_neg h, if_neg (show ¬ (r.findIdx (· == 64) + 1 < r.length + 1) by omega)]; simp
theorem cut_at (s : Str) : Lib.cut s [64] = if atP s < s.length then (s.take (atP s), s.drop (atP s + 1), true) else (s, [], false) := by
  unfold Lib.cut
  rw [indexByte_atP]
  by_cases h : atP s < s.length
  · rw [if_pos h, if_pos h, if_pos (by omega)]; simp
  · rw [if_neg h, if_neg h, if_neg (by omega)]
def splitP (s : Str) : Str × Str × Bool := if atP s < s.length then (s.take (atP s), s.drop (atP s + 1), addrP s) else (s, [], false)
theorem good_char (c : UInt8) : (lettC c || decide (0 ≤ Lib.indexByte [45, 95, 46, 43, 61] c)) = goodC c := by
  unfold goodC
  by_cases h1 : c = 45
  · subst h1; decide
  by_cases h2 : c = 95
  · subst h2; decide
  by_cases h3 : c = 46
  · subst h3; decide
  by_cases h4 : c = 43
  · subst h4; decide
  by_cases h5 : c = 61
  · subst h5; decide
  rw [beq_eq_false_iff_ne.2 h1, beq_eq_false_iff_ne.2 h2, beq_eq_false_iff_ne.2 h3, beq_eq_false_iff_ne.2 h4, beq_eq_false_iff_ne.2 h5]
  simp [Lib.indexByte, Ne.symm h1, Ne.symm h2, Ne.symm h3, Ne.symm h4, Ne.symm h5]
theorem envelope_Split_eq (s : Str) (hs : s.length < 4294967281) : envelope_Split s = some (splitP s) := by
  have hloop : ∀ v : Str × Str × Bool, v.1.length < 4294967281 → iter (envelope_Split_l1 v) 0 = some ((firstI (fun _ c => if !goodC c then some () else none) 0 v.1).elim (.inl ()) .inr) := by
    intro v hv
    refine iter_first v.1 _ (Sum.inl ()) Sum.inr ?_ ?_
    · unfold envelope_Split_l1; rw [dec_len]; rfl
    · intro i c hc
      have hi := lt_get hc
      unfold envelope_Split_l1
      rw [dec_lt hc, idx_get hc]
      simp only [cond_true, Option.bind_some, basic_Letter_eq, strings_IndexByte]
      rw [show ((i : Int) + 1) = ((i + 1 : Nat) : Int) by omega, w64_n _ (by omega)]
      have hg := good_char c
      cases hl : lettC c with
      | true => rw [hl] at hg; simp only [Bool.true_or] at hg; rw [← hg]; rfl
      | false => rw [hl] at hg; simp only [Bool.false_or] at hg; rw [← hg]; cases decide (0 ≤ Lib.indexByte [45, 95, 46, 43, 61] c) <;> rfl
  unfold envelope_Split strings_Cut
  rw [if_pos hs, cut_at]
  simp only [Option.bind_some]
  unfold splitP
  by_cases h : atP s < s.length
  · simp only [if_pos h, cond_true]
    rw [hloop _ (by simp; omega), firstI_any]
    have hall : (s.take (atP s)).any (fun c => !goodC c) = !((s.take (atP s)).all goodC) := by simp [List.not_all_eq_any_not]
    simp only [hall]
    have hlen : (s.take (atP s)).length = atP s := by simp; omega
    rw [hlen, envelope_Domain_eq _ (by simp; omega)]
    unfold addrP
    by_cases h0 : atP s = 0
    · simp [h0]
    · have hne : (s.take (atP s) != ([] : Str)) = true := by
        simp only [bne_iff_ne, ne_eq]
        intro hx
        have := congrArg List.length hx
        rw [hlen] at this; simp at this; omega
      rw [hne]
      by_cases h60 : atP s ≤ 60
      · have e : decide ((atP s : Int) ≤ 60) = true := by simp; omega
        rw [e]
        cases (s.take (atP s)).all goodC <;> simp [h, h60] <;> omega
      · have e : decide ((atP s : Int) ≤ 60) = false := by simp; omega
        rw [e]; simp [h60]
  · simp [if_neg h]
theorem addrP_split (s : Str) : (splitP s).2.2 = addrP s := by
  unfold splitP
  by_cases h : atP s < s.length
  · rw [if_pos h]
  · rw [if_neg h]; unfold addrP; simp [h]
theorem envelope_Address_eq (s : Str) (hs : s.length < 4294967281) : envelope_Address s = some (addrP s) := by
  unfold envelope_Address; rw [envelope_Split_eq s hs]; simp [addrP_split]

/-! ### small things -/
end Go.Proofs.YtfkgmcilaiblfaaGreatDoor

/- Small laws on faults and first hits. -/
namespace Go.Proofs.YtfkgmcilaiblfaaGreatDoor
open Go.RowKit
set_option linter.unusedVariables false
theorem elim_unit_bool (o : Option Unit) (a b : Bool) : Sum.elim (fun _ => some a) (fun _ => some b) (o.elim (Sum.inl ()) Sum.inr : Unit ⊕ Unit) = some (bif o.isSome then b else a) := by cases o <;> rfl
theorem firstI_isSome {α R : Type} (c : α → Bool) (r : R) (l : List α) (n : Nat) : (firstI (fun _ x => if c x then some r else none) n l).isSome = l.any c := by
  rw [firstI_any]; cases l.any c <;> rfl
theorem not_all {α : Type} (l : List α) (p : α → Bool) : l.any (fun x => !p x) = !l.all p := by simp [List.not_all_eq_any_not]
theorem R_At_eq (a b : Int) : R_At a b = some ⟨a, b⟩ := rfl
theorem basic_Fault_eq (a b : Int) : basic_Fault a b = some ⟨a, b⟩ := rfl
theorem basic_None_eq : basic_None = some ⟨0, 0⟩ := rfl
theorem basic_Failed_eq (f : TFault) : basic_Failed f = some (f.Code != 0) := rfl
theorem elim_fault (o : Option TFault) (f : TFault) : Sum.elim (fun _ => some f) (fun b => some b) (o.elim (Sum.inl ()) Sum.inr : Unit ⊕ TFault) = some (o.getD f) := by cases o <;> rfl
end Go.Proofs.YtfkgmcilaiblfaaGreatDoor

/- Envelopes: the plain functions, and what the typed functions compute. -/
namespace Go.Proofs.YtfkgmcilaiblfaaGreatDoor
open Go.RowKit
set_option linter.unusedVariables false
set_option maxHeartbeats 1000000

def nameC (c : UInt8) : Bool := lettC c || c == 45 || c == 95 || c == 46
def nameP (s : Str) : Bool := decide (1 ≤ s.length) && decide (s.length ≤ 60) && s.all nameC
theorem nameP_len {s : Str} (h : nameP s = true) : 1 ≤ s.length ∧ s.length ≤ 60 := by
  unfold nameP at h
  simp only [Bool.and_eq_true, decide_eq_true_eq] at h
  exact ⟨h.1.1, h.1.2⟩
theorem basic_Name_eq (s : Str) (hs : s.length ≤ 1048576) : basic_Name s = some (nameP s) := by
  have hloop : iter (basic_Name_l1 s) 0 = some ((firstI (fun _ c => if !nameC c then some () else none) 0 s).elim (.inl ()) .inr) := by
    refine iter_first s _ (Sum.inl ()) Sum.inr ?_ ?_
    · unfold basic_Name_l1; rw [dec_len]; rfl
    · intro i c hc
      have hi := lt_get hc
      unfold basic_Name_l1
      rw [dec_lt hc, idx_get hc]
      simp only [cond_true, Option.bind_some, basic_Letter_eq, u8_eq c 45 (by decide), u8_eq c 95 (by decide), u8_eq c 46 (by decide), sc i (by omega)]
      unfold nameC
      cases lettC c <;> cases (c == 45) <;> cases (c == 95) <;> cases (c == 46) <;> rfl
  unfold basic_Name nameP
  rw [hloop]
  simp only [Option.bind_some, elim_unit_bool, firstI_isSome, not_all]
  by_cases hn : s = []
  · subst hn; rfl
  · have h1 : (s != ([] : Str)) = true := by simpa using hn
    have h2 : decide (1 ≤ s.length) = true := by have := List.length_pos_iff.2 hn; simp; omega
    have e2 : decide ((s.length : Int) ≤ 60) = decide (s.length ≤ 60) := by rw [Bool.eq_iff_iff]; simp; omega
    rw [h1, h2, e2]
    cases decide (s.length ≤ 60) <;> cases s.all nameC <;> rfl

/-! ### recipients, envelopes -/
def noteP (n : Int) : Bool := decide (0 ≤ n) && decide (n ≤ 7)
def recQ (l : List TRecipient) (i : Nat) (r : TRecipient) : Option TFault :=
  if !addrP r.Address then some ⟨10, i⟩ else if !noteP r.Notify then some ⟨3, i⟩ else if (l.take i).any (fun x => x.Address == r.Address) then some ⟨7, i⟩ else none
def recF (l : List TRecipient) : TFault := (firstI (recQ l) 0 l).getD ⟨0, 0⟩
def fromB (s : Str) : Bool := s != ([] : Str) && !addrP s
def envF (e : TEnvelope) : TFault := if fromB e.From then ⟨10, -10⟩ else if decide (e.To.length < 1) || decide (60 < e.To.length) then ⟨2, -11⟩ else if e.Id != ([] : Str) && !nameP e.Id then ⟨10, -12⟩ else recF e.To
def smallR (l : List TRecipient) : Prop := l.length ≤ 1048576 ∧ ∀ a ∈ l, a.Address.length ≤ 1048576
def smallE (e : TEnvelope) : Prop := e.From.length ≤ 1048576 ∧ e.Id.length ≤ 1048576 ∧ smallR e.To
theorem envelope_Notify_eq (n : Int) : envelope_Notify n = some (noteP n) := by unfold envelope_Notify noteP; cases decide (0 ≤ n) <;> rfl
theorem any_take (l : List TRecipient) (i : Nat) (s : Str) (hl : l.length ≤ 1048576) : decide ((0 : Int) ≤ (firstI (fun i x => if x.Address == s then some ((i : Nat) : Int) else none) 0 (l.take i)).getD (-1)) = (l.take i).any (fun x => x.Address == s) := first_idx (fun x => x.Address == s) (l.take i) 0
theorem envelope_Recipients_eq (l : List TRecipient) (h : smallR l) : envelope_Recipients l = some (recF l) := by
  obtain ⟨h3, h4⟩ := h
  unfold envelope_Recipients recF
  rw [iter_first l (recQ l) (.inl ()) .inr]
  · simp only [Option.bind_some, basic_None_eq, elim_fault]
  · unfold envelope_Recipients_l1; rw [dec_len]; rfl
  · intro i r hr
    have hi := lt_get hr
    have ha := h4 r (List.mem_of_getElem? hr)
    have hl2 : iter (envelope_Recipients_l2 r (l.take i)) 0 = some ((firstI (fun i x => if x.Address == r.Address then some ((i : Nat) : Int) else none) 0 (l.take i)).elim (.inl ()) .inr) := by
      refine iter_first (l.take i) _ (Sum.inl ()) Sum.inr ?_ ?_
      · unfold envelope_Recipients_l2; rw [dec_len]; rfl
      · intro k x hx
        have hk := lt_get hx
        simp at hk
        unfold envelope_Recipients_l2
        rw [dec_lt hx, idx_get hx]
        simp only [cond_true, Option.bind_some, sc k (by omega)]
        cases x.Address == r.Address <;> rfl
    unfold envelope_Recipients_l1 recQ
    rw [dec_lt hr, idx_get hr]
    simp only [cond_true, Option.bind_some, envelope_Address_eq _ (show r.Address.length < 4294967281 by omega), basic_Fault_eq, envelope_Notify_eq, cut_0n (Nat.le_of_lt hi), hl2, elim_idx, any_take _ _ _ h3, sc i (by omega)]
    cases addrP r.Address <;> cases noteP r.Notify <;> cases (l.take i).any (fun x => x.Address == r.Address) <;> rfl
theorem envelope_Validate_eq (e : TEnvelope) (h : smallE e) : envelope_Validate e = some (envF e) := by
  obtain ⟨h1, h2, h3⟩ := h
  unfold envelope_Validate envF
  rw [envelope_Address_eq _ (by omega), basic_Name_eq _ h2, envelope_Recipients_eq _ h3]
  have e1 : decide ((e.To.length : Int) < 1) = decide (e.To.length < 1) := by generalize e.To.length = n; rw [Bool.eq_iff_iff]; simp; omega
  have e2 : decide ((60 : Int) < (e.To.length : Int)) = decide (60 < e.To.length) := by rw [Bool.eq_iff_iff]; simp; omega
  simp only [Option.bind_some, basic_Fault_eq, e1, e2]
  unfold fromB
  cases e.From != ([] : Str) <;> cases addrP e.From <;> cases decide (e.To.length < 1) <;> cases decide (60 < e.To.length) <;> cases e.Id != ([] : Str) <;> cases nameP e.Id <;> rfl
theorem smallE_of {e : TEnvelope} (h : TEnvelope.bk e ≤ 1048576) : smallE e := by
  unfold TEnvelope.bk at h
  dsimp only at h
  refine ⟨by omega, by omega, ?_, fun a ha => ?_⟩
  · have := bkL_len (bk := TRecipient.bk) (fun x => by unfold TRecipient.bk; omega) e.To; omega
  · have h5 := bkL_mem (bk := TRecipient.bk) ha; have h6 : TRecipient.bk a = a.Address.length + 1 + 1 + 1 := rfl; omega
end Go.Proofs.YtfkgmcilaiblfaaGreatDoor

/- Days and years: dates.Civil and dates.Print, the reference's When: both give the same text. -/
namespace Go.Proofs.YtfkgmcilaiblfaaGreatDoor
open Go.RowKit
set_option linter.unusedVariables false
set_option maxHeartbeats 1000000
theorem befI_one : befI 1 = 0 := by decide
theorem befI_4001 : befI 4001 = 1460970 := by decide
theorem befI_4000 : befI 4000 = 1460604 := by decide
theorem month_exists (y n : Int) (h0 : 0 ≤ n) : ∀ k : Nat, n < domI y k → ∃ M : Nat, M < k ∧ domI y M ≤ n ∧ n < domI y (M + 1)
  | 0, h => by simp only [domI] at h; omega
  | k + 1, h => by
    by_cases h2 : n < domI y k
    · obtain ⟨M, h3, h4⟩ := month_exists y n h0 k h2
      exact ⟨M, by omega, h4⟩
    · exact ⟨k, by omega, by omega, h⟩
theorem iRem_nn {a b : Int} (h : 0 ≤ a) : iRem a b = a % b := Int.tmod_eq_emod_of_nonneg h
/-- the loops of When -/
theorem when_l1 (t : Int) (h1 : -68719476736 ≤ t) (h2 : t ≤ 68719476736) : ∃ r : Int × Int, iter R_When_l1 (t, 0) = some r ∧ 0 ≤ r.1 ∧ r.1 + 86400 * r.2 = t ∧ r.1 ≤ 68719476736 := by
  have key := iter_rec (body := R_When_l1) (fun s => s.1 + 86400 * s.2 = t ∧ -68719476736 ≤ s.1 ∧ s.1 ≤ 68719476736 ∧ s.2 ≤ 0 ∧ -1000000 ≤ s.2 ∧ t ≤ s.1) (fun s => (-s.1).toNat) (fun s r => 0 ≤ r.1 ∧ r.1 + 86400 * r.2 = t ∧ r.1 ≤ 68719476736) (fun s hs => by
    obtain ⟨i1, i2, i3, i4, i5, i6⟩ := hs
    by_cases hc : s.1 < 0
    · right
      refine ⟨(s.1 + 34560000, s.2 - 400), ?_, ⟨?_, ?_, ?_, ?_, ?_, ?_⟩, ?_, fun r h => h⟩
      · unfold R_When_l1
        rw [decide_eq_true hc, w64_id (by omega) (by omega), w64_id (by omega) (by omega)]; rfl
      all_goals (dsimp only; omega)
    · left
      refine ⟨s, ?_, ⟨by omega, i1, i3⟩⟩
      unfold R_When_l1
      rw [decide_eq_false hc]; rfl)
  exact key (t, 0) ⟨by simp, h1, h2, by simp, by simp, by simp⟩
theorem when_l2 (D : Int) (h1 : -800000 ≤ D) (h2 : D ≤ 800000) : ∃ r : Int × Int, iter R_When_l2 (D, 1970) = some r ∧ 0 ≤ r.1 ∧ befI r.2 + r.1 = 719162 + D ∧ r.1 ≤ 800000 ∧ -10000 ≤ r.2 ∧ r.2 ≤ 1970 := by
  have key := iter_rec (body := R_When_l2) (fun s => befI s.2 + s.1 = 719162 + D ∧ s.1 ≤ 800000 ∧ -800000 ≤ s.1 ∧ s.2 ≤ 1970 ∧ -800000 + 365 * (1970 - s.2) ≤ s.1) (fun s => (-s.1).toNat) (fun s r => 0 ≤ r.1 ∧ befI r.2 + r.1 = 719162 + D ∧ r.1 ≤ 800000 ∧ -10000 ≤ r.2 ∧ r.2 ≤ 1970) (fun s hs => by
    obtain ⟨i1, i2, i3, i4, i5⟩ := hs
    by_cases hc : s.1 < 0
    · right
      have hy := befI_succ (s.2 - 1)
      rw [show s.2 - 1 + 1 = s.2 by omega] at hy
      have hb := ylen_pos (s.2 - 1)
      have hb2 : ylen (s.2 - 1) = if leapI (s.2 - 1) then 366 else 365 := rfl
      have e1 : w64 (s.2 - 1) = s.2 - 1 := w64_id (by omega) (by omega)
      refine ⟨(s.1 + ylen (s.2 - 1), s.2 - 1), ?_, ⟨?_, ?_, ?_, ?_, ?_⟩, ?_, fun r h => h⟩
      · unfold R_When_l2
        rw [decide_eq_true hc, e1, R_leap_eq]
        simp only [cond_true, Option.bind_some]
        have e2 : w64 (s.1 + 365) = s.1 + 365 := w64_id (by omega) (by omega)
        have e3 : w64 (s.1 + 365 + 1) = s.1 + 365 + 1 := w64_id (by omega) (by omega)
        rw [e2, e3, hb2]
        cases leapI (s.2 - 1)
        · rfl
        · simp only [cond_true, if_true]
          rw [show s.1 + 365 + 1 = s.1 + 366 by omega]
      all_goals (dsimp only; omega)
    · left
      refine ⟨s, ?_, ⟨by omega, i1, i2, by omega, i4⟩⟩
      unfold R_When_l2
      rw [decide_eq_false hc]; rfl)
  exact key (D, 1970) ⟨by rw [befI_1970], by omega, by omega, by simp, by simp; omega⟩
theorem when_l3 (N : Int) (s0 : Int × Int) (h0 : 0 ≤ s0.1) (h1 : s0.1 ≤ 800000) (h2 : -10000 ≤ s0.2) (h3 : s0.2 ≤ 1970) (hN : befI s0.2 + s0.1 = N) : ∃ r : Int × Int, iter R_When_l3 s0 = some r ∧ 0 ≤ r.1 ∧ r.1 < ylen r.2 ∧ befI r.2 + r.1 = N ∧ -10000 ≤ r.2 ∧ r.2 ≤ 10000 := by
  have key := iter_rec (body := R_When_l3) (fun s => befI s.2 + s.1 = N ∧ 0 ≤ s.1 ∧ s.1 ≤ 800000 ∧ -10000 ≤ s.2 ∧ s.1 + 365 * (s.2 - s0.2) ≤ 800000) (fun s => s.1.toNat) (fun s r => 0 ≤ r.1 ∧ r.1 < ylen r.2 ∧ befI r.2 + r.1 = N ∧ -10000 ≤ r.2 ∧ r.2 ≤ 10000) (fun s hs => by
    obtain ⟨i1, i2, i3, i4, i5⟩ := hs
    have hy := befI_succ s.2
    have hb := ylen_pos s.2
    have hb2 : ylen s.2 = if leapI s.2 then 366 else 365 := rfl
    have hj : ((R_leap s.2).bind fun v19 => (bif v19 then some 366 else some 365) : Option Int) = some (ylen s.2) := by
      rw [R_leap_eq, hb2]; cases leapI s.2 <;> rfl
    by_cases hc : s.1 < ylen s.2
    · left
      refine ⟨s, ?_, ⟨i2, hc, i1, i4, by omega⟩⟩
      unfold R_When_l3
      rw [hj]
      simp only [Option.bind_some]
      rw [decide_eq_true hc]; rfl
    · right
      refine ⟨(s.1 - ylen s.2, s.2 + 1), ?_, ⟨?_, ?_, ?_, ?_, ?_⟩, ?_, fun r h => h⟩
      · unfold R_When_l3
        rw [hj]
        simp only [Option.bind_some]
        rw [decide_eq_false hc, w64_id (by omega) (by omega), w64_id (by omega) (by omega)]; rfl
      all_goals (dsimp only; omega))
  exact key s0 ⟨hN, h0, h1, h2, by omega⟩
theorem R_days_eq {y m : Int} (h1 : 1 ≤ m) (h2 : m ≤ 12) : R_days y m = some (dimI y m) := by
  unfold R_days
  have e0 : w64 (m - 1) = m - 1 := w64_id (by omega) (by omega)
  rw [e0, R_leap_eq]
  obtain rfl | rfl | rfl | rfl | rfl | rfl | rfl | rfl | rfl | rfl | rfl | rfl : m = 1 ∨ m = 2 ∨ m = 3 ∨ m = 4 ∨ m = 5 ∨ m = 6 ∨ m = 7 ∨ m = 8 ∨ m = 9 ∨ m = 10 ∨ m = 11 ∨ m = 12 := by omega
  all_goals (cases h : leapI y <;> simp [dimI, h, idx])
theorem when_l4 (b : Int × Int) (M : Nat) (hM : M ≤ 11) (hd : domI b.2 M ≤ b.1 ∧ b.1 < domI b.2 (M + 1)) (hb : b.1 ≤ 400) : ∀ (n k : Nat), k + n = M → iter (R_When_l4 b) (((k + 1 : Nat) : Int), b.1 - domI b.2 k) = some (((M + 1 : Nat) : Int), b.1 - domI b.2 M)
  | 0, k, h => by
    obtain rfl : k = M := by omega
    refine iter_out ?_
    unfold R_When_l4
    dsimp only
    rw [R_days_eq (by omega) (by omega)]
    simp only [Option.bind_some]
    have := domI_nn b.2 k
    rw [decide_eq_false (by simp only [domI] at hd; omega)]; rfl
  | n + 1, k, h => by
    have hk := domI_mono b.2 (show k + 1 ≤ M by omega)
    have hn := domI_nn b.2 k
    have hp := dimI_pos b.2 ((k + 1 : Nat) : Int)
    have e : domI b.2 (k + 1) = domI b.2 k + dimI b.2 ((k + 1 : Nat) : Int) := rfl
    have hc : R_When_l4 b (((k + 1 : Nat) : Int), b.1 - domI b.2 k) = some (.cont (((k + 1 + 1 : Nat) : Int), b.1 - domI b.2 (k + 1))) := by
      unfold R_When_l4
      dsimp only
      rw [R_days_eq (by omega) (by omega)]
      simp only [Option.bind_some]
      rw [decide_eq_true (by omega), w64_id (by omega) (by omega), w64_id (by omega) (by omega)]
      simp only [cond_true]
      congr 3
      omega
    rw [iter_cont hc]
    exact when_l4 b M hM hd hb n (k + 1) (by omega)
theorem when_l5 (b : Int × Int) (hy : 1 ≤ b.2) (hy2 : b.2 ≤ 4000) : ∀ (n : Nat) (k : Int), 1 ≤ k → k + n = b.2 → iter (R_When_l5 b) (befI k - 364 * (k - 1) + 1, k) = some (befI b.2 - 364 * (b.2 - 1) + 1)
  | 0, k, h1, h => by
    obtain rfl : b.2 = k := by omega
    refine iter_out ?_
    unfold R_When_l5
    dsimp only
    rw [decide_eq_false (by omega)]; rfl
  | n + 1, k, h1, h => by
    have hs := befI_succ k
    have hb2 : ylen k = if leapI k then 366 else 365 := rfl
    have hb0 := befI_bound h1 (by omega)
    have hc : R_When_l5 b (befI k - 364 * (k - 1) + 1, k) = some (.cont (befI (k + 1) - 364 * (k + 1 - 1) + 1, k + 1)) := by
      unfold R_When_l5
      dsimp only
      rw [decide_eq_true (by omega), R_leap_eq]
      have e1 : w64 (befI k - 364 * (k - 1) + 1 + 1) = befI k - 364 * (k - 1) + 1 + 1 := w64_id (by omega) (by omega)
      have e2 : w64 (befI k - 364 * (k - 1) + 1 + 1 + 1) = befI k - 364 * (k - 1) + 1 + 1 + 1 := w64_id (by omega) (by omega)
      have e3 : w64 (k + 1) = k + 1 := w64_id (by omega) (by omega)
      simp only [cond_true, Option.bind_some]
      rw [e1, e2, e3]
      cases hl : leapI k
      · rw [hl] at hb2
        simp only [cond_false, Option.bind_some]
        congr 3
        simp at hb2; omega
      · rw [hl] at hb2
        simp only [cond_true, Option.bind_some]
        congr 3
        simp at hb2; omega
    rw [iter_cont hc]
    exact when_l5 b hy hy2 n (k + 1) (by omega) (by omega)

def wdT (w : Nat) : Str := (([83, 117, 110, 77, 111, 110, 84, 117, 101, 87, 101, 100, 84, 104, 117, 70, 114, 105, 83, 97, 116] : Str).drop (3 * w)).take 3
def moT (m : Nat) : Str := (([74, 97, 110, 70, 101, 98, 77, 97, 114, 65, 112, 114, 77, 97, 121, 74, 117, 110, 74, 117, 108, 65, 117, 103, 83, 101, 112, 79, 99, 116, 78, 111, 118, 68, 101, 99] : Str).drop (3 * m)).take 3
theorem wd_cut : ∀ w : Fin 7, cut (([83, 117, 110, 77, 111, 110, 84, 117, 101, 87, 101, 100, 84, 104, 117, 70, 114, 105, 83, 97, 116] : Str)) ((w64 (3 * (w.val : Int)))) ((w64 ((w64 (3 * (w.val : Int))) + 3))) = some (wdT w.val) := by decide
theorem mo_cut : ∀ m : Fin 12, cut (([74, 97, 110, 70, 101, 98, 77, 97, 114, 65, 112, 114, 77, 97, 121, 74, 117, 110, 74, 117, 108, 65, 117, 103, 83, 101, 112, 79, 99, 116, 78, 111, 118, 68, 101, 99] : Str)) ((w64 ((w64 (3 * ((m.val + 1 : Nat) : Int))) - 3))) ((w64 (3 * ((m.val + 1 : Nat) : Int)))) = some (moT m.val) := by decide
theorem wd_idx : ∀ w : Fin 7, dates_weekdays.bind (fun v30 => (idx ([v30.1, v30.2.1, v30.2.2.1, v30.2.2.2.1, v30.2.2.2.2.1, v30.2.2.2.2.2.1, v30.2.2.2.2.2.2] : List Str) (w.val : Int))) = some (wdT w.val) := by decide
theorem mo_idx : ∀ m : Fin 12, dates_months.bind (fun v38 => (idx ([v38.1, v38.2.1, v38.2.2.1, v38.2.2.2.1, v38.2.2.2.2.1, v38.2.2.2.2.2.1, v38.2.2.2.2.2.2.1, v38.2.2.2.2.2.2.2.1, v38.2.2.2.2.2.2.2.2.1, v38.2.2.2.2.2.2.2.2.2.1, v38.2.2.2.2.2.2.2.2.2.2.1, v38.2.2.2.2.2.2.2.2.2.2.2] : List Str) (m.val : Int))) = some (moT m.val) := by decide
theorem wdT_len : ∀ w : Fin 7, (wdT w.val).length = 3 := by decide
theorem moT_len : ∀ m : Fin 12, (moT m.val).length = 3 := by decide
/-- the text of a date -/
def dateT (w D m y h mi s : Nat) : Str := wdT w ++ [44, 32] ++ padD D 2 ++ [32] ++ moT m ++ [32] ++ padD y 4 ++ [32] ++ padD h 2 ++ [58] ++ padD mi 2 ++ [58] ++ padD s 2 ++ [32, 43, 48, 48, 48, 48]
end Go.Proofs.YtfkgmcilaiblfaaGreatDoor

/- dates.Civil and dates.Print and the reference's When give the same text. -/
namespace Go.Proofs.YtfkgmcilaiblfaaGreatDoor
open Go.RowKit
set_option linter.unusedVariables false
set_option maxHeartbeats 1000000
theorem dates_within_eq (a b c : Int) : dates_within a b c = some (decide (b ≤ a) && decide (a ≤ c)) := by
  unfold dates_within
  by_cases h : b ≤ a <;> simp [h]
theorem basic_Time_eq (t : Int) : basic_Time t = some (decide (-68719476736 ≤ t) && decide (t ≤ 68719476736)) := by
  unfold basic_Time
  by_cases h : (-68719476736 : Int) ≤ t <;> simp [h]
theorem pad2 {u : Nat} (h : u < 1000000) : dates_pad (u : Int) 2 = some (padD u 2) := dates_pad_eq u 2 (by omega) (by omega)
theorem pad4 {u : Nat} (h : u < 1000000) : dates_pad (u : Int) 4 = some (padD u 4) := dates_pad_eq u 4 (by omega) (by omega)
theorem fill2 {u : Nat} (h : u < 1000000) : R_Fill (u : Int) 2 = some (padD u 2) := R_Fill_eq u 2 (by omega) (by omega)
theorem fill4 {u : Nat} (h : u < 1000000) : R_Fill (u : Int) 4 = some (padD u 4) := R_Fill_eq u 4 (by omega) (by omega)
theorem domI_11_4000 : domI 4000 11 = 335 := by decide
theorem civil_out (t : Int) (h1 : -68719476736 ≤ t) (h2 : t ≤ 68719476736) (hN : t / 86400 + 719162 < 0 ∨ 1460970 ≤ t / 86400 + 719162) : ∃ d, dates_Civil t 0 = some (d, ⟨3, -3⟩) := by
  unfold dates_Civil
  rw [basic_Time_eq, decide_eq_true h1, decide_eq_true h2]
  simp only [Option.bind_some, Bool.and_true, Bool.not_true, cond_false, dates_within_eq]
  have e1 : w64 (60 * (0 : Int)) = 0 := by decide
  have e2 : w64 (t + 0) = t := by rw [Int.add_zero]; exact w64_id (by omega) (by omega)
  have d1 := dates_day_eq (y := 1) (m := 1) (d := 1) (by omega) (by omega) (by omega) (by omega) (by omega) (by omega)
  have d2 := dates_day_eq (y := 4000) (m := 12) (d := 31) (by omega) (by omega) (by omega) (by omega) (by omega) (by omega)
  rw [show ((1 : Nat) : Int) = 1 from rfl, dayN_11, befI_one] at d1
  have e3 : dayN 4000 12 31 = 741807 := by unfold dayN; rw [befI_1970, befI_4000]; show (1460604 : Int) - 719162 + 31 - 1 + domI 4000 11 = _; rw [domI_11_4000]; rfl
  rw [show ((12 : Nat) : Int) = 12 from rfl, e3] at d2
  rw [e1, e2, dates_split_eq (by omega) (by omega) (by omega) (by omega), d1]
  rw [show (decide ((-900 : Int) ≤ 0) && decide ((0 : Int) ≤ 900)) = true by decide]
  simp only [Option.bind_some, Bool.not_true, cond_false]
  rcases hN with hN | hN
  · rw [decide_eq_true (by omega : t / 86400 < 0 - 719162)]
    exact ⟨_, rfl⟩
  · rw [decide_eq_false (by omega : ¬ t / 86400 < 0 - 719162), d2]
    simp only [Option.bind_some, cond_false]
    rw [decide_eq_true (by omega : 741807 < t / 86400)]
    exact ⟨_, rfl⟩
theorem civil_in (t : Int) (h1 : -68719476736 ≤ t) (h2 : t ≤ 68719476736) (Y : Int) (M : Nat) (g : Int) (hY1 : 1 ≤ Y) (hY2 : Y ≤ 4000) (hM : M ≤ 11) (hN : befI Y + g = t / 86400 + 719162) (hd : domI Y M ≤ g ∧ g < domI Y (M + 1)) :
    dates_Civil t 0 = some (⟨Y, ((M + 1 : Nat) : Int), g - domI Y M + 1, t % 86400 / 3600, t % 86400 / 60 % 60, t % 86400 % 60, 0⟩, ⟨0, 0⟩) := by
  have hb0 := befI_bound hY1 (by omega)
  have hn := domI_nn Y M
  have hm12 := domI_mono Y (show M + 1 ≤ 12 by omega)
  have hyl := ylen_pos Y
  have hys := befI_succ Y
  have h40 := befI_mono (show Y + 1 ≤ 4001 by omega)
  rw [domI_12] at hm12
  rw [befI_4001] at h40
  have hr1 := Int.emod_nonneg t (show (86400 : Int) ≠ 0 by omega)
  have hr2 := Int.emod_lt_of_pos t (show (0 : Int) < 86400 by omega)
  unfold dates_Civil
  rw [basic_Time_eq, decide_eq_true h1, decide_eq_true h2]
  simp only [Option.bind_some, Bool.and_true, Bool.not_true, cond_false, dates_within_eq]
  have e1 : w64 (60 * (0 : Int)) = 0 := by decide
  have e2 : w64 (t + 0) = t := by rw [Int.add_zero]; exact w64_id (by omega) (by omega)
  have d1 := dates_day_eq (y := 1) (m := 1) (d := 1) (by omega) (by omega) (by omega) (by omega) (by omega) (by omega)
  have d2 := dates_day_eq (y := 4000) (m := 12) (d := 31) (by omega) (by omega) (by omega) (by omega) (by omega) (by omega)
  rw [show ((1 : Nat) : Int) = 1 from rfl, dayN_11, befI_one] at d1
  have e3 : dayN 4000 12 31 = 741807 := by unfold dayN; rw [befI_1970, befI_4000]; show (1460604 : Int) - 719162 + 31 - 1 + domI 4000 11 = _; rw [domI_11_4000]; rfl
  rw [show ((12 : Nat) : Int) = 12 from rfl, e3] at d2
  rw [e1, e2, dates_split_eq (by omega) (by omega) (by omega) (by omega), d1]
  rw [show (decide ((-900 : Int) ≤ 0) && decide ((0 : Int) ≤ 900)) = true by decide]
  simp only [Option.bind_some, Bool.not_true, cond_false]
  rw [decide_eq_false (by omega : ¬ t / 86400 < 0 - 719162), d2]
  simp only [Option.bind_some, cond_false]
  rw [decide_eq_false (by omega : ¬ 741807 < t / 86400)]
  simp only [cond_false]
  have hy := civil_year (v := (t / 86400, t % 86400)) hY1 hY2 (by dsimp only; omega) 11 1 (by omega) (by omega) (by omega) (by rw [show ((2 ^ 11 : Nat) : Int) = 2048 from rfl]; omega)
  rw [show ((2 ^ 11 : Nat) : Int) = 2048 from rfl] at hy
  rw [hy]
  simp only [Option.bind_some]
  have hm := civil_month (v := (t / 86400, t % 86400)) hY1 hY2 hM (by dsimp only; omega) (11 - M) (by omega)
  rw [show M + (11 - M) + 1 = 12 by omega, show ((12 : Nat) : Int) = 12 from rfl] at hm
  rw [hm]
  simp only [Option.bind_some]
  rw [dates_day_eq hY1 (by omega) (by omega) (by omega) (by omega) (by omega)]
  simp only [Option.bind_some, basic_None_eq]
  have e4 : dayN Y (M + 1) 1 = befI Y - 719162 + domI Y M := by unfold dayN; rw [befI_1970, Nat.add_sub_cancel]; omega
  have e5 : w64 (t / 86400 - dayN Y (M + 1) 1) = g - domI Y M := by rw [e4, w64_id (by omega) (by omega)]; omega
  have e6 : w64 (g - domI Y M + 1) = g - domI Y M + 1 := w64_id (by omega) (by omega)
  rw [e5, e6, iQuo_nn hr1 (by omega) (by omega), iQuo_nn hr1 (by omega) (by omega), iRem_nn (by omega), iRem_nn (by omega)]
theorem print_in (t : Int) (Y : Int) (M : Nat) (g : Int) (hY1 : 1 ≤ Y) (hY2 : Y ≤ 4000) (hM : M ≤ 11) (hN : befI Y + g = t / 86400 + 719162) (hd : domI Y M ≤ g ∧ g < domI Y (M + 1)) :
    dates_Print ⟨Y, ((M + 1 : Nat) : Int), g - domI Y M + 1, t % 86400 / 3600, t % 86400 / 60 % 60, t % 86400 % 60, 0⟩ = some (dateT ((t / 86400 + 4) % 7).toNat (g - domI Y M + 1).toNat M Y.toNat (t % 86400 / 3600).toNat (t % 86400 / 60 % 60).toNat (t % 86400 % 60).toNat, ⟨0, 0⟩) := by
  have hb0 := befI_bound hY1 (by omega)
  have hn := domI_nn Y M
  have hm12 := domI_mono Y (show M + 1 ≤ 12 by omega)
  have hyl := ylen_pos Y
  rw [domI_12] at hm12
  have hr1 := Int.emod_nonneg t (show (86400 : Int) ≠ 0 by omega)
  have hr2 := Int.emod_lt_of_pos t (show (0 : Int) < 86400 by omega)
  have hds : domI Y (M + 1) = domI Y M + dimI Y ((M + 1 : Nat) : Int) := rfl
  have hdp := dimI_pos Y ((M + 1 : Nat) : Int)
  have hmm : min (max ((M + 1 : Nat) : Int) 1) 12 = ((M + 1 : Nat) : Int) := by omega
  have hval : dates_Validate ⟨Y, ((M + 1 : Nat) : Int), g - domI Y M + 1, t % 86400 / 3600, t % 86400 / 60 % 60, t % 86400 % 60, 0⟩ = some ⟨0, 0⟩ := by
    unfold dates_Validate
    simp only [dates_within_eq, hmm, Option.bind_some]
    rw [dates_length_eq (by omega) (by omega)]
    rw [decide_eq_true hY1, decide_eq_true hY2, decide_eq_true (by omega : (1 : Int) ≤ ((M + 1 : Nat) : Int)), decide_eq_true (by omega : ((M + 1 : Nat) : Int) ≤ 12)]
    simp only [Option.bind_some, Bool.and_true, cond_true]
    rw [decide_eq_true (by omega : (1 : Int) ≤ g - domI Y M + 1), decide_eq_true (by omega : g - domI Y M + 1 ≤ dimI Y ((M + 1 : Nat) : Int)),
      decide_eq_true (by omega : (0 : Int) ≤ t % 86400 / 3600), decide_eq_true (by omega : t % 86400 / 3600 ≤ 23),
      decide_eq_true (by omega : (0 : Int) ≤ t % 86400 / 60 % 60), decide_eq_true (by omega : t % 86400 / 60 % 60 ≤ 59),
      decide_eq_true (by omega : (0 : Int) ≤ t % 86400 % 60), decide_eq_true (by omega : t % 86400 % 60 ≤ 59)]
    rfl
  have hwk : dates_Weekday ⟨Y, ((M + 1 : Nat) : Int), g - domI Y M + 1, t % 86400 / 3600, t % 86400 / 60 % 60, t % 86400 % 60, 0⟩ = some ((t / 86400 + 4) % 7, ⟨0, 0⟩) := by
    unfold dates_Weekday
    rw [hval]
    simp only [Option.bind_some, basic_Failed_eq, basic_None_eq]
    rw [dates_day_eq hY1 (by omega) (by omega) (by omega) (by omega) (by omega)]
    have e4 : dayN Y (M + 1) (g - domI Y M + 1) = t / 86400 := by unfold dayN; rw [befI_1970, Nat.add_sub_cancel]; omega
    simp only [Option.bind_some, e4]
    rw [w64_id (by omega) (by omega), dates_split_eq (by omega) (by omega) (by omega) (by omega)]
    rfl
  unfold dates_Print
  rw [hwk]
  simp only [Option.bind_some, basic_Failed_eq, basic_None_eq]
  have hw7 := Int.emod_nonneg (t / 86400 + 4) (show (7 : Int) ≠ 0 by omega)
  have hw8 := Int.emod_lt_of_pos (t / 86400 + 4) (show (0 : Int) < 7 by omega)
  have hwi := wd_idx ⟨((t / 86400 + 4) % 7).toNat, by omega⟩
  have hmi := mo_idx ⟨M, by omega⟩
  dsimp only at hwi hmi
  rw [show ((((t / 86400 + 4) % 7).toNat : Nat) : Int) = (t / 86400 + 4) % 7 by omega] at hwi
  have ew : w64 (((M + 1 : Nat) : Int) - 1) = (M : Int) := by rw [w64_id (by omega) (by omega)]; omega
  have p0 : dates_pad (iQuo 0 60) 2 = some (padD 0 2) := pad2 (u := 0) (by omega)
  have p0' : dates_pad (iRem 0 60) 2 = some (padD 0 2) := pad2 (u := 0) (by omega)
  have p1 := pad2 (u := (t % 86400 / 3600).toNat) (by omega)
  have p2 := pad2 (u := (t % 86400 / 60 % 60).toNat) (by omega)
  have p3 := pad2 (u := (t % 86400 % 60).toNat) (by omega)
  have p4 := pad2 (u := (g - domI Y M + 1).toNat) (by omega)
  have p5 := pad4 (u := Y.toNat) (by omega)
  have l1 := padD_len (u := (t % 86400 / 3600).toNat) (k := 2) (by omega) (by omega)
  have l2 := padD_len (u := (t % 86400 / 60 % 60).toNat) (k := 2) (by omega) (by omega)
  have l3 := padD_len (u := (t % 86400 % 60).toNat) (k := 2) (by omega) (by omega)
  have l4 := padD_len (u := (g - domI Y M + 1).toNat) (k := 2) (by omega) (by omega)
  have l5 := padD_len (u := Y.toNat) (k := 4) (by omega) (by omega)
  have lw := wdT_len ⟨((t / 86400 + 4) % 7).toNat, by omega⟩
  have lm := moT_len ⟨M, by omega⟩
  dsimp only at lw lm
  rw [show (((t % 86400 / 3600).toNat : Nat) : Int) = t % 86400 / 3600 by omega] at p1
  rw [show (((t % 86400 / 60 % 60).toNat : Nat) : Int) = t % 86400 / 60 % 60 by omega] at p2
  rw [show (((t % 86400 % 60).toNat : Nat) : Int) = t % 86400 % 60 by omega] at p3
  rw [show (((g - domI Y M + 1).toNat : Nat) : Int) = g - domI Y M + 1 by omega] at p4
  rw [show ((Y.toNat : Nat) : Int) = Y by omega] at p5
  have pz : padD 0 2 = [48, 48] := by unfold padD; rw [decD_small (by omega)]; rfl
  generalize hPw : wdT ((t / 86400 + 4) % 7).toNat = Pw at *
  generalize hPm : moT M = Pm at *
  generalize hP1 : padD (t % 86400 / 3600).toNat 2 = P1 at *
  generalize hP2 : padD (t % 86400 / 60 % 60).toNat 2 = P2 at *
  generalize hP3 : padD (t % 86400 % 60).toNat 2 = P3 at *
  generalize hP4 : padD (g - domI Y M + 1).toNat 2 = P4 at *
  generalize hP5 : padD Y.toNat 4 = P5 at *
  rw [show (decide ((0 : Int) < 0)) = false by decide]
  simp only [cond_false, Option.bind_some, bne_self_eq_false, p0, p0', p1, p2, p3, pz]
  rw [cat_ok (by simp)]
  simp only [Option.bind_some]
  rw [cat_ok (by simp)]
  simp only [Option.bind_some]
  rw [cat_ok (by simp; omega)]
  simp only [Option.bind_some]
  rw [cat_ok (by simp; omega)]
  simp only [Option.bind_some]
  rw [cat_ok (by simp; omega)]
  simp only [Option.bind_some]
  rw [cat_ok (by simp; omega)]
  simp only [Option.bind_some]
  unfold dates_weekdays dates_months at *
  simp only [Option.bind_some] at hwi hmi ⊢
  rw [hwi]
  simp only [Option.bind_some]
  rw [cat_ok (by simp; omega), p4, ew, hmi, p5]
  simp only [Option.bind_some]
  unfold strings_Join dateT
  have ej : Lib.join [Pw ++ [44], P4, Pm, P5, P1 ++ [58] ++ P2 ++ [58] ++ P3, [43] ++ ([48, 48] ++ [48, 48])] [32] = Pw ++ [44, 32] ++ P4 ++ [32] ++ Pm ++ [32] ++ P5 ++ [32] ++ P1 ++ [58] ++ P2 ++ [58] ++ P3 ++ [32, 43, 48, 48, 48, 48] := by
    rw [Lib.join_cons]
    simp [Lib.joinTail]
  rw [ej, if_pos ⟨by simp, by simp; omega⟩, hPw, hPm, hP1, hP2, hP3, hP4, hP5]
  rfl
end Go.Proofs.YtfkgmcilaiblfaaGreatDoor

/- The reference's When; both sides give the same text. -/
namespace Go.Proofs.YtfkgmcilaiblfaaGreatDoor
open Go.RowKit
set_option linter.unusedVariables false
set_option maxHeartbeats 1000000
theorem when_text {Pw P4 Pm P5 P1 P2 P3 : Str} {Fw F4 Fm F5 F1 F2 F3 : Option Str} (hw : Fw = some Pw) (h4 : F4 = some P4) (hm : Fm = some Pm) (h5 : F5 = some P5) (h1 : F1 = some P1) (h2 : F2 = some P2) (h3 : F3 = some P3)
    (lw : Pw.length = 3) (l4 : P4.length = 2) (lm : Pm.length = 3) (l5 : P5.length = 4) (l1 : P1.length = 2) (l2 : P2.length = 2) (l3 : P3.length = 2) :
    (Fw.bind fun v42 => (cat v42 (([44, 32] : Str))).bind fun v44 => F4.bind fun v46 => (cat v44 v46).bind fun v48 => (cat v48 (([32] : Str))).bind fun v50 => Fm.bind fun v52 => (cat v50 v52).bind fun v54 => (cat v54 (([32] : Str))).bind fun v56 => F5.bind fun v58 => (cat v56 v58).bind fun v60 => (cat v60 (([32] : Str))).bind fun v62 => F1.bind fun v64 => (cat v62 v64).bind fun v66 => (cat v66 (([58] : Str))).bind fun v68 => F2.bind fun v70 => (cat v68 v70).bind fun v72 => (cat v72 (([58] : Str))).bind fun v74 => F3.bind fun v76 => (cat v74 v76).bind fun v78 => (cat v78 (([32, 43, 48, 48, 48, 48] : Str))).bind fun v80 => some ((v80, true))) =
      some (Pw ++ [44, 32] ++ P4 ++ [32] ++ Pm ++ [32] ++ P5 ++ [32] ++ P1 ++ [58] ++ P2 ++ [58] ++ P3 ++ [32, 43, 48, 48, 48, 48], true) := by
  subst hw h4 hm h5 h1 h2 h3
  simp only [Option.bind_some]
  repeat (rw [cat_ok (by simp; omega)]; simp only [Option.bind_some])
theorem R_When_in (t : Int) (h1 : -68719476736 ≤ t) (h2 : t ≤ 68719476736) : (R_When t = some ([], false) ∧ (t / 86400 + 719162 < 0 ∨ 1460970 ≤ t / 86400 + 719162)) ∨
    ∃ (Y : Int) (M : Nat) (g : Int), 1 ≤ Y ∧ Y ≤ 4000 ∧ M ≤ 11 ∧ befI Y + g = t / 86400 + 719162 ∧ (domI Y M ≤ g ∧ g < domI Y (M + 1)) ∧
      R_When t = some (dateT ((t / 86400 + 4) % 7).toNat (g - domI Y M + 1).toNat M Y.toNat (t % 86400 / 3600).toNat (t % 86400 / 60 % 60).toNat (t % 86400 % 60).toNat, true) := by
  obtain ⟨b5, hb5, i1, i2, i3⟩ := when_l1 t h1 h2
  have eD : w64 (b5.2 + iQuo b5.1 86400) = t / 86400 := by
    rw [iQuo_nn i1 (by omega) (by omega), w64_id (by omega) (by omega)]; omega
  have eS : iRem b5.1 86400 = t % 86400 := by rw [iRem_nn i1]; omega
  obtain ⟨b9, hb9, j1, j2, j3, j4, j5⟩ := when_l2 (t / 86400) (by omega) (by omega)
  obtain ⟨⟨g, Y⟩, hb16, k1, k2, k3, k4, k5⟩ := when_l3 (719162 + t / 86400) (b9.1, b9.2) j1 j3 j4 j5 j2
  dsimp only at k1 k2 k3 k4 k5
  unfold R_When
  rw [R_In_eq, decide_eq_true h1, decide_eq_true h2]
  simp only [Option.bind_some, Bool.and_true, Bool.not_true, cond_false]
  rw [hb5]
  simp only [Option.bind_some]
  rw [eD, hb9]
  simp only [Option.bind_some]
  rw [hb16]
  simp only [Option.bind_some, R_In_eq]
  have hys := befI_succ Y
  by_cases hY : 1 ≤ Y ∧ Y ≤ 4000
  · right
    obtain ⟨hY1, hY2⟩ := hY
    have hb0 := befI_bound hY1 (by omega)
    have hb1 := (befI_add 1 (Y - 1).toNat).1
    rw [befI_one, show (1 : Int) + ((Y - 1).toNat : Int) = Y by omega] at hb1
    obtain ⟨M, hM, hd1, hd2⟩ := month_exists Y g k1 12 (by rw [domI_12]; exact k2)
    refine ⟨Y, M, g, hY1, hY2, by omega, by omega, ⟨hd1, hd2⟩, ?_⟩
    have hn := domI_nn Y M
    have hyl := ylen_pos Y
    have hds : domI Y (M + 1) = domI Y M + dimI Y ((M + 1 : Nat) : Int) := rfl
    have hdp := dimI_pos Y ((M + 1 : Nat) : Int)
    rw [decide_eq_true hY1, decide_eq_true hY2]
    simp only [Bool.and_true, Bool.not_true, cond_false]
    have q4 := when_l4 (g, Y) M (by omega) ⟨hd1, hd2⟩ (by dsimp only; omega) M 0 (by omega)
    dsimp only [domI] at q4
    rw [show (((0 + 1 : Nat) : Int), g - 0) = ((1 : Int), g) by simp] at q4
    have q5 := when_l5 (g, Y) hY1 hY2 (Y - 1).toNat 1 (by omega) (by dsimp only; omega)
    rw [befI_one] at q5
    rw [show ((0 : Int) - 364 * (1 - 1) + 1, (1 : Int)) = (1, 1) by simp] at q5
    dsimp only at q5
    rw [q4]
    simp only [Option.bind_some]
    rw [q5]
    simp only [Option.bind_some]
    have hr1 := Int.emod_nonneg t (show (86400 : Int) ≠ 0 by omega)
    have hr2 := Int.emod_lt_of_pos t (show (0 : Int) < 86400 by omega)
    have hw7 := Int.emod_nonneg (t / 86400 + 4) (show (7 : Int) ≠ 0 by omega)
    have hw8 := Int.emod_lt_of_pos (t / 86400 + 4) (show (0 : Int) < 7 by omega)
    have e35 : iRem (w64 (befI Y - 364 * (Y - 1) + 1 + g)) 7 = ((((t / 86400 + 4) % 7).toNat : Nat) : Int) := by
      rw [w64_id (by omega) (by omega), iRem_nn (by omega)]; omega
    have hwc : cut (([83, 117, 110, 77, 111, 110, 84, 117, 101, 87, 101, 100, 84, 104, 117, 70, 114, 105, 83, 97, 116] : Str)) ((w64 (3 * (iRem (w64 (befI Y - 364 * (Y - 1) + 1 + g)) 7)))) ((w64 ((w64 (3 * (iRem (w64 (befI Y - 364 * (Y - 1) + 1 + g)) 7))) + 3))) = some (wdT ((t / 86400 + 4) % 7).toNat) := by
      rw [e35]; exact wd_cut ⟨((t / 86400 + 4) % 7).toNat, by omega⟩
    have hmc : cut (([74, 97, 110, 70, 101, 98, 77, 97, 114, 65, 112, 114, 77, 97, 121, 74, 117, 110, 74, 117, 108, 65, 117, 103, 83, 101, 112, 79, 99, 116, 78, 111, 118, 68, 101, 99] : Str)) ((w64 ((w64 (3 * ((M + 1 : Nat) : Int))) - 3))) ((w64 (3 * ((M + 1 : Nat) : Int)))) = some (moT M) := mo_cut ⟨M, by omega⟩
    have p1 := fill2 (u := (t % 86400 / 3600).toNat) (by omega)
    have p2 := fill2 (u := (t % 86400 / 60 % 60).toNat) (by omega)
    have p3 := fill2 (u := (t % 86400 % 60).toNat) (by omega)
    have p4 := fill2 (u := (g - domI Y M + 1).toNat) (by omega)
    have p5 := fill4 (u := Y.toNat) (by omega)
    have l1 := padD_len (u := (t % 86400 / 3600).toNat) (k := 2) (by omega) (by omega)
    have l2 := padD_len (u := (t % 86400 / 60 % 60).toNat) (k := 2) (by omega) (by omega)
    have l3 := padD_len (u := (t % 86400 % 60).toNat) (k := 2) (by omega) (by omega)
    have l4 := padD_len (u := (g - domI Y M + 1).toNat) (k := 2) (by omega) (by omega)
    have l5 := padD_len (u := Y.toNat) (k := 4) (by omega) (by omega)
    have lw := wdT_len ⟨((t / 86400 + 4) % 7).toNat, by omega⟩
    have lm := moT_len ⟨M, by omega⟩
    dsimp only at lw lm
    rw [show (((t % 86400 / 3600).toNat : Nat) : Int) = iQuo (iRem b5.1 86400) 3600 by rw [eS, iQuo_nn hr1 (by omega) (by omega)]; omega] at p1
    rw [show (((t % 86400 / 60 % 60).toNat : Nat) : Int) = iRem (iQuo (iRem b5.1 86400) 60) 60 by rw [eS, iQuo_nn hr1 (by omega) (by omega), iRem_nn (by omega)]; omega] at p2
    rw [show (((t % 86400 % 60).toNat : Nat) : Int) = iRem (iRem b5.1 86400) 60 by rw [eS, iRem_nn (by omega)]; omega] at p3
    rw [show (((g - domI Y M + 1).toNat : Nat) : Int) = w64 (g - domI Y M + 1) by rw [w64_id (by omega) (by omega)]; omega] at p4
    rw [show ((Y.toNat : Nat) : Int) = Y by omega] at p5
    exact when_text hwc p4 hmc p5 p1 p2 p3 lw l4 lm l5 l1 l2 l3
  · left
    have e : (decide (1 ≤ Y) && decide (Y ≤ 4000)) = false := by
      rw [Bool.and_eq_false_iff]
      by_cases h : 1 ≤ Y
      · right; rw [decide_eq_false]; omega
      · left; rw [decide_eq_false h]
    rw [e]
    refine ⟨rfl, ?_⟩
    by_cases hY1 : 1 ≤ Y
    · right
      have := befI_mono (show 4001 ≤ Y by omega)
      rw [befI_4001] at this; omega
    · left
      have := befI_mono (show Y + 1 ≤ 1 by omega)
      rw [befI_one] at this; omega
/-- an instant has a text in both or in none -/
theorem when_both (t : Int) : (R_When t = some ([], false) ∧ ∃ d f, dates_Civil t 0 = some (d, f) ∧ f.Code = 3) ∨ ∃ w D m y h mi s, w < 7 ∧ 1 ≤ D ∧ D ≤ 31 ∧ m < 12 ∧ 1 ≤ y ∧ y ≤ 4000 ∧ h < 24 ∧ mi < 60 ∧ s < 60 ∧ R_When t = some (dateT w D m y h mi s, true) ∧ ∃ d, dates_Civil t 0 = some (d, ⟨0, 0⟩) ∧ dates_Print d = some (dateT w D m y h mi s, ⟨0, 0⟩) := by
  by_cases hr : -68719476736 ≤ t ∧ t ≤ 68719476736
  · obtain ⟨h1, h2⟩ := hr
    rcases R_When_in t h1 h2 with ⟨h3, h4⟩ | ⟨Y, M, g, hY1, hY2, hM, hN, hd, hw⟩
    · left
      obtain ⟨d, hd⟩ := civil_out t h1 h2 h4
      exact ⟨h3, d, _, hd, rfl⟩
    · right
      have hr1 := Int.emod_nonneg t (show (86400 : Int) ≠ 0 by omega)
      have hr2 := Int.emod_lt_of_pos t (show (0 : Int) < 86400 by omega)
      have hw7 := Int.emod_nonneg (t / 86400 + 4) (show (7 : Int) ≠ 0 by omega)
      have hw8 := Int.emod_lt_of_pos (t / 86400 + 4) (show (0 : Int) < 7 by omega)
      have hds : domI Y (M + 1) = domI Y M + dimI Y ((M + 1 : Nat) : Int) := rfl
      have hdp := dimI_pos Y ((M + 1 : Nat) : Int)
      exact ⟨_, _, _, _, _, _, _, by omega, by omega, by omega, by omega, by omega, by omega, by omega, by omega, by omega, hw, _, civil_in t h1 h2 Y M g hY1 hY2 hM hN hd, print_in t Y M g hY1 hY2 hM hN hd⟩
  · left
    have e : (decide ((-68719476736 : Int) ≤ t) && decide (t ≤ 68719476736)) = false := by
      rw [Bool.and_eq_false_iff]
      by_cases h : (-68719476736 : Int) ≤ t
      · right; rw [decide_eq_false]; omega
      · left; rw [decide_eq_false h]
    refine ⟨?_, ⟨0, 0, 0, 0, 0, 0, 0⟩, ⟨3, -2⟩, ?_, rfl⟩
    · unfold R_When; rw [R_In_eq, e]; rfl
    · unfold dates_Civil; rw [basic_Time_eq, e]; rfl
end Go.Proofs.YtfkgmcilaiblfaaGreatDoor

/- Texts divided at one byte: strings.Split and the reference's Pieces. -/
namespace Go.Proofs.YtfkgmcilaiblfaaGreatDoor
open Go.RowKit
set_option linter.unusedVariables false
set_option maxHeartbeats 1000000
end Go.Proofs.YtfkgmcilaiblfaaGreatDoor

/- Elements that go from a list in place (slices.DeleteFunc), in general. No program is named. -/
namespace Go.Proofs.YtfkgmcilaiblfaaGreatDoor
open Go.RowKit
set_option linter.unusedVariables false
end Go.Proofs.YtfkgmcilaiblfaaGreatDoor

/- Aliases: the plain functions, and what the typed functions compute. -/
namespace Go.Proofs.YtfkgmcilaiblfaaGreatDoor
open Go.RowKit
set_option linter.unusedVariables false
set_option maxHeartbeats 1000000

/-! ### validation -/
end Go.Proofs.YtfkgmcilaiblfaaGreatDoor

/- Aliases: the search, and what the typed functions compute. -/
namespace Go.Proofs.YtfkgmcilaiblfaaGreatDoor
open Go.RowKit
set_option linter.unusedVariables false
set_option maxHeartbeats 1000000

/-! ### lists without repetition -/
def add1 (o : List Str) (x : Str) : List Str := if o.contains x then o else o ++ [x]
def addNew (o xs : List Str) : List Str := xs.foldl add1 o
theorem add1_mem (o : List Str) (x y : Str) : y ∈ add1 o x ↔ y ∈ o ∨ y = x := by
  unfold add1
  split
  · rename_i h
    simp at h
    constructor
    · exact .inl
    · rintro (h1 | rfl)
      · exact h1
      · exact h
  · simp
theorem add1_prefix (o : List Str) (x : Str) : o <+: add1 o x := by
  unfold add1; split
  · exact List.prefix_refl _
  · exact List.prefix_append _ _
theorem add1_nodup {o : List Str} (h : o.Nodup) (x : Str) : (add1 o x).Nodup := by
  unfold add1; split
  · exact h
  · rename_i hx
    simp at hx
    rw [List.nodup_append]
    exact ⟨h, by simp, fun a ha b hb hab => by simp at hb; subst hb; subst hab; exact hx ha⟩
theorem addNew_mem (xs : List Str) : ∀ (o : List Str) (y : Str), y ∈ addNew o xs ↔ y ∈ o ∨ y ∈ xs := by
  induction xs with
  | nil => intro o y; simp [addNew]
  | cons x xs ih => intro o y; show y ∈ addNew (add1 o x) xs ↔ _; rw [ih, add1_mem]; simp [or_assoc]
theorem addNew_prefix (xs : List Str) : ∀ o : List Str, o <+: addNew o xs := by
  induction xs with
  | nil => intro o; exact List.prefix_refl _
  | cons x xs ih => intro o; exact (add1_prefix o x).trans (ih _)
theorem addNew_nodup (xs : List Str) : ∀ {o : List Str}, o.Nodup → (addNew o xs).Nodup := by
  induction xs with
  | nil => intro o h; exact h
  | cons x xs ih => intro o h; exact ih (add1_nodup h x)
theorem nodup_le {l m : List Str} (hl : l.Nodup) (h : ∀ x ∈ l, x ∈ m) : l.length ≤ m.length := by
  induction l generalizing m with
  | nil => simp
  | cons x l ih =>
    have hx : x ∈ m := h x (by simp)
    obtain ⟨hxl, hl'⟩ := List.nodup_cons.1 hl
    have := ih (m := m.erase x) hl' (fun y hy => by
      have hne : y ≠ x := by rintro rfl; exact hxl hy
      exact (List.mem_erase_of_ne hne).2 (h y (by simp [hy])))
    rw [List.length_erase_of_mem hx] at this
    have : 0 < m.length := List.length_pos_of_mem hx
    simp; omega

/-! ### the search -/
def tgtO (l : List TAlias) (s : Str) : Option (List Str) := (l.find? (fun a => a.Address == s)).map (·.To)
def tgt (l : List TAlias) (s : Str) : List Str := (tgtO l s).getD []
def univ (l : List TAlias) (from_ : List Str) : List Str := from_ ++ l.flatMap (·.To)
theorem tgt_sub (l : List TAlias) (s x : Str) (h : x ∈ tgt l s) : ∃ a ∈ l, a.Address = s ∧ x ∈ a.To := by
  unfold tgt tgtO at h
  cases hf : l.find? (fun a => a.Address == s) with
  | none => rw [hf] at h; simp at h
  | some a =>
    rw [hf] at h
    have := List.find?_some hf
    exact ⟨a, List.mem_of_find?_eq_some hf, by simpa using this, by simpa using h⟩
/-- what holds of the list during the search -/
structure Inv (l : List TAlias) (U : List Str) (k : Nat) (out : List Str) : Prop where
  nd : out.Nodup
  sub : ∀ x ∈ out, x ∈ U
  le : k ≤ out.length
theorem Inv.len {l : List TAlias} {U : List Str} {k : Nat} {out : List Str} (h : Inv l U k out) : out.length ≤ U.length := nodup_le h.nd h.sub
theorem Inv.step {l : List TAlias} {from_ : List Str} {k : Nat} {out : List Str} (h : Inv l (univ l from_) k out) {s : Str} (hs : out[k]? = some s) : Inv l (univ l from_) (k + 1) (addNew out (tgt l s)) := by
  refine ⟨addNew_nodup _ h.nd, fun x hx => ?_, ?_⟩
  · rcases (addNew_mem _ _ _).1 hx with h1 | h1
    · exact h.sub x h1
    · obtain ⟨a, ha, _, hxa⟩ := tgt_sub l s x h1
      exact List.mem_append.2 (.inr (List.mem_flatMap.2 ⟨a, ha, hxa⟩))
  · have := (addNew_prefix (tgt l s) out).length_le
    have := lt_get hs
    omega
/-! ### the reference -/
end Go.Proofs.YtfkgmcilaiblfaaGreatDoor

/- Aliases: what the program's expansion and loops compute. -/
namespace Go.Proofs.YtfkgmcilaiblfaaGreatDoor
open Go.RowKit
set_option linter.unusedVariables false
set_option maxHeartbeats 1000000

/-! ### the table -/
end Go.Proofs.YtfkgmcilaiblfaaGreatDoor

/- Aliases: loops; the closed example; sizes. -/
namespace Go.Proofs.YtfkgmcilaiblfaaGreatDoor
open Go.RowKit
set_option linter.unusedVariables false
set_option maxHeartbeats 1000000

/-! ### the closed example -/
end Go.Proofs.YtfkgmcilaiblfaaGreatDoor

/- strings.IndexAny on a short text: plain. -/
namespace Go.Proofs.YtfkgmcilaiblfaaGreatDoor
open Go.RowKit
set_option linter.unusedVariables false
theorem strB_get (s : Str) (i : Nat) (h : i < s.length) : (strB s)[i]'(by rw [strB_size]; exact h) = s[i] := rfl
theorem strB_get! (s : Str) (i : Nat) (h : i < s.length) : (strB s).get! i = s[i] := by
  have := get_at (strB s) i (by rw [strB_size]; exact h)
  rw [Nat.add_zero] at this
  rw [this]; rfl
theorem rune_ascii {s : Str} {i : Nat} {c : UInt8} (h : s[i]? = some c) (hc : c.toNat < 128) : runeAt s i = (c.toNat : Int) ∧ wideAt s i = 1 := by
  have hi := lt_get h
  have e : s[i] = c := by rw [List.getElem?_eq_getElem hi] at h; exact Option.some.inj h
  have hd := decode_ascii (strB s) i (by rw [strB_size]; exact hi) (by rw [strB_get s i hi, e]; exact hc)
  unfold runeAt wideAt
  rw [hd, strB_get s i hi, e]
  exact ⟨rfl, rfl⟩
theorem rune_high {s : Str} {i : Nat} {c : UInt8} (h : s[i]? = some c) (hc : 128 ≤ c.toNat) : 128 ≤ runeAt s i ∧ runeAt s i ≤ 2147483647 ∧ 1 ≤ wideAt s i := by
  have hi := lt_get h
  have e : s[i] = c := by rw [List.getElem?_eq_getElem hi] at h; exact Option.some.inj h
  have hd := decode_high (strB s) i (by rw [strB_size]; exact hi) (by rw [strB_get s i hi, e]; exact hc)
  have hl := decode_le (strB s) i
  unfold runeAt wideAt
  exact ⟨by omega, by omega, hd.2⟩
theorem decode_cont (s : ByteArray) (pos : Nat) : ∀ k, 1 ≤ k → k < (Utf8.decode s pos).2 → (s.get! (pos + k)).toNat / 64 = 2 := by
  intro k h1 h2
  simp only [Utf8.decode] at h2
  repeat' split at h2
  all_goals first
    | (exfalso; simp at h2; omega)
    | (rename_i hq _
       simp only [Bool.and_eq_true, decide_eq_true_eq, beq_iff_eq] at hq
       have h2 : k < 2 := h2
       obtain rfl : k = 1 := by omega
       exact hq.2.2)
    | (rename_i hq _
       simp only [Bool.and_eq_true, decide_eq_true_eq, beq_iff_eq] at hq
       have h2 : k < 3 := h2
       have : k = 1 ∨ k = 2 := by omega
       rcases this with rfl | rfl
       · exact hq.1.2.2
       · exact hq.2.2)
    | (rename_i hq _
       simp only [Bool.and_eq_true, decide_eq_true_eq, beq_iff_eq] at hq
       have h2 : k < 4 := h2
       have : k = 1 ∨ k = 2 ∨ k = 3 := by omega
       rcases this with rfl | rfl | rfl
       · exact hq.1.1.2.2
       · exact hq.1.2.2
       · exact hq.2.2)
theorem rune_cont {s : Str} {i j : Nat} {c d : UInt8} (h : s[i]? = some c) (hc : 128 ≤ c.toNat) (h1 : i ≤ j) (h2 : j < i + wideAt s i) (hj : s[j]? = some d) : 128 ≤ d.toNat := by
  by_cases e : j = i
  · subst e; rw [h] at hj; cases hj; exact hc
  · have hjl := lt_get hj
    have e2 : s[j] = d := by rw [List.getElem?_eq_getElem hjl] at hj; exact Option.some.inj hj
    have := decode_cont (strB s) i (j - i) (by omega) (by unfold wideAt at h2; omega)
    rw [show i + (j - i) = j by omega, strB_get! s j hjl, e2] at this
    omega
theorem toU8_nat (c : UInt8) : toU8 (c.toNat : Int) = c := by
  unfold toU8
  have := c.toNat_lt
  rw [show ((c.toNat : Int) % 256).toNat = c.toNat by omega]
  simp
theorem asciiL_mem {t : Str} (h : asciiL t = true) {c : UInt8} (hc : c ∈ t) : c.toNat < 128 := by
  unfold asciiL at h
  rw [List.all_eq_true] at h
  simpa using h c hc
/-- a rune beyond ASCII ends with a byte beyond ASCII, and is of two bytes at least -/
theorem runeS_last {r : Int} (h : 128 ≤ r) : ∃ m x, 1 ≤ m ∧ m ≤ 3 ∧ (runeS r).length = m + 1 ∧ (runeS r)[m]? = some x ∧ 128 ≤ x.toNat := by
  unfold runeS
  simp only [Utf8.encode]
  have hc : 128 ≤ (if Utf8.valid r = true then r.toNat else Utf8.runeError) := by
    split
    · omega
    · decide
  generalize (if Utf8.valid r = true then r.toNat else Utf8.runeError) = c at hc
  have hb : ∀ n : Nat, 128 ≤ (UInt8.ofNat (128 + n % 64)).toNat := by
    intro n
    rw [UInt8.toNat_ofNat']
    have : (128 + n % 64) % 2 ^ 8 = 128 + n % 64 := Nat.mod_eq_of_lt (by omega)
    rw [this]; omega
  rw [if_neg (by omega)]
  split
  · exact ⟨1, _, by omega, by omega, rfl, rfl, hb c⟩
  · split
    · exact ⟨2, _, by omega, by omega, rfl, rfl, hb c⟩
    · exact ⟨3, _, by omega, by omega, rfl, rfl, hb c⟩
theorem indexByte_high {t : Str} (h : ∀ c ∈ t, c.toNat < 128) {x : UInt8} (hx : 128 ≤ x.toNat) : Lib.indexByte t x = -1 := by
  have hc := Lib.contains_iff_indexByte t x
  have hn : t.contains x = false := by
    rw [Bool.eq_false_iff]
    intro hm
    have := h x (by simpa using hm)
    omega
  rw [hn] at hc
  have hge := Lib.indexByte_ge t x
  have := of_decide_eq_false hc.symm
  omega
theorem IndexRune_ascii (t : Str) (c : UInt8) (hc : c.toNat < 128) : strings_IndexRune t (c.toNat : Int) = some (Lib.indexByte t c) := by
  unfold strings_IndexRune
  have h1 : decide ((0 : Int) ≤ (c.toNat : Int)) = true := by simp
  have h2 : decide ((c.toNat : Int) < 128) = true := by simp; omega
  rw [h1, h2]
  simp only [cond_true, Option.bind_some, toU8_nat]
  rfl
theorem IndexRune_high (t : Str) (r : Int) (hr : 128 ≤ r) (ht : ∀ c ∈ t, c.toNat < 128) (hl : t.length ≤ 4294967281) : strings_IndexRune t r = some (-1) := by
  unfold strings_IndexRune
  have h1 : decide ((0 : Int) ≤ r) = true := by simp; omega
  have h2 : decide (r < 128) = false := by simp; omega
  rw [h1, h2]
  simp only [cond_true, cond_false, Option.bind_some]
  cases hq : r == 65533 with
  | true =>
    simp only [cond_true]
    obtain ⟨o, ho, rfl⟩ := iter_rec (body := strings_IndexRune_l1 t) (fun i => i ≤ t.length) (fun i => t.length - i) (fun _ o => o = .inl ()) (fun i hi => by
      unfold strings_IndexRune_l1
      by_cases hlt : i < t.length
      · right
        have hg : t[i]? = some t[i] := List.getElem?_eq_getElem hlt
        have hc := ht t[i] (List.getElem_mem hlt)
        obtain ⟨e1, e2⟩ := rune_ascii hg hc
        rw [e1, e2, decide_eq_true hlt]
        have hne : ((t[i].toNat : Int) == 65533) = false := by rw [beq_eq_false_iff_ne]; omega
        rw [hne]
        exact ⟨i + 1, rfl, by omega, by omega, fun _ h => h⟩
      · left
        rw [decide_eq_false hlt]
        exact ⟨.inl (), rfl, rfl⟩) 0 (Nat.zero_le _)
    rw [ho]; rfl
  | false =>
    simp only [cond_false]
    have hv : ∃ b, unicode_utf8_ValidRune r = some b := by
      unfold unicode_utf8_ValidRune
      cases decide (0 ≤ r) <;> cases decide (r < 55296) <;> cases decide (57343 < r) <;> cases decide (r ≤ 1114111) <;> exact ⟨_, rfl⟩
    obtain ⟨b, hb⟩ := hv
    rw [hb]
    simp only [Option.bind_some]
    cases b with
    | false => rfl
    | true =>
      simp only [Bool.not_true, cond_false]
      obtain ⟨m, x, hm1, hm3, hlen, hx, hx128⟩ := runeS_last hr
      have hst : w64 (((runeS r).length : Int) - 1) = (m : Int) := by rw [hlen, w64_id (by omega) (by omega)]; omega
      rw [hst]
      have hbody : ∃ o, strings_IndexRune_l2 t r (m : Int) = some (.out o) ∧ (o = .inl () ∨ o = .inr (-1)) := by
        unfold strings_IndexRune_l2
        by_cases hlt : m < t.length
        · have hd : decide ((m : Int) < (t.length : Int)) = true := by simp; omega
          have hc := ht t[m] (List.getElem_mem hlt)
          rw [hd, hst, idx_lt hlt, idx_get hx]
          have hne : ((t[m].toNat : Int) != (x.toNat : Int)) = true := by simp; omega
          simp only [cond_true, Option.bind_some, hne]
          rw [show (m : Int) + 1 = ((m + 1 : Nat) : Int) by omega, w64_n _ (by omega), cut_nl (by omega)]
          simp only [Option.bind_some]
          have hib : strings_IndexByte (t.drop (m + 1)) x = some (-1) := by
            show some (Lib.indexByte (t.drop (m + 1)) x) = _
            rw [indexByte_high (fun c hc => ht c (List.mem_of_mem_drop hc)) hx128]
          rw [hib]
          exact ⟨.inr (-1), rfl, .inr rfl⟩
        · have hd : decide ((m : Int) < (t.length : Int)) = false := by simp; omega
          rw [hd]
          exact ⟨.inl (), rfl, .inl rfl⟩
      obtain ⟨o, ho, ho2⟩ := hbody
      rw [iter_out ho]
      rcases ho2 with rfl | rfl <;> rfl
theorem IndexAnyP_eq (s t : Str) (h8 : s.length ≤ 8) (h2 : 2 ≤ t.length) (hl : t.length < 4294967281) (ht : asciiL t = true) : strings_IndexAnyP s t = some (Lib.indexAny s t) := by
  have htc : ∀ c ∈ t, c.toNat < 128 := fun c hc => asciiL_mem ht hc
  unfold strings_IndexAnyP
  have e1 : (t == ([] : Str)) = false := by rw [beq_eq_false_iff_ne]; rintro rfl; simp at h2
  have e2 : ((t.length : Int) == 1) = false := by rw [beq_eq_false_iff_ne]; omega
  have e3 : strings_shouldUseASCIISet (s.length : Int) = some false := by unfold strings_shouldUseASCIISet; simp; omega
  rw [e1, e2, e3]
  simp only [cond_false, Option.bind_some]
  obtain ⟨o, ho, ho2⟩ := iter_rec (body := strings_IndexAnyP_l1 s t) (fun i => Lib.NoAny s t i) (fun i => s.length - i) (fun _ o => Sum.elim (fun _ => some (-1)) (fun b => some b) o = some (Lib.indexAny s t)) (fun i hi => by
    unfold strings_IndexAnyP_l1
    by_cases hlt : i < s.length
    · have hg : s[i]? = some s[i] := List.getElem?_eq_getElem hlt
      rw [decide_eq_true hlt]
      simp only [cond_true]
      by_cases hc : s[i].toNat < 128
      · obtain ⟨q1, q2⟩ := rune_ascii hg hc
        rw [q1, q2, IndexRune_ascii t _ hc]
        simp only [Option.bind_some]
        have hcon := Lib.contains_iff_indexByte t s[i]
        rw [← hcon]
        cases hin : t.contains s[i] with
        | true =>
          left
          exact ⟨.inr (i : Int), rfl, by rw [Lib.indexAny_hit hi hg hin]; rfl⟩
        | false =>
          right
          exact ⟨i + 1, rfl, hi.succ hg hin, by omega, fun _ h => h⟩
      · have hc : 128 ≤ s[i].toNat := by omega
        obtain ⟨q1, q2, q3⟩ := rune_high hg hc
        rw [IndexRune_high t _ q1 htc (by omega)]
        right
        refine ⟨i + wideAt s i, rfl, fun j b hj hb => ?_, by omega, fun _ h => h⟩
        by_cases hji : j < i
        · exact hi j b hji hb
        · have := rune_cont hg hc (by omega) hj hb
          rw [Bool.eq_false_iff]
          intro hm
          have := htc b (by simpa using hm)
          omega
    · left
      rw [decide_eq_false hlt]
      refine ⟨.inl (), rfl, ?_⟩
      have hn : Lib.NoAny s t s.length := fun j b hj hb => hi j b (by omega) hb
      rw [Lib.indexAny_none hn]; rfl) 0 (Lib.NoAny.zero s t)
  rw [ho]; exact ho2
end Go.Proofs.YtfkgmcilaiblfaaGreatDoor

/- strings.ContainsAny. -/
namespace Go.Proofs.YtfkgmcilaiblfaaGreatDoor
open Go.RowKit
set_option linter.unusedVariables false
theorem indexAny_any (t : Str) : ∀ s : Str, decide (0 ≤ Lib.indexAny s t) = s.any fun c => t.contains c := by
  intro s
  induction s with
  | nil => rfl
  | cons c s ih =>
    have hge := Lib.indexAny_ge t s
    rw [List.any_cons, ← ih, Lib.indexAny]
    cases t.contains c with
    | true => simp
    | false =>
      simp only [Bool.false_eq_true, if_false, Bool.false_or]
      by_cases h : Lib.indexAny s t = -1
      · simp [h]
      · have : (Lib.indexAny s t == -1) = false := by simpa using h
        rw [this]
        simp only [Bool.false_eq_true, if_false]
        rw [Bool.eq_iff_iff]; simp; omega
theorem strings_ContainsAny_eq (s t : Str) (hs : s.length ≤ 1048576) (h2 : 2 ≤ t.length) (hl : t.length ≤ 1048576) (ht : asciiL t = true) : strings_ContainsAny s t = some (s.any fun c => t.contains c) := by
  unfold strings_ContainsAny strings_IndexAny
  rw [if_pos ⟨by omega, by omega, h2, ht⟩]
  simp only [Option.bind_some, indexAny_any]
end Go.Proofs.YtfkgmcilaiblfaaGreatDoor

/- Header fields in lines: the plain functions, and what the typed functions compute. -/
namespace Go.Proofs.YtfkgmcilaiblfaaGreatDoor
open Go.RowKit
set_option linter.unusedVariables false
set_option maxHeartbeats 1000000

def blankC (c : UInt8) : Bool := c == 32 || c == 9
theorem basic_Blank_eq (c : UInt8) : basic_Blank c = some (blankC c) := by
  unfold basic_Blank blankC
  rw [u8_eq c 32 (by decide), u8_eq c 9 (by decide)]
  cases c == 32 <;> rfl
def fnC (c : UInt8) : Bool := decide (33 ≤ c) && decide (c ≤ 126) && c != 58
def fnP (s : Str) : Bool := s != ([] : Str) && decide (s.length ≤ 60) && s.all fnC
theorem dec60 (s : Str) : decide ((s.length : Int) ≤ 60) = decide (s.length ≤ 60) := by generalize s.length = n; rw [Bool.eq_iff_iff]; simp; omega
theorem fold_name_eq (s : Str) (hs : s.length ≤ 1048576) : fold_name s = some (fnP s) := by
  have hloop : iter (fold_name_l1 s) 0 = some ((firstI (fun _ c => if !fnC c then some () else none) 0 s).elim (.inl ()) .inr) := by
    refine iter_first s _ (Sum.inl ()) Sum.inr ?_ ?_
    · unfold fold_name_l1; rw [dec_len]; rfl
    · intro i c hc
      have hi := lt_get hc
      unfold fold_name_l1
      rw [dec_lt hc, idx_get hc]
      simp only [cond_true, Option.bind_some, u8_ne c 58 (by decide), u8_le1 33 c (by decide), u8_le2 126 c (by decide), sc i (by omega)]
      unfold fnC
      cases decide ((33 : UInt8) ≤ c) <;> cases decide (c ≤ 126) <;> cases c != 58 <;> rfl
  unfold fold_name fnP
  rw [hloop]
  simp only [Option.bind_some, elim_unit_bool, firstI_isSome, not_all, dec60]
  cases s != ([] : Str) <;> cases decide (s.length ≤ 60) <;> cases s.all fnC <;> rfl
def endC (c : UInt8) : Bool := c == 13 || c == 10 || c == 0
theorem fold_ends_eq (s : Str) (hs : s.length ≤ 1048576) : fold_ends s = some (s.any endC) := by
  unfold fold_ends
  rw [strings_ContainsAny_eq s _ hs (by decide) (by decide) (by decide)]
  simp only [Option.bind_some, Option.some.injEq]
  congr 1
  funext c
  rw [Bool.eq_iff_iff]
  simp [endC, or_assoc]
def edgeP (s : Str) : Bool := match s.head?, s.getLast? with | some a, some b => blankC a || blankC b | _, _ => false
def valP (s : Str) : Bool := !(s.any endC) && !(edgeP s)
theorem idx_last (s : Str) (h : s ≠ []) (hs : s.length ≤ 1048576) : ∃ a b, idx s 0 = some a ∧ idx s (w64 ((s.length : Int) - 1)) = some b ∧ s.head? = some a ∧ s.getLast? = some b := by
  have hpos := List.length_pos_iff.2 h
  obtain ⟨a, r, rfl⟩ := List.exists_cons_of_ne_nil h
  have e : w64 (((a :: r).length : Int) - 1) = ((r.length : Nat) : Int) := by
    have hl : (a :: r).length = r.length + 1 := rfl
    rw [w64_id (by omega) (by omega)]; omega
  refine ⟨a, (a :: r).getLast h, rfl, ?_, rfl, List.getLast?_eq_some_getLast h⟩
  rw [e, idx_nat, List.getLast_eq_getElem h, List.getElem?_eq_getElem (by simp)]
  congr 2
theorem fold_value_eq (s : Str) (hs : s.length ≤ 1048576) : fold_value s = some (valP s) := by
  unfold fold_value valP
  rw [fold_ends_eq s hs]
  simp only [Option.bind_some]
  by_cases hn : s = []
  · subst hn; rfl
  · obtain ⟨a, b, h1, h2, h3, h4⟩ := idx_last s hn hs
    have e : (s == ([] : Str)) = false := by simpa using hn
    unfold edgeP
    rw [h1, h2, h3, h4, e]
    simp only [Option.bind_some, basic_Blank_eq, cond_false]
    cases s.any endC <;> cases blankC a <;> cases blankC b <;> rfl

/-! ### where a line is cut -/
/-- may a line be cut here? -/
def br (t : Str) (f i : Nat) : Bool := decide (1 ≤ i) && decide (f ≤ i) && (match t[i]?, t[i - 1]? with | some a, some b => blankC a && !blankC b | _, _ => false)
def cutDn (t : Str) (f : Nat) : Nat → Nat
  | 0 => 0
  | i + 1 => if br t f (i + 1) then i + 1 else cutDn t f i
def cutUp (t : Str) (f : Nat) : Nat → Nat → Nat
  | 0, _ => 0
  | n + 1, i => if br t f i then i else cutUp t f n (i + 1)
def cutP (t : Str) (f : Nat) : Nat := if cutDn t f 78 = 0 then cutUp t f (t.length - 79) 79 else cutDn t f 78
/-- what the cut is -/
def CutIs (t : Str) (f c : Nat) : Prop := (c = 0 ∧ ∀ j, br t f j = false) ∨ (br t f c = true ∧ ((c ≤ 78 ∧ ∀ j, c < j → j ≤ 78 → br t f j = false) ∨ (78 < c ∧ ∀ j, j < c → br t f j = false)))
theorem br_zero (t : Str) (f : Nat) : br t f 0 = false := rfl
theorem br_lt {t : Str} {f i : Nat} (h : br t f i = true) : i < t.length ∧ 1 ≤ i ∧ f ≤ i := by
  unfold br at h
  simp only [Bool.and_eq_true, decide_eq_true_eq] at h
  obtain ⟨⟨h1, h2⟩, h3⟩ := h
  refine ⟨?_, h1, h2⟩
  cases hi : t[i]? with
  | none => rw [hi] at h3; simp at h3
  | some a => exact lt_get hi
theorem cutIs_unique {t : Str} {f c d : Nat} (h : CutIs t f c) (k : CutIs t f d) : c = d := by
  rcases h with ⟨rfl, h⟩ | ⟨hc, h⟩ <;> rcases k with ⟨rfl, k⟩ | ⟨hd, k⟩
  · rfl
  · rw [h] at hd; cases hd
  · rw [k] at hc; cases hc
  · rcases Nat.lt_trichotomy c d with hlt | heq | hgt
    · exfalso
      rcases h with ⟨h1, h2⟩ | ⟨h1, h2⟩ <;> rcases k with ⟨k1, k2⟩ | ⟨k1, k2⟩
      · rw [h2 d hlt k1] at hd; cases hd
      · rw [k2 c hlt] at hc; cases hc
      · omega
      · rw [k2 c hlt] at hc; cases hc
    · exact heq
    · exfalso
      rcases h with ⟨h1, h2⟩ | ⟨h1, h2⟩ <;> rcases k with ⟨k1, k2⟩ | ⟨k1, k2⟩
      · rw [k2 c hgt h1] at hc; cases hc
      · omega
      · rw [h2 d hgt] at hd; cases hd
      · rw [h2 d hgt] at hd; cases hd
theorem cutDn_spec (t : Str) (f : Nat) : ∀ n, (cutDn t f n = 0 ∧ ∀ j, j ≤ n → br t f j = false) ∨ (br t f (cutDn t f n) = true ∧ cutDn t f n ≤ n ∧ ∀ j, cutDn t f n < j → j ≤ n → br t f j = false) := by
  intro n
  induction n with
  | zero => left; exact ⟨rfl, fun j hj => by obtain rfl : j = 0 := by omega
                                             exact br_zero t f⟩
  | succ n ih =>
    unfold cutDn
    by_cases h : br t f (n + 1) = true
    · rw [if_pos h]; right; exact ⟨h, Nat.le_refl _, fun j h1 h2 => by omega⟩
    · rw [if_neg h]
      rcases ih with ⟨h1, h2⟩ | ⟨h1, h2, h3⟩
      · left
        refine ⟨h1, fun j hj => ?_⟩
        by_cases e : j = n + 1
        · subst e; simpa using h
        · exact h2 j (by omega)
      · right
        refine ⟨h1, by omega, fun j hj hjn => ?_⟩
        by_cases e : j = n + 1
        · subst e; simpa using h
        · exact h3 j hj (by omega)
theorem cutUp_spec (t : Str) (f : Nat) : ∀ n i, (cutUp t f n i = 0 ∧ ∀ j, i ≤ j → j < i + n → br t f j = false) ∨ (br t f (cutUp t f n i) = true ∧ i ≤ cutUp t f n i ∧ ∀ j, i ≤ j → j < cutUp t f n i → br t f j = false) := by
  intro n
  induction n with
  | zero => intro i; left; exact ⟨rfl, fun j h1 h2 => by omega⟩
  | succ n ih =>
    intro i
    unfold cutUp
    by_cases h : br t f i = true
    · rw [if_pos h]; right; exact ⟨h, Nat.le_refl _, fun j h1 h2 => by omega⟩
    · rw [if_neg h]
      have hb : br t f i = false := by simpa using h
      rcases ih (i + 1) with ⟨h1, h2⟩ | ⟨h1, h2, h3⟩
      · left
        refine ⟨h1, fun j hj hjn => ?_⟩
        by_cases e : j = i
        · subst e; exact hb
        · exact h2 j (by omega) (by omega)
      · right
        refine ⟨h1, by omega, fun j hj hjn => ?_⟩
        by_cases e : j = i
        · subst e; exact hb
        · exact h3 j (by omega) hjn
theorem cutP_is (t : Str) (f : Nat) : CutIs t f (cutP t f) := by
  unfold cutP
  rcases cutDn_spec t f 78 with ⟨h1, h2⟩ | ⟨h1, h2, h3⟩
  · rw [if_pos h1]
    rcases cutUp_spec t f (t.length - 79) 79 with ⟨k1, k2⟩ | ⟨k1, k2, k3⟩
    · left
      refine ⟨k1, fun j => ?_⟩
      by_cases hj : j ≤ 78
      · exact h2 j hj
      · cases hb : br t f j with
        | false => rfl
        | true => have := (br_lt hb).1; rw [k2 j (by omega) (by omega)] at hb; cases hb
    · right
      refine ⟨k1, .inr ⟨by omega, fun j hj => ?_⟩⟩
      by_cases hj2 : j ≤ 78
      · exact h2 j hj2
      · exact k3 j (by omega) hj
  · have hne : cutDn t f 78 ≠ 0 := by intro h; rw [h, br_zero] at h1; cases h1
    rw [if_neg hne]
    exact .inr ⟨h1, .inl ⟨h2, h3⟩⟩
theorem cutP_pos {t : Str} {f : Nat} (h : cutP t f ≠ 0) : 1 ≤ cutP t f ∧ cutP t f < t.length := by
  rcases cutP_is t f with ⟨h1, _⟩ | ⟨h1, _⟩
  · exact absurd h1 h
  · exact ⟨(br_lt h1).2.1, (br_lt h1).1⟩
/-- the typed test at a place inside -/
theorem br_at {t : Str} {f i : Nat} (h1 : 1 ≤ i) (hi : i < t.length) : br t f i = (decide (f ≤ i) && (blankC t[i] && !blankC (t[i - 1]'(by omega)))) := by
  unfold br
  rw [List.getElem?_eq_getElem hi, List.getElem?_eq_getElem (show i - 1 < t.length by omega)]
  simp [h1]
def PInv (t : Str) (f b i : Nat) : Prop := f ≤ i ∧ 1 ≤ i ∧ ((b = 0 ∧ ∀ j, j < i → br t f j = false) ∨ (br t f b = true ∧ b < i ∧ ((b ≤ 78 ∧ ∀ j, b < j → j < i → br t f j = false) ∨ (78 < b ∧ ∀ j, j < b → br t f j = false))))
theorem PInv.done {t : Str} {f b i : Nat} (h : PInv t f b i) (hi : 0 < b ∧ 78 < i ∨ t.length ≤ i) : CutIs t f b := by
  obtain ⟨hf, h1, h2⟩ := h
  rcases h2 with ⟨rfl, h3⟩ | ⟨h3, h4, h5⟩
  · left
    refine ⟨rfl, fun j => ?_⟩
    cases hb : br t f j with
    | false => rfl
    | true =>
      have := (br_lt hb).1
      rw [h3 j (by omega)] at hb; cases hb
  · right
    refine ⟨h3, ?_⟩
    rcases h5 with ⟨h6, h7⟩ | h6
    · left
      refine ⟨h6, fun j hj hj2 => ?_⟩
      cases hb : br t f j with
      | false => rfl
      | true =>
        have := (br_lt hb).1
        rw [h7 j hj (by omega)] at hb; cases hb
    · exact .inr h6
theorem fold_point_eq (t : Str) (f : Nat) (ht : t.length ≤ 4194304) (hf : f ≤ 4194304) : fold_point t (f : Int) = some ((cutP t (max f 1) : Nat) : Int) := by
  unfold fold_point
  have hstart : max (f : Int) 1 = ((max f 1 : Nat) : Int) := by omega
  rw [hstart]
  obtain ⟨r, h1, b, rfl, h2⟩ := iter_rec (body := fold_point_l1 t) (fun s => ∃ b i : Nat, s = ((b : Int), (i : Int)) ∧ PInv t (max f 1) b i ∧ i ≤ 4194305) (fun s => (4194306 - s.2).toNat) (fun _ r => ∃ c : Nat, r = (c : Int) ∧ CutIs t (max f 1) c) (by
    rintro _ ⟨b, i, rfl, hI, hil⟩
    have hi1 := hI.2.1
    unfold fold_point_l1
    dsimp only
    by_cases hlt : i < t.length
    · have hd : decide ((i : Int) < (t.length : Int)) = true := by simp; omega
      have hpre : w64 ((i : Int) - 1) = ((i - 1 : Nat) : Int) := by rw [w64_id (by omega) (by omega)]; omega
      rw [hd, idx_lt hlt, hpre, idx_lt (show i - 1 < t.length by omega)]
      have hb := br_at (f := max f 1) hi1 hlt
      have hfi : decide (max f 1 ≤ i) = true := by simp only [decide_eq_true_eq]; exact hI.1
      rw [hfi, Bool.true_and] at hb
      simp only [cond_true, Option.bind_some, basic_Blank_eq]
      have next : ∀ b' : Nat, PInv t (max f 1) b' (i + 1) → fold_point_k2 ((b : Int), (i : Int)) (b' : Int) = some (.cont ((b' : Int), ((i + 1 : Nat) : Int))) := by
        intro b' _
        unfold fold_point_k2
        dsimp only
        rw [sc i (by omega)]
      have hno : br t (max f 1) i = false → PInv t (max f 1) b (i + 1) := by
        intro hnb
        refine ⟨by have := hI.1; omega, by omega, ?_⟩
        rcases hI.2.2 with ⟨q1, q2⟩ | ⟨q1, q2, q3⟩
        · left
          refine ⟨q1, fun j hj => ?_⟩
          by_cases e : j = i
          · subst e; exact hnb
          · exact q2 j (by omega)
        · right
          refine ⟨q1, by omega, ?_⟩
          rcases q3 with ⟨q4, q5⟩ | q4
          · left
            refine ⟨q4, fun j hj hj2 => ?_⟩
            by_cases e : j = i
            · subst e; exact hnb
            · exact q5 j hj (by omega)
          · exact .inr q4
      have goNo : br t (max f 1) i = false → (∃ s', fold_point_k2 ((b : Int), (i : Int)) (b : Int) = some (.cont s') ∧ (∃ b i : Nat, s' = ((b : Int), (i : Int)) ∧ PInv t (max f 1) b i ∧ i ≤ 4194305) ∧ (4194306 - s'.2).toNat < (4194306 - ((i : Int))).toNat ∧ ∀ r : Int, (∃ c : Nat, r = (c : Int) ∧ CutIs t (max f 1) c) → ∃ c : Nat, r = (c : Int) ∧ CutIs t (max f 1) c) := by
        intro hnb
        exact ⟨_, next b (hno hnb), ⟨b, i + 1, rfl, hno hnb, by omega⟩, by dsimp only; omega, fun _ h => h⟩
      cases ha : blankC t[i] with
      | false =>
        rw [ha] at hb
        simp only [Bool.not_false, cond_true, Option.bind_some]
        exact .inr (goNo hb)
      | true =>
        rw [ha] at hb
        simp only [Bool.not_true, cond_false, Option.bind_some]
        cases hp : blankC t[i - 1] with
        | true =>
          rw [hp] at hb
          simp only [cond_true]
          exact .inr (goNo hb)
        | false =>
          rw [hp] at hb
          have hb : br t (max f 1) i = true := hb
          simp only [cond_false]
          by_cases hb0 : 0 < b ∧ 78 < i
          · left
            have e1 : decide ((0 : Int) < (b : Int)) = true := by simp; omega
            have e2 : decide ((78 : Int) < (i : Int)) = true := by simp; omega
            rw [e1, e2]
            exact ⟨(b : Int), rfl, b, rfl, hI.done (.inl hb0)⟩
          · right
            have e : (bif decide ((0 : Int) < (b : Int)) then some (decide ((78 : Int) < (i : Int))) else some false) = some false := by
              by_cases h0 : 0 < b
              · have e1 : decide ((0 : Int) < (b : Int)) = true := by simp; omega
                have e2 : decide ((78 : Int) < (i : Int)) = false := by simp; omega
                rw [e1, e2]; rfl
              · have e1 : decide ((0 : Int) < (b : Int)) = false := by simp; omega
                rw [e1]; rfl
            rw [e]
            simp only [Option.bind_some, cond_false]
            have hnew : PInv t (max f 1) i (i + 1) := by
              refine ⟨by have := hI.1; omega, by omega, .inr ⟨hb, by omega, ?_⟩⟩
              by_cases h78 : i ≤ 78
              · exact .inl ⟨h78, fun j h1 h2 => by omega⟩
              · right
                refine ⟨by omega, ?_⟩
                rcases hI.2.2 with ⟨q1, q2⟩ | ⟨q1, q2, q3⟩
                · exact q2
                · exfalso
                  have := (br_lt q1).2.1
                  omega
            exact ⟨_, next i hnew, ⟨i, i + 1, rfl, hnew, by omega⟩, by dsimp only; omega, fun _ h => h⟩
    · left
      have hd : decide ((i : Int) < (t.length : Int)) = false := by simp; omega
      rw [hd]
      exact ⟨(b : Int), rfl, b, rfl, hI.done (.inr (by omega))⟩) ((0 : Int), ((max f 1 : Nat) : Int)) ⟨0, max f 1, rfl, ⟨Nat.le_refl _, by omega, .inl ⟨rfl, fun j hj => by
      cases hb : br t (max f 1) j with
      | false => rfl
      | true => have := (br_lt hb).2.2; omega⟩⟩, by omega⟩
  rw [h1]
  simp only [Option.bind_some]
  rw [cutIs_unique h2 (cutP_is t (max f 1))]
end Go.Proofs.YtfkgmcilaiblfaaGreatDoor

/- Fields and messages: the plain functions, and what the typed functions compute. -/
namespace Go.Proofs.YtfkgmcilaiblfaaGreatDoor
open Go.RowKit
set_option linter.unusedVariables false
set_option maxHeartbeats 1000000

/-- the lines of a text -/
def linesP : Nat → Str → Nat → List Str
  | 0, t, _ => [t]
  | n + 1, t, f => if 78 < t.length then (if cutP t f = 0 then [t] else t.take (cutP t f) :: linesP n (t.drop (cutP t f)) 1) else [t]
theorem linesP_enough : ∀ (n m : Nat) (t : Str) (f : Nat), t.length ≤ n → t.length ≤ m → linesP n t f = linesP m t f := by
  intro n
  induction n with
  | zero =>
    intro m t f h1 h2
    cases m with
    | zero => rfl
    | succ m => unfold linesP; rw [if_neg (by omega)]
  | succ n ih =>
    intro m t f h1 h2
    cases m with
    | zero => unfold linesP; rw [if_neg (by omega)]
    | succ m =>
      unfold linesP
      split
      · split
        · rfl
        · rename_i hc
          have := cutP_pos hc
          rw [ih m _ 1 (by simp; omega) (by simp; omega)]
      · rfl
def linesOf (t : Str) (f : Nat) : List Str := linesP t.length t f
theorem linesOf_long {t : Str} {f : Nat} (h : 78 < t.length) (hc : cutP t f ≠ 0) : linesOf t f = t.take (cutP t f) :: linesOf (t.drop (cutP t f)) 1 := by
  unfold linesOf
  obtain ⟨n, hn⟩ : ∃ n, t.length = n + 1 := ⟨t.length - 1, by omega⟩
  have hp := cutP_pos hc
  rw [hn, linesP, if_pos h, if_neg hc]
  rw [linesP_enough n (t.drop (cutP t f)).length _ 1 (by simp; omega) (Nat.le_refl _)]
theorem linesOf_end {t : Str} {f : Nat} (h : ¬ 78 < t.length ∨ cutP t f = 0) : linesOf t f = [t] := by
  unfold linesOf
  cases hn : t.length with
  | zero => rfl
  | succ n =>
    rw [linesP]
    rcases h with h | h
    · rw [if_neg h]
    · split
      · rfl
      · rfl
theorem linesOf_join : ∀ (n : Nat) (t : Str) (f : Nat), t.length ≤ n → (linesOf t f).flatten = t ∧ (linesOf t f).length ≤ t.length + 1 := by
  intro n
  induction n with
  | zero => intro t f h; rw [linesOf_end (.inl (by omega))]; simp
  | succ n ih =>
    intro t f h
    by_cases h78 : 78 < t.length
    · by_cases hc : cutP t f = 0
      · rw [linesOf_end (.inr hc)]; simp
      · have hp := cutP_pos hc
        rw [linesOf_long h78 hc]
        obtain ⟨h1, h2⟩ := ih (t.drop (cutP t f)) 1 (by simp; omega)
        rw [List.flatten_cons, h1]
        refine ⟨by simp, ?_⟩
        simp only [List.length_cons, List.length_drop] at h2 ⊢
        omega
    · rw [linesOf_end (.inl h78)]; simp
/-- both ways of making lines: they end with the rest, behind the lines before -/
theorem lines_loop {body : Str × Int × List Str → Option (Step (Str × Int × List Str) (Str × List Str))} (enc : Nat → Int) (g : Nat)
    (h : ∀ (t : Str) (f : Nat) (out : List Str), t.length ≤ 4194304 → out.length ≤ 4194305 → f ≤ 4194304 → body (t, enc f, out) = some (if 78 < t.length then (if cutP t (max f 1) = 0 then .out (t, out) else .cont (t.drop (cutP t (max f 1)), enc g, out ++ [t.take (cutP t (max f 1))])) else .out (t, out))) (h0 : max g 1 = 1) :
    ∀ (n : Nat) (t : Str) (f : Nat) (out : List Str), t.length ≤ n → t.length ≤ 4194304 → out.length + t.length ≤ 4194305 → f ≤ 4194304 → ∃ last init, iter body (t, enc f, out) = some (last, init) ∧ init ++ [last] = out ++ linesOf t (max f 1) := by
  intro n
  induction n with
  | zero =>
    intro t f out h1 h2 h3 h4
    have hb := h t f out h2 (by omega) h4
    rw [if_neg (by omega)] at hb
    exact ⟨t, out, iter_out hb, by rw [linesOf_end (.inl (by omega))]⟩
  | succ n ih =>
    intro t f out h1 h2 h3 h4
    have hb := h t f out h2 (by omega) h4
    by_cases h78 : 78 < t.length
    · rw [if_pos h78] at hb
      by_cases hc : cutP t (max f 1) = 0
      · rw [if_pos hc] at hb
        exact ⟨t, out, iter_out hb, by rw [linesOf_end (.inr hc)]⟩
      · rw [if_neg hc] at hb
        have hp := cutP_pos hc
        obtain ⟨last, init, q1, q2⟩ := ih (t.drop (cutP t (max f 1))) g (out ++ [t.take (cutP t (max f 1))]) (by simp; omega) (by simp; omega) (by simp; omega) (by omega)
        refine ⟨last, init, (iter_cont hb).trans q1, ?_⟩
        rw [q2, h0, linesOf_long h78 hc]; simp
    · rw [if_neg h78] at hb
      exact ⟨t, out, iter_out hb, by rw [linesOf_end (.inl h78)]⟩
def txt (n v : Str) : Str := n ++ [58, 32] ++ v
def flP (n v : Str) : List Str := linesOf (txt n v) (n.length + 2)
theorem fold_loop (t : Str) (f : Nat) (ht : t.length ≤ 4194304) (hf : f ≤ 4194304) : ∃ last init, iter fold_Fold_l1 (t, (f : Int), ([] : List Str)) = some (last, init) ∧ init ++ [last] = linesOf t (max f 1) := by
  have := lines_loop (body := fold_Fold_l1) (fun n => (n : Int)) 0 (fun t f out h1 h2 h3 => by
    unfold fold_Fold_l1
    dsimp only
    by_cases h78 : 78 < t.length
    · have hd : decide ((78 : Int) < (t.length : Int)) = true := by rw [decide_eq_true_eq]; omega
      rw [hd, if_pos h78, fold_point_eq t f h1 h3]
      simp only [cond_true, Option.bind_some]
      by_cases hc : cutP t (max f 1) = 0
      · rw [if_pos hc, hc]; rfl
      · have hp := cutP_pos hc
        have e : (((cutP t (max f 1) : Nat) : Int) == 0) = false := by rw [beq_eq_false_iff_ne]; omega
        rw [if_neg hc, e, cut_0n (by omega), cut_nl (by omega)]
        simp only [cond_false, Option.bind_some]
        rw [app_ok (by simp; omega)]; rfl
    · have hd : decide ((78 : Int) < (t.length : Int)) = false := by rw [decide_eq_false_iff_not]; omega
      rw [hd, if_neg h78]; rfl) (by decide) t.length t f [] (Nat.le_refl _) ht (by simp; omega) hf
  simpa using this
theorem txt_cat (n v : Str) (hn : n.length ≤ 1048576) (hv : v.length ≤ 1048576) : cat n [58, 32] = some (n ++ [58, 32]) ∧ cat (n ++ [58, 32]) v = some (txt n v) ∧ w64 ((n.length : Int) + 2) = ((n.length + 2 : Nat) : Int) := by
  refine ⟨cat_ok (by simp; omega), cat_ok (by simp; omega), ?_⟩
  rw [w64_id (by omega) (by omega)]; omega
theorem txt_len (n v : Str) : (txt n v).length = n.length + 2 + v.length := by unfold txt; simp; omega
def longI (i : Nat) (l : Str) : Option Int := if 998 < l.length then some (i : Int) else none
def foldE (n v : Str) : List Str × TFault :=
  if !fnP n then ([], ⟨10, -1⟩) else if 4000 < v.length then ([], ⟨1, -1⟩) else if !valP v then ([], ⟨11, -1⟩) else match firstI longI 0 (flP n v) with | some i => ([], ⟨1, i⟩) | none => (flP n v, ⟨0, 0⟩)
theorem fl_len (n v : Str) : (flP n v).length ≤ n.length + v.length + 3 := by
  have := (linesOf_join (txt n v).length (txt n v) (n.length + 2) (Nat.le_refl _)).2
  have hl := txt_len n v
  unfold flP; omega
theorem dec998 (l : Str) : decide ((998 : Int) < (l.length : Int)) = decide (998 < l.length) := by generalize l.length = n; rw [Bool.eq_iff_iff]; simp; omega
theorem fold_Fold_eq (n v : Str) (hn : n.length ≤ 1048576) (hv : v.length ≤ 1048576) : fold_Fold n v = some (foldE n v) := by
  obtain ⟨h1, h2, h3⟩ := txt_cat n v hn hv
  have hl := txt_len n v
  obtain ⟨last, init, q1, q2⟩ := fold_loop (txt n v) (n.length + 2) (by omega) (by omega)
  rw [show max (n.length + 2) 1 = n.length + 2 by omega] at q2
  unfold fold_Fold foldE
  rw [fold_name_eq n hn, fold_value_eq v hv]
  simp only [Option.bind_some, basic_Fault_eq, basic_None_eq]
  cases fnP n with
  | false => rfl
  | true =>
    simp only [Bool.not_true, cond_false, Bool.false_eq_true, if_false]
    by_cases h4 : 4000 < v.length
    · have hd : decide ((4000 : Int) < (v.length : Int)) = true := by rw [decide_eq_true_eq]; omega
      rw [hd, if_pos h4]; rfl
    · have hd : decide ((4000 : Int) < (v.length : Int)) = false := by rw [decide_eq_false_iff_not]; omega
      rw [hd, if_neg h4]
      simp only [cond_false]
      cases valP v with
      | false => rfl
      | true =>
        simp only [Bool.not_true, cond_false, Bool.false_eq_true, if_false]
        rw [h1]
        simp only [Option.bind_some]
        rw [h2]
        simp only [Option.bind_some]
        rw [h3, q1]
        simp only [Option.bind_some]
        have hj := fl_len n v
        have hfl : flP n v = init ++ [last] := q2.symm
        have hj2 := hj
        rw [hfl] at hj2
        simp at hj2
        rw [app_ok (by simp; omega), ← hfl]
        simp only [Option.bind_some]
        rw [iter_first (flP n v) (fun i l => (longI i l).map fun k => (([] : List Str), (⟨1, k⟩ : TFault))) (.inl ()) .inr]
        · simp only [Option.bind_some]
          have hm : ∀ (l : List Str) (i : Nat), firstI (fun i l => (longI i l).map fun k => (([] : List Str), (⟨1, k⟩ : TFault))) i l = (firstI longI i l).map fun k => (([] : List Str), (⟨1, k⟩ : TFault)) := by
            intro l
            induction l with
            | nil => intro i; rfl
            | cons x l ih => intro i; unfold firstI; rw [ih]; cases longI i x <;> rfl
          rw [hm]
          cases firstI longI 0 (flP n v) <;> rfl
        · unfold fold_Fold_l2; rw [dec_len]; rfl
        · intro i l hli
          have hi := lt_get hli
          unfold fold_Fold_l2 longI
          rw [dec_lt hli, idx_get hli]
          simp only [cond_true, Option.bind_some, dec998, basic_Fault_eq, sc i (by omega)]
          by_cases h9 : 998 < l.length
          · simp [h9]
          · simp [h9]
end Go.Proofs.YtfkgmcilaiblfaaGreatDoor

/- Messages and mails: the plain functions, and what the typed functions compute. -/
namespace Go.Proofs.YtfkgmcilaiblfaaGreatDoor
open Go.RowKit
set_option linter.unusedVariables false
set_option maxHeartbeats 1000000

def codeP (f : TField) : Int := (foldE f.Name f.Value).2.Code
def longB (l : List Str) : Bool := l.any fun s => decide (998 < s.length)
theorem longI_some (l : List Str) : ∀ n, (firstI longI n l).isSome = longB l := by
  induction l with
  | nil => intro n; rfl
  | cons x l ih =>
    intro n
    unfold firstI longB longI
    by_cases h : 998 < x.length
    · simp [h]
    · simp only [h, if_false, List.any_cons, decide_false, Bool.false_or]
      exact ih (n + 1)
def codeQ (n v : Str) : Int := if !fnP n then 10 else if 4000 < v.length then 1 else if !valP v then 11 else if longB (flP n v) then 1 else 0
theorem codeP_eq (f : TField) : codeP f = codeQ f.Name f.Value := by
  unfold codeP foldE codeQ
  rw [← longI_some (flP f.Name f.Value) 0]
  split
  · rfl
  · split
    · rfl
    · split
      · rfl
      · cases firstI longI 0 (flP f.Name f.Value) <;> rfl
/-! ### a head -/
def smallF (l : List TField) : Prop := l.length ≤ 1048576 ∧ ∀ f ∈ l, f.Name.length ≤ 1048576 ∧ f.Value.length ≤ 1048576
def fieldQ (i : Nat) (f : TField) : Option TFault := if codeP f != 0 then some ⟨codeP f, i⟩ else none
def headF (l : List TField) : TFault := if 60 < l.length then ⟨2, -1⟩ else (firstI fieldQ 0 l).getD ⟨0, 0⟩
theorem dec60f (l : List TField) : decide ((60 : Int) < (l.length : Int)) = decide (60 < l.length) := by generalize l.length = n; rw [Bool.eq_iff_iff]; simp; omega
theorem header_Validate_eq (l : List TField) (h : smallF l) : header_Validate l = some (headF l) := by
  obtain ⟨h1, h2⟩ := h
  unfold header_Validate headF
  rw [iter_first l fieldQ (.inl ()) .inr]
  · simp only [Option.bind_some, basic_Fault_eq, basic_None_eq, elim_fault, dec60f]
    by_cases h6 : 60 < l.length <;> simp [h6]
  · unfold header_Validate_l1; rw [dec_len]; rfl
  · intro i f hf
    have hi := lt_get hf
    obtain ⟨hn, hv⟩ := h2 f (List.mem_of_getElem? hf)
    unfold header_Validate_l1 fieldQ
    rw [dec_lt hf, idx_get hf]
    simp only [cond_true, Option.bind_some, fold_Fold_eq _ _ hn hv, basic_Failed_eq, basic_Fault_eq, sc i (by omega)]
    show (bif codeP f != 0 then _ else _) = _
    cases codeP f != 0 <;> rfl
theorem headF_code (l : List TField) (h : (headF l).Code = 0) : ¬ 60 < l.length ∧ firstI fieldQ 0 l = none ∧ ∀ f ∈ l, codeP f = 0 := by
  unfold headF at h
  by_cases h6 : 60 < l.length
  · rw [if_pos h6] at h; simp at h
  · rw [if_neg h6] at h
    cases hq : firstI fieldQ 0 l with
    | some y =>
      rw [hq] at h
      obtain ⟨i, f, h1, h2⟩ := firstI_some hq
      unfold fieldQ at h2
      exfalso
      by_cases hc : codeP f = 0
      · simp [hc] at h2
      · have : (codeP f != 0) = true := by simpa using hc
        rw [this] at h2
        simp at h2
        subst h2
        exact hc h
    | none =>
      refine ⟨h6, rfl, fun f hf => ?_⟩
      obtain ⟨i, hi⟩ := List.getElem?_of_mem hf
      have := firstI_none.1 hq i f hi
      unfold fieldQ at this
      simpa using this

/-! ### the bytes of a message -/
theorem codeP_ok {f : TField} (h : codeP f = 0) : f.Name.length ≤ 60 ∧ f.Value.length ≤ 4000 ∧ foldE f.Name f.Value = (flP f.Name f.Value, ⟨0, 0⟩) ∧ ∀ l ∈ flP f.Name f.Value, l.length ≤ 998 := by
  have h0 := h
  rw [codeP_eq] at h
  unfold codeQ at h
  have h1 : fnP f.Name = true := by cases hx : fnP f.Name with
    | true => rfl
    | false => rw [hx] at h; simp at h
  rw [h1] at h
  simp only [Bool.not_true, Bool.false_eq_true, if_false] at h
  have h2 : ¬ 4000 < f.Value.length := by intro hx; rw [if_pos hx] at h; simp at h
  rw [if_neg h2] at h
  have h3 : valP f.Value = true := by cases hx : valP f.Value with
    | true => rfl
    | false => rw [hx] at h; simp at h
  rw [h3] at h
  simp only [Bool.not_true, Bool.false_eq_true, if_false] at h
  have h4 : longB (flP f.Name f.Value) = false := by cases hx : longB (flP f.Name f.Value) with
    | false => rfl
    | true => rw [hx] at h; simp at h
  refine ⟨?_, by omega, ?_, ?_⟩
  · unfold fnP at h1; simp only [Bool.and_eq_true, decide_eq_true_eq] at h1; exact h1.1.2
  · unfold foldE
    rw [h1, h3]
    simp only [Bool.not_true, Bool.false_eq_true, if_false, if_neg h2]
    have := longI_some (flP f.Name f.Value) 0
    rw [h4] at this
    cases hx : firstI longI 0 (flP f.Name f.Value) with
    | none => rfl
    | some y => rw [hx] at this; cases this
  · intro l hl
    unfold longB at h4
    rw [List.any_eq_false] at h4
    have := h4 l hl
    simp at this; omega
def addL (a : List UInt8) (l : Str) : List UInt8 := a ++ l ++ [13, 10]
def addF (a : List UInt8) (f : TField) : List UInt8 := (flP f.Name f.Value).foldl addL a
def bytesP (m : TMessage) : List UInt8 := m.Fields.foldl addF [] ++ [13, 10] ++ m.Body
theorem lines_wr (l : List Str) (acc : List UInt8) (hl : l.length ≤ 5000) (h9 : ∀ s ∈ l, s.length ≤ 998) (ha : acc.length ≤ 1000000000) {body : Int × List UInt8 → Option (Step (Int × List UInt8) (List UInt8))}
    (h0 : ∀ s, body ((l.length : Int), s) = some (.out s)) (h1 : ∀ (i : Nat) x s, l[i]? = some x → s.length ≤ 1006000000 → body ((i : Int), s) = some (.cont (((i + 1 : Nat) : Int), addL s x))) : iter body (0, acc) = some (l.foldl addL acc) ∧ (l.foldl addL acc).length ≤ acc.length + 1000 * l.length :=
  iter_fold l (fun i s => (i, s)) addL id (fun i s => s.length ≤ acc.length + 1000 * i) (body := body) (fun s _ => h0 s) (fun i x s hx hi => by
    have hlt := lt_get hx
    have h9x := h9 x (List.mem_of_getElem? hx)
    refine ⟨h1 i x s hx (by omega), ?_⟩
    unfold addL; simp; omega) acc (by simp)
theorem fields_wr (l : List TField) (hl : l.length ≤ 60) (hc : ∀ f ∈ l, codeP f = 0) {body : Int × List UInt8 → Option (Step (Int × List UInt8) (List UInt8))}
    (h0 : ∀ s, body ((l.length : Int), s) = some (.out s)) (h1 : ∀ (i : Nat) f s, l[i]? = some f → s.length ≤ 1000000000 → body ((i : Int), s) = some (.cont (((i + 1 : Nat) : Int), addF s f)) ∧ (addF s f).length ≤ s.length + 5000000) : iter body (0, ([] : List UInt8)) = some (l.foldl addF []) ∧ (l.foldl addF []).length ≤ 5000000 * l.length :=
  iter_fold l (fun i s => (i, s)) addF id (fun i s => s.length ≤ 5000000 * i) (body := body) (fun s _ => h0 s) (fun i f s hf hi => by
    have hlt := lt_get hf
    obtain ⟨q1, q2⟩ := h1 i f s hf (by omega)
    exact ⟨q1, by omega⟩) [] (by simp)
theorem message_write_eq (m : TMessage) (hb : m.Body.length ≤ 1048576) (h60 : m.Fields.length ≤ 60) (hc : ∀ f ∈ m.Fields, codeP f = 0) : message_write m = some (bytesP m) := by
  unfold message_write bytesP
  obtain ⟨h1, h2⟩ := fields_wr m.Fields h60 hc (body := message_write_l1 m) (fun s => by unfold message_write_l1; rw [dec_len]; rfl) (fun i f s hf hs => by
    have hi := lt_get hf
    obtain ⟨c1, c2, c3, c4⟩ := codeP_ok (hc f (List.mem_of_getElem? hf))
    have hfl := fl_len f.Name f.Value
    obtain ⟨q1, q2⟩ := lines_wr (flP f.Name f.Value) s (by omega) c4 hs (body := message_write_l2 (foldE f.Name f.Value)) (fun s => by unfold message_write_l2; rw [c3, dec_len]; rfl) (fun k x s hx hs => by
      have hk := lt_get hx
      have := c4 x (List.mem_of_getElem? hx)
      unfold message_write_l2
      rw [c3, dec_lt hx, idx_get hx]
      simp only [cond_true, Option.bind_some, sc k (by omega)]
      rw [app_ok (by omega)]
      simp only [Option.bind_some]
      rw [app_ok (by simp; omega)]; rfl)
    unfold addF
    refine ⟨?_, by omega⟩
    unfold message_write_l1
    rw [dec_lt hf, idx_get hf]
    simp only [cond_true, Option.bind_some, fold_Fold_eq f.Name f.Value (by omega) (by omega), q1, sc i (by omega)])
  rw [h1]
  simp only [Option.bind_some]
  rw [app_ok (by simp; omega)]
  simp only [Option.bind_some]
  rw [app_ok (by simp; omega)]; rfl
end Go.Proofs.YtfkgmcilaiblfaaGreatDoor

/- Bodies, messages and mails: the plain functions, and what the typed functions compute. -/
namespace Go.Proofs.YtfkgmcilaiblfaaGreatDoor
open Go.RowKit
set_option linter.unusedVariables false
set_option maxHeartbeats 1000000

/-- what is wrong with a body: true, a byte that ends no line; false, a long line -/
def bodyP : Nat → List UInt8 → Option Bool
  | _, [] => none
  | c, [x] => if x == 13 || x == 10 then some true else if 998 < c + 1 then some false else none
  | c, x :: y :: r => if x == 13 && y == 10 then bodyP 0 r else if x == 13 || x == 10 then some true else if 998 < c + 1 then some false else bodyP (c + 1) (y :: r)
def bodyStep {O : Type} (e : Bool → O) (c i : Nat) (x : UInt8) (r : List UInt8) : Step (Int × Int) (Unit ⊕ O) :=
  if x == 13 && r.head? == some 10 then .cont (0, ((i + 2 : Nat) : Int)) else if x == 13 || x == 10 then .out (.inr (e true)) else if 998 < c + 1 then .out (.inr (e false)) else .cont (((c + 1 : Nat) : Int), ((i + 1 : Nat) : Int))
theorem body_loop {O : Type} (e : Bool → O) (l : List UInt8) {body : Int × Int → Option (Step (Int × Int) (Unit ⊕ O))}
    (h0 : ∀ c, body (c, (l.length : Int)) = some (.out (.inl ())))
    (hs : ∀ (c : Nat) (p : List UInt8) x r, l = p ++ x :: r → c ≤ 998 → body ((c : Int), (p.length : Int)) = some (bodyStep e c p.length x r)) :
    ∀ (n : Nat) (r p : List UInt8) (c : Nat), r.length ≤ n → l = p ++ r → c ≤ 998 → iter body ((c : Int), (p.length : Int)) = some ((bodyP c r).elim (.inl ()) fun b => .inr (e b)) := by
  intro n
  induction n with
  | zero =>
    intro r p c hr hl hc
    obtain rfl : r = [] := List.length_eq_zero_iff.1 (by omega)
    have : p = l := by simp [hl]
    subst this
    exact iter_out (h0 _)
  | succ n ih =>
    intro r p c hr hl hc
    match r, hr, hl with
    | [], _, hl =>
      have : p = l := by simp [hl]
      subst this
      exact iter_out (h0 _)
    | [x], hr, hl =>
      have hb := hs c p x [] hl hc
      unfold bodyStep at hb
      have e1 : (x == 13 && ([] : List UInt8).head? == some 10) = false := by simp
      rw [e1] at hb
      simp only [Bool.false_eq_true, if_false] at hb
      unfold bodyP
      cases hx : (x == 13 || x == 10) with
      | true => rw [hx] at hb; exact iter_out hb
      | false =>
        rw [hx] at hb
        simp only [Bool.false_eq_true, if_false] at hb ⊢
        by_cases h9 : 998 < c + 1
        · rw [if_pos h9] at hb ⊢; exact iter_out hb
        · rw [if_neg h9] at hb ⊢
          rw [iter_cont hb]
          have := ih [] (p ++ [x]) (c + 1) (by simp) (by simp [hl]) (by omega)
          rw [List.length_append] at this
          exact this
    | x :: y :: r, hr, hl =>
      have hb := hs c p x (y :: r) hl hc
      unfold bodyStep at hb
      have e1 : ((y :: r).head? == some (10 : UInt8)) = (y == 10) := by simp
      rw [e1] at hb
      unfold bodyP
      cases hxy : (x == 13 && y == 10) with
      | true =>
        rw [hxy] at hb
        simp only [if_true] at hb ⊢
        rw [iter_cont hb]
        have := ih r (p ++ [x, y]) 0 (by simp at hr; omega) (by simp [hl]) (by omega)
        rw [List.length_append] at this
        exact this
      | false =>
        rw [hxy] at hb
        simp only [Bool.false_eq_true, if_false] at hb ⊢
        cases hx : (x == 13 || x == 10) with
        | true => rw [hx] at hb; exact iter_out hb
        | false =>
          rw [hx] at hb
          simp only [Bool.false_eq_true, if_false] at hb ⊢
          by_cases h9 : 998 < c + 1
          · rw [if_pos h9] at hb ⊢; exact iter_out hb
          · rw [if_neg h9] at hb ⊢
            rw [iter_cont hb]
            have := ih (y :: r) (p ++ [x]) (c + 1) (by simp at hr ⊢; omega) (by simp [hl]) (by omega)
            rw [List.length_append] at this
            exact this
theorem next_is {l p r : List UInt8} {x : UInt8} (h : l = p ++ x :: r) (hl : l.length ≤ 1048576) : (bif decide (((p.length + 1 : Nat) : Int) < (l.length : Int)) then (idx l ((p.length + 1 : Nat) : Int)).bind fun v13 => some (((v13.toNat : Int) == 10)) else some false) = some (r.head? == some 10) := by
  subst h
  simp at hl
  cases r with
  | nil =>
    have : decide (((p.length + 1 : Nat) : Int) < ((p ++ [x]).length : Int)) = false := by simp
    rw [this]; rfl
  | cons y r =>
    have : decide (((p.length + 1 : Nat) : Int) < ((p ++ x :: y :: r).length : Int)) = true := by simp; omega
    rw [this, idx_nat]
    have : (p ++ x :: y :: r)[p.length + 1]? = some y := by simp [List.getElem?_append_right]
    rw [this]
    simp only [cond_true, Option.bind_some, u8_eq y 10 (by decide)]
    simp
theorem basic_Body_eq (l : List UInt8) (hl : l.length ≤ 1048576) : basic_Body l = some ((bodyP 0 l).elim 0 fun b => bif b then 11 else 1) := by
  unfold basic_Body
  have := body_loop (fun b : Bool => bif b then (11 : Int) else 1) l (body := basic_Body_l1 l) (fun c => by unfold basic_Body_l1; rw [dec_len]; rfl) (fun c p x r h hc => by
    have hx : l[p.length]? = some x := by simp [h]
    have hi := lt_get hx
    unfold basic_Body_l1 basic_Body_k2 bodyStep
    dsimp only
    rw [dec_lt hx, idx_get hx]
    simp only [cond_true, Option.bind_some, u8_eq x 13 (by decide), u8_eq x 10 (by decide), sc p.length (by omega), sc (p.length + 1) (by omega), sc c (by omega)]
    rw [next_is h hl]
    have h9 : decide ((998 : Int) < ((c + 1 : Nat) : Int)) = decide (998 < c + 1) := by rw [Bool.eq_iff_iff]; simp; omega
    rw [h9]
    by_cases h98 : 998 < c + 1 <;> simp only [h98, decide_true, decide_false, if_true, if_false] <;> cases x == 13 <;> cases x == 10 <;> cases r.head? == some 10 <;> rfl) l.length l [] 0 (Nat.le_refl _) rfl (by omega)
  have h2 : iter (basic_Body_l1 l) (0, 0) = _ := this
  rw [h2]
  cases bodyP 0 l with
  | none => rfl
  | some b => cases b <;> rfl
def bodyF (l : List UInt8) : TFault := (bodyP 0 l).elim ⟨0, 0⟩ fun b => bif b then ⟨11, -5⟩ else ⟨1, -6⟩
theorem message_body_eq (l : List UInt8) (hl : l.length ≤ 1048576) : message_body l = some (bodyF l) := by
  unfold message_body bodyF
  rw [basic_Body_eq l hl]
  cases bodyP 0 l with
  | none => rfl
  | some b => cases b <;> rfl
def msgF (m : TMessage) : TFault := if (headF m.Fields).Code != 0 then headF m.Fields else if 12000 < (bytesP m).length then ⟨1, -4⟩ else bodyF m.Body
def smallM (m : TMessage) : Prop := smallF m.Fields ∧ m.Body.length ≤ 1048576
theorem message_Validate_eq (m : TMessage) (h : smallM m) : message_Validate m = some (msgF m) := by
  obtain ⟨h1, h2⟩ := h
  unfold message_Validate msgF
  rw [header_Validate_eq _ h1]
  simp only [Option.bind_some, basic_Failed_eq, basic_Fault_eq, message_body_eq _ h2]
  cases hc : (headF m.Fields).Code != 0 with
  | true => rfl
  | false =>
    obtain ⟨q1, q2, q3⟩ := headF_code m.Fields (by simpa using hc)
    rw [message_write_eq m h2 (by omega) q3]
    simp only [Option.bind_some, cond_false, Bool.false_eq_true, if_false]
    have : decide ((12000 : Int) < ((bytesP m).length : Int)) = decide (12000 < (bytesP m).length) := by generalize (bytesP m).length = n; rw [Bool.eq_iff_iff]; simp; omega
    rw [this]
    by_cases hb : 12000 < (bytesP m).length <;> simp [hb]
end Go.Proofs.YtfkgmcilaiblfaaGreatDoor

/- Envelopes by domains: the plain functions, and what the typed functions compute. -/
namespace Go.Proofs.YtfkgmcilaiblfaaGreatDoor
open Go.RowKit
set_option linter.unusedVariables false
set_option maxHeartbeats 1000000

instance : DecidableEq TRecipient := fun a b => decidable_of_iff (a.Address = b.Address ∧ a.Notify = b.Notify) (by cases a; cases b; simp)
instance : DecidableEq TFault := fun a b => decidable_of_iff (a.Code = b.Code ∧ a.Index = b.Index) (by cases a; cases b; simp)
instance : DecidableEq TEnvelope := fun a b => decidable_of_iff (a.From = b.From ∧ a.To = b.To ∧ a.Id = b.Id) (by cases a; cases b; simp)
def domOf (s : Str) : Str := if atP s < s.length then s.drop (atP s + 1) else []
theorem splitP_dom (s : Str) : (splitP s).2.1 = domOf s := by
  unfold splitP domOf
  by_cases h : atP s < s.length
  · rw [if_pos h, if_pos h]
  · rw [if_neg h, if_neg h]
end Go.Proofs.YtfkgmcilaiblfaaGreatDoor

/- The union of recipients: the plain functions, and what the typed functions compute. -/
namespace Go.Proofs.YtfkgmcilaiblfaaGreatDoor
open Go.RowKit
set_option linter.unusedVariables false
set_option maxHeartbeats 1000000

/-! ### conditions -/
theorem note_fin {n : Int} (h : noteP n = true) : ∃ a : Fin 8, n = (a.val : Int) := by
  unfold noteP at h
  simp at h
  exact ⟨⟨n.toNat, by omega⟩, by simp; omega⟩
/-! ### one recipient for each address -/
def sameA (s : Str) (r : TRecipient) : Bool := r.Address == s
def hasA (out : List TRecipient) (s : Str) : Bool := out.any (sameA s)
def putR (out : List TRecipient) (r : TRecipient) : List TRecipient := if hasA out r.Address then out.map (fun x => if sameA r.Address x then ⟨x.Address, iOr x.Notify r.Notify⟩ else x) else out ++ [r]
end Go.Proofs.YtfkgmcilaiblfaaGreatDoor

/- The union of recipients: what the typed functions compute; the closed example. -/
namespace Go.Proofs.YtfkgmcilaiblfaaGreatDoor
open Go.RowKit
set_option linter.unusedVariables false
set_option maxHeartbeats 1000000

def posA (out : List TRecipient) (s : Str) : Option Nat := out.findIdx? (sameA s)
theorem posA_has (out : List TRecipient) (s : Str) : (posA out s).isSome = hasA out s := by unfold posA hasA; exact List.findIdx?_isSome
theorem posA_app (out : List TRecipient) (r : TRecipient) (s : Str) (h : hasA out r.Address = false) : posA (out ++ [r]) s = if r.Address == s then some out.length else posA out s := by
  unfold posA
  rw [List.findIdx?_append]
  by_cases hs : (r.Address == s) = true
  · rw [if_pos hs]
    have e : r.Address = s := beq_iff_eq.1 hs
    subst e
    have : out.findIdx? (sameA r.Address) = none := by
      have := posA_has out r.Address
      rw [h] at this
      unfold posA at this
      simpa using this
    rw [this]
    simp [sameA]
  · rw [if_neg hs]
    have : sameA s r = false := by unfold sameA; simpa using hs
    simp [List.findIdx?_cons, this]
theorem posA_map (out : List TRecipient) (f : TRecipient → TRecipient) (hf : ∀ x, (f x).Address = x.Address) (s : Str) : posA (out.map f) s = posA out s := by
  unfold posA
  rw [List.findIdx?_map]
  congr 1
  funext x
  simp [Function.comp, sameA, hf]
structure MInv (i : Nat) (out : List TRecipient) (m : List (Str × Int)) : Prop where
  len : out.length ≤ i
  nd : (out.map (·.Address)).Nodup
  mp : ∀ s, mget m s = (posA out s).map fun k => ((k : Nat) : Int)
theorem MInv.put {i : Nat} {out : List TRecipient} {m : List (Str × Int)} (h : MInv i out m) (r : TRecipient) : MInv (i + 1) (putR out r) (if hasA out r.Address then m else mput m r.Address (out.length : Int)) := by
  unfold putR
  cases hh : hasA out r.Address with
  | true =>
    simp only [if_true]
    have hf : ∀ x : TRecipient, (if sameA r.Address x then (⟨x.Address, iOr x.Notify r.Notify⟩ : TRecipient) else x).Address = x.Address := by intro x; split <;> rfl
    refine ⟨by simp; have := h.len; omega, ?_, fun s => ?_⟩
    · rw [List.map_map, show ((·.Address) ∘ fun x : TRecipient => if sameA r.Address x then (⟨x.Address, iOr x.Notify r.Notify⟩ : TRecipient) else x) = (·.Address) from funext hf]; exact h.nd
    · rw [posA_map _ _ hf]; exact h.mp s
  | false =>
    simp only [Bool.false_eq_true, if_false]
    refine ⟨by simp; exact h.len, ?_, fun s => ?_⟩
    · rw [List.map_append, List.nodup_append]
      refine ⟨h.nd, by simp, ?_⟩
      intro a ha b hb
      simp at hb; subst hb
      rintro rfl
      obtain ⟨x, hx, hxe⟩ := List.mem_map.1 ha
      unfold hasA at hh
      rw [List.any_eq_false] at hh
      exact hh x hx (by simp [sameA, hxe])
    · rw [mget_mputG, posA_app _ _ _ hh, h.mp s]
      by_cases hs : (r.Address == s) = true
      · rw [if_pos hs, if_pos hs]; rfl
      · rw [if_neg hs, if_neg hs]
end Go.Proofs.YtfkgmcilaiblfaaGreatDoor

/- The law EnvelopeDomainsMatchSpec, as a plain statement. -/
namespace Go.Proofs.YtfkgmcilaiblfaaGreatDoor
open Go.RowKit
set_option linter.unusedVariables false
end Go.Proofs.YtfkgmcilaiblfaaGreatDoor
