/- Part 1 of the proof of the law ListsMembersMatchSpec: what it needs. -/
import Derived.Test.YtkoijpogjobgjaaGreatC4
import Derived.Test.YtkoijpogjobgjaaGreatProg
import Derived.Lib.IndexMore
import Derived.Lib.IndexAny
import Derived.Laws.RangeAny
set_option linter.unusedVariables false
set_option linter.unusedSimpArgs false
/- Go's structures as Lean's, and their cells. Written by program. -/
namespace Go.Proofs.YtkoijpogjobgjaaGreat
open Go.RowKit
structure TFault where
  Code : Int
  Index : Int
def TFault.pc (x : TFault) : List PV := [pI x.Code, pI x.Index]
structure TAlias where
  Address : Str
  To : List Str
def TAlias.pc (x : TAlias) : List PV := [pS x.Address, pL cS x.To]
structure TRecipient where
  Address : Str
  Notify : Int
def TRecipient.pc (x : TRecipient) : List PV := [pS x.Address, pI x.Notify]
structure TEnvelope where
  From : Str
  To : List TRecipient
  Id : Str
def TEnvelope.pc (x : TEnvelope) : List PV := [pS x.From, pL TRecipient.pc x.To, pS x.Id]
structure TField where
  Name : Str
  Value : Str
def TField.pc (x : TField) : List PV := [pS x.Name, pS x.Value]
structure TMessage where
  Fields : List TField
  Body : List UInt8
def TMessage.pc (x : TMessage) : List PV := [pL TField.pc x.Fields, pL cU x.Body]
structure TMail where
  Envelope : TEnvelope
  Message : TMessage
def TMail.pc (x : TMail) : List PV := [pS x.Envelope.From, pL TRecipient.pc x.Envelope.To, pS x.Envelope.Id, pL TField.pc x.Message.Fields, pL cU x.Message.Body]
structure TForward where
  Address : Str
  To : List Str
  Keep : Bool
def TForward.pc (x : TForward) : List PV := [pS x.Address, pL cS x.To, pB x.Keep]
structure THeld where
  Number : Int
  Mail : TMail
def THeld.pc (x : THeld) : List PV := [pI x.Number, pS x.Mail.Envelope.From, pL TRecipient.pc x.Mail.Envelope.To, pS x.Mail.Envelope.Id, pL TField.pc x.Mail.Message.Fields, pL cU x.Mail.Message.Body]
structure TList where
  Address : Str
  Owner : Str
  Open : Bool
  Subscribers : List Str
  Moderators : List Str
  Held : List THeld
  Next : Int
def TList.pc (x : TList) : List PV := [pS x.Address, pS x.Owner, pB x.Open, pL cS x.Subscribers, pL cS x.Moderators, pL THeld.pc x.Held, pI x.Next]
end Go.Proofs.YtkoijpogjobgjaaGreat

/- Rows of the table of types. Written by program. -/
namespace Go.Proofs.YtkoijpogjobgjaaGreat
open Go.RowKit
set_option maxRecDepth 100000
set_option maxHeartbeats 40000000
set_option linter.unusedVariables false
theorem mixed : Tryz.prog.follows .mixedOrders = true := by kernel_rfl
theorem cmp_api_Fault : CmpOk Tryz.prog 37 := ⟨by kernel_rfl, by kernel_rfl⟩
theorem cmp_api_Field : CmpOk Tryz.prog 87 := ⟨by kernel_rfl, by kernel_rfl⟩
theorem cmp_api_Recipient : CmpOk Tryz.prog 70 := ⟨by kernel_rfl, by kernel_rfl⟩
theorem pl_api_Envelope (w : World) : Sem.run Tryz.prog (Array.mapM (fun (f : Field) => do pure (f.offset, ← sizeOf f.type)) #[⟨"From", 9, 0, false, "", "", 0⟩, ⟨"To", 26, 1, false, "", "", 16⟩, ⟨"Id", 9, 2, false, "", "", 40⟩]) w = .ok #[(0, 1), (1, 1), (2, 1)] w := by kernel_rfl
theorem pl_api_Fault (w : World) : Sem.run Tryz.prog (Array.mapM (fun (f : Field) => do pure (f.offset, ← sizeOf f.type)) #[⟨"Code", 3, 0, false, "", "", 0⟩, ⟨"Index", 3, 1, false, "", "", 8⟩]) w = .ok #[(0, 1), (1, 1)] w := by kernel_rfl
theorem pl_api_Field (w : World) : Sem.run Tryz.prog (Array.mapM (fun (f : Field) => do pure (f.offset, ← sizeOf f.type)) #[⟨"Name", 9, 0, false, "", "", 0⟩, ⟨"Value", 9, 1, false, "", "", 16⟩]) w = .ok #[(0, 1), (1, 1)] w := by kernel_rfl
theorem pl_api_Held (w : World) : Sem.run Tryz.prog (Array.mapM (fun (f : Field) => do pure (f.offset, ← sizeOf f.type)) #[⟨"Number", 3, 0, false, "", "", 0⟩, ⟨"Mail", 34, 1, false, "", "", 8⟩]) w = .ok #[(0, 1), (1, 5)] w := by kernel_rfl
theorem pl_api_List (w : World) : Sem.run Tryz.prog (Array.mapM (fun (f : Field) => do pure (f.offset, ← sizeOf f.type)) #[⟨"Address", 9, 0, false, "", "", 0⟩, ⟨"Owner", 9, 1, false, "", "", 16⟩, ⟨"Open", 4, 2, false, "", "", 32⟩, ⟨"Subscribers", 22, 3, false, "", "", 40⟩, ⟨"Moderators", 22, 4, false, "", "", 64⟩, ⟨"Held", 23, 5, false, "", "", 88⟩, ⟨"Next", 3, 6, false, "", "", 112⟩]) w = .ok #[(0, 1), (1, 1), (2, 1), (3, 1), (4, 1), (5, 1), (6, 1)] w := by kernel_rfl
theorem pl_api_Mail (w : World) : Sem.run Tryz.prog (Array.mapM (fun (f : Field) => do pure (f.offset, ← sizeOf f.type)) #[⟨"Envelope", 28, 0, false, "", "", 0⟩, ⟨"Message", 32, 3, false, "", "", 56⟩]) w = .ok #[(0, 3), (3, 2)] w := by kernel_rfl
theorem pl_api_Message (w : World) : Sem.run Tryz.prog (Array.mapM (fun (f : Field) => do pure (f.offset, ← sizeOf f.type)) #[⟨"Fields", 29, 0, false, "", "", 0⟩, ⟨"Body", 30, 1, false, "", "", 24⟩]) w = .ok #[(0, 1), (1, 1)] w := by kernel_rfl
theorem pl_api_Recipient (w : World) : Sem.run Tryz.prog (Array.mapM (fun (f : Field) => do pure (f.offset, ← sizeOf f.type)) #[⟨"Address", 9, 0, false, "", "", 0⟩, ⟨"Notify", 3, 1, false, "", "", 16⟩]) w = .ok #[(0, 1), (1, 1)] w := by kernel_rfl
theorem ty_api_Envelope : TyOk Tryz.prog 28 3 56 (.agg #[.string ⟨#[]⟩, .slice none 0 0, .string ⟨#[]⟩]) (.struct #[⟨"From", 9, 0, false, "", "", 0⟩, ⟨"To", 26, 1, false, "", "", 16⟩, ⟨"Id", 9, 2, false, "", "", 40⟩]) := ⟨by kernel_rfl, by kernel_rfl⟩
theorem ty_api_Fault : TyOk Tryz.prog 37 2 16 (.agg #[.int .i64 0, .int .i64 0]) (.struct #[⟨"Code", 3, 0, false, "", "", 0⟩, ⟨"Index", 3, 1, false, "", "", 8⟩]) := ⟨by kernel_rfl, by kernel_rfl⟩
theorem ty_api_Field : TyOk Tryz.prog 87 2 32 (.agg #[.string ⟨#[]⟩, .string ⟨#[]⟩]) (.struct #[⟨"Name", 9, 0, false, "", "", 0⟩, ⟨"Value", 9, 1, false, "", "", 16⟩]) := ⟨by kernel_rfl, by kernel_rfl⟩
theorem ty_api_Held : TyOk Tryz.prog 65 6 112 (.agg #[.int .i64 0, .string ⟨#[]⟩, .slice none 0 0, .string ⟨#[]⟩, .slice none 0 0, .slice none 0 0]) (.struct #[⟨"Number", 3, 0, false, "", "", 0⟩, ⟨"Mail", 34, 1, false, "", "", 8⟩]) := ⟨by kernel_rfl, by kernel_rfl⟩
theorem ty_api_List : TyOk Tryz.prog 25 7 120 (.agg #[.string ⟨#[]⟩, .string ⟨#[]⟩, .bool false, .slice none 0 0, .slice none 0 0, .slice none 0 0, .int .i64 0]) (.struct #[⟨"Address", 9, 0, false, "", "", 0⟩, ⟨"Owner", 9, 1, false, "", "", 16⟩, ⟨"Open", 4, 2, false, "", "", 32⟩, ⟨"Subscribers", 22, 3, false, "", "", 40⟩, ⟨"Moderators", 22, 4, false, "", "", 64⟩, ⟨"Held", 23, 5, false, "", "", 88⟩, ⟨"Next", 3, 6, false, "", "", 112⟩]) := ⟨by kernel_rfl, by kernel_rfl⟩
theorem ty_api_Mail : TyOk Tryz.prog 34 5 104 (.agg #[.string ⟨#[]⟩, .slice none 0 0, .string ⟨#[]⟩, .slice none 0 0, .slice none 0 0]) (.struct #[⟨"Envelope", 28, 0, false, "", "", 0⟩, ⟨"Message", 32, 3, false, "", "", 56⟩]) := ⟨by kernel_rfl, by kernel_rfl⟩
theorem ty_api_Message : TyOk Tryz.prog 32 2 48 (.agg #[.slice none 0 0, .slice none 0 0]) (.struct #[⟨"Fields", 29, 0, false, "", "", 0⟩, ⟨"Body", 30, 1, false, "", "", 24⟩]) := ⟨by kernel_rfl, by kernel_rfl⟩
theorem ty_api_Recipient : TyOk Tryz.prog 70 2 24 (.agg #[.string ⟨#[]⟩, .int .i64 0]) (.struct #[⟨"Address", 9, 0, false, "", "", 0⟩, ⟨"Notify", 3, 1, false, "", "", 16⟩]) := ⟨by kernel_rfl, by kernel_rfl⟩
theorem ty_bool : TyOk Tryz.prog 4 1 1 (.bool false) .bool := ⟨by kernel_rfl, by kernel_rfl⟩
theorem ty_int : TyOk Tryz.prog 3 1 8 (.int .i64 0) (.int .i64) := ⟨by kernel_rfl, by kernel_rfl⟩
theorem ty_int32 : TyOk Tryz.prog 21 1 4 (.int .i32 0) (.int .i32) := ⟨by kernel_rfl, by kernel_rfl⟩
theorem ty_s_api_Field : TyOk Tryz.prog 29 1 24 (.slice none 0 0) (.slice 87) := ⟨by kernel_rfl, by kernel_rfl⟩
theorem ty_s_api_Held : TyOk Tryz.prog 23 1 24 (.slice none 0 0) (.slice 65) := ⟨by kernel_rfl, by kernel_rfl⟩
theorem ty_s_api_Mail : TyOk Tryz.prog 35 1 24 (.slice none 0 0) (.slice 34) := ⟨by kernel_rfl, by kernel_rfl⟩
theorem ty_s_api_Recipient : TyOk Tryz.prog 26 1 24 (.slice none 0 0) (.slice 70) := ⟨by kernel_rfl, by kernel_rfl⟩
theorem ty_s_s_api_Field : TyOk Tryz.prog 119 1 24 (.slice none 0 0) (.slice 29) := ⟨by kernel_rfl, by kernel_rfl⟩
theorem ty_s_string : TyOk Tryz.prog 22 1 24 (.slice none 0 0) (.slice 9) := ⟨by kernel_rfl, by kernel_rfl⟩
theorem ty_s_uint8 : TyOk Tryz.prog 30 1 24 (.slice none 0 0) (.slice 5) := ⟨by kernel_rfl, by kernel_rfl⟩
theorem ty_string : TyOk Tryz.prog 9 1 16 (.string ⟨#[]⟩) .string := ⟨by kernel_rfl, by kernel_rfl⟩
theorem ty_uint8 : TyOk Tryz.prog 5 1 1 (.int .u8 0) (.int .u8) := ⟨by kernel_rfl, by kernel_rfl⟩
def tab : Tab := [(28, ⟨3, 56, (.agg #[.string ⟨#[]⟩, .slice none 0 0, .string ⟨#[]⟩]), (.struct #[⟨"From", 9, 0, false, "", "", 0⟩, ⟨"To", 26, 1, false, "", "", 16⟩, ⟨"Id", 9, 2, false, "", "", 40⟩]), (some #[(0, 1), (1, 1), (2, 1)])⟩), (37, ⟨2, 16, (.agg #[.int .i64 0, .int .i64 0]), (.struct #[⟨"Code", 3, 0, false, "", "", 0⟩, ⟨"Index", 3, 1, false, "", "", 8⟩]), (some #[(0, 1), (1, 1)])⟩), (87, ⟨2, 32, (.agg #[.string ⟨#[]⟩, .string ⟨#[]⟩]), (.struct #[⟨"Name", 9, 0, false, "", "", 0⟩, ⟨"Value", 9, 1, false, "", "", 16⟩]), (some #[(0, 1), (1, 1)])⟩), (65, ⟨6, 112, (.agg #[.int .i64 0, .string ⟨#[]⟩, .slice none 0 0, .string ⟨#[]⟩, .slice none 0 0, .slice none 0 0]), (.struct #[⟨"Number", 3, 0, false, "", "", 0⟩, ⟨"Mail", 34, 1, false, "", "", 8⟩]), (some #[(0, 1), (1, 5)])⟩), (25, ⟨7, 120, (.agg #[.string ⟨#[]⟩, .string ⟨#[]⟩, .bool false, .slice none 0 0, .slice none 0 0, .slice none 0 0, .int .i64 0]), (.struct #[⟨"Address", 9, 0, false, "", "", 0⟩, ⟨"Owner", 9, 1, false, "", "", 16⟩, ⟨"Open", 4, 2, false, "", "", 32⟩, ⟨"Subscribers", 22, 3, false, "", "", 40⟩, ⟨"Moderators", 22, 4, false, "", "", 64⟩, ⟨"Held", 23, 5, false, "", "", 88⟩, ⟨"Next", 3, 6, false, "", "", 112⟩]), (some #[(0, 1), (1, 1), (2, 1), (3, 1), (4, 1), (5, 1), (6, 1)])⟩), (34, ⟨5, 104, (.agg #[.string ⟨#[]⟩, .slice none 0 0, .string ⟨#[]⟩, .slice none 0 0, .slice none 0 0]), (.struct #[⟨"Envelope", 28, 0, false, "", "", 0⟩, ⟨"Message", 32, 3, false, "", "", 56⟩]), (some #[(0, 3), (3, 2)])⟩), (32, ⟨2, 48, (.agg #[.slice none 0 0, .slice none 0 0]), (.struct #[⟨"Fields", 29, 0, false, "", "", 0⟩, ⟨"Body", 30, 1, false, "", "", 24⟩]), (some #[(0, 1), (1, 1)])⟩), (70, ⟨2, 24, (.agg #[.string ⟨#[]⟩, .int .i64 0]), (.struct #[⟨"Address", 9, 0, false, "", "", 0⟩, ⟨"Notify", 3, 1, false, "", "", 16⟩]), (some #[(0, 1), (1, 1)])⟩), (4, ⟨1, 1, (.bool false), .bool, none⟩), (3, ⟨1, 8, (.int .i64 0), (.int .i64), none⟩), (21, ⟨1, 4, (.int .i32 0), (.int .i32), none⟩), (29, ⟨1, 24, (.slice none 0 0), (.slice 87), none⟩), (23, ⟨1, 24, (.slice none 0 0), (.slice 65), none⟩), (35, ⟨1, 24, (.slice none 0 0), (.slice 34), none⟩), (26, ⟨1, 24, (.slice none 0 0), (.slice 70), none⟩), (119, ⟨1, 24, (.slice none 0 0), (.slice 29), none⟩), (22, ⟨1, 24, (.slice none 0 0), (.slice 9), none⟩), (30, ⟨1, 24, (.slice none 0 0), (.slice 5), none⟩), (9, ⟨1, 16, (.string ⟨#[]⟩), .string, none⟩), (5, ⟨1, 1, (.int .u8 0), (.int .u8), none⟩)]
theorem tk : TabOk Tryz.prog tab := (tab_consP ty_api_Envelope pl_api_Envelope (tab_consP ty_api_Fault pl_api_Fault (tab_consP ty_api_Field pl_api_Field (tab_consP ty_api_Held pl_api_Held (tab_consP ty_api_List pl_api_List (tab_consP ty_api_Mail pl_api_Mail (tab_consP ty_api_Message pl_api_Message (tab_consP ty_api_Recipient pl_api_Recipient (tab_cons ty_bool (tab_cons ty_int (tab_cons ty_int32 (tab_cons ty_s_api_Field (tab_cons ty_s_api_Held (tab_cons ty_s_api_Mail (tab_cons ty_s_api_Recipient (tab_cons ty_s_s_api_Field (tab_cons ty_s_string (tab_cons ty_s_uint8 (tab_cons ty_string (tab_cons ty_uint8 tab_nil))))))))))))))))))))
end Go.Proofs.YtkoijpogjobgjaaGreat

/- How the laws' arguments are read. Written by program. -/
namespace Go.Proofs.YtkoijpogjobgjaaGreat
open Go.RowKit
set_option maxRecDepth 100000
set_option linter.unusedVariables false
theorem op_string : Opens Tryz.prog 9 1 cS okStr (fun s => s.length + 1) := opens_S ty_string.u (by kernel_rfl)
theorem op_bool : Opens Tryz.prog 4 1 cB (fun _ => True) (fun _ => 1) := opens_B ty_bool.u (by kernel_rfl)
theorem op_s_string : Opens Tryz.prog 22 1 (cL cS) (okL okStr) (bkL (fun s => s.length + 1)) := opens_L op_string rfl ty_s_string.u (by kernel_rfl)
theorem op_int : Opens Tryz.prog 3 1 cI ok64 (fun _ => 1) := opens_I ty_int.u (by kernel_rfl)
def TRecipient.ok (x : TRecipient) : Prop := okStr x.Address ∧ ok64 x.Notify
def TRecipient.bk (x : TRecipient) : Nat := (fun s => s.length + 1) x.Address + (fun _ => 1) x.Notify + 1
instance : Inhabited TRecipient := ⟨⟨default, default⟩⟩
theorem op_api_Recipient : Opens Tryz.prog 70 2 TRecipient.pc TRecipient.ok TRecipient.bk := ⟨by kernel_rfl, fun _ => rfl, fun {H enc W fuel cs d} h => by
  obtain ⟨xs, n, _, rfl, hl, hlen, hf⟩ := DataW.trod_struct ty_api_Recipient.u h
  have hl2 : cs.length = 2 := hl.trans (by kernel_rfl)
  match xs, hlen with
  | [y0, y1], _ =>
    obtain ⟨x0, r0, o0, b0⟩ := op_string.op (show _ = some y0 from hf 0 _ rfl)
    replace r0 : RelC W _ (List.take (Tryz.prog.cellsOf 9) (List.drop 0 cs)) := r0
    rw [op_string.cells] at r0
    obtain ⟨x1, r1, o1, b1⟩ := op_int.op (show _ = some y1 from hf 1 _ rfl)
    replace r1 : RelC W _ (List.take (Tryz.prog.cellsOf 3) (List.drop 1 cs)) := r1
    rw [op_int.cells] at r1
    exact ⟨⟨x0, x1⟩, (relC_seg (off := 0) rfl r0 (relC_seg (off := 1) rfl r1 (relC_end hl2))), ⟨o0, o1⟩, by simp only [List.map, Rows.uptoBulk, Rows.uptoBulkAll, TRecipient.bk]; omega⟩⟩
theorem op_s_api_Recipient : Opens Tryz.prog 26 1 (cL TRecipient.pc) (okL TRecipient.ok) (bkL TRecipient.bk) := opens_L op_api_Recipient rfl ty_s_api_Recipient.u (by kernel_rfl)
def TEnvelope.ok (x : TEnvelope) : Prop := okStr x.From ∧ (okL TRecipient.ok) x.To ∧ okStr x.Id
def TEnvelope.bk (x : TEnvelope) : Nat := (fun s => s.length + 1) x.From + (bkL TRecipient.bk) x.To + (fun s => s.length + 1) x.Id + 1
instance : Inhabited TEnvelope := ⟨⟨default, default, default⟩⟩
theorem op_api_Envelope : Opens Tryz.prog 28 3 TEnvelope.pc TEnvelope.ok TEnvelope.bk := ⟨by kernel_rfl, fun _ => rfl, fun {H enc W fuel cs d} h => by
  obtain ⟨xs, n, _, rfl, hl, hlen, hf⟩ := DataW.trod_struct ty_api_Envelope.u h
  have hl2 : cs.length = 3 := hl.trans (by kernel_rfl)
  match xs, hlen with
  | [y0, y1, y2], _ =>
    obtain ⟨x0, r0, o0, b0⟩ := op_string.op (show _ = some y0 from hf 0 _ rfl)
    replace r0 : RelC W _ (List.take (Tryz.prog.cellsOf 9) (List.drop 0 cs)) := r0
    rw [op_string.cells] at r0
    obtain ⟨x1, r1, o1, b1⟩ := op_s_api_Recipient.op (show _ = some y1 from hf 1 _ rfl)
    replace r1 : RelC W _ (List.take (Tryz.prog.cellsOf 26) (List.drop 1 cs)) := r1
    rw [op_s_api_Recipient.cells] at r1
    obtain ⟨x2, r2, o2, b2⟩ := op_string.op (show _ = some y2 from hf 2 _ rfl)
    replace r2 : RelC W _ (List.take (Tryz.prog.cellsOf 9) (List.drop 2 cs)) := r2
    rw [op_string.cells] at r2
    exact ⟨⟨x0, x1, x2⟩, (relC_seg (off := 0) rfl r0 (relC_seg (off := 1) rfl r1 (relC_seg (off := 2) rfl r2 (relC_end hl2)))), ⟨o0, o1, o2⟩, by simp only [List.map, Rows.uptoBulk, Rows.uptoBulkAll, TEnvelope.bk]; omega⟩⟩
def TField.ok (x : TField) : Prop := okStr x.Name ∧ okStr x.Value
def TField.bk (x : TField) : Nat := (fun s => s.length + 1) x.Name + (fun s => s.length + 1) x.Value + 1
instance : Inhabited TField := ⟨⟨default, default⟩⟩
theorem op_api_Field : Opens Tryz.prog 87 2 TField.pc TField.ok TField.bk := ⟨by kernel_rfl, fun _ => rfl, fun {H enc W fuel cs d} h => by
  obtain ⟨xs, n, _, rfl, hl, hlen, hf⟩ := DataW.trod_struct ty_api_Field.u h
  have hl2 : cs.length = 2 := hl.trans (by kernel_rfl)
  match xs, hlen with
  | [y0, y1], _ =>
    obtain ⟨x0, r0, o0, b0⟩ := op_string.op (show _ = some y0 from hf 0 _ rfl)
    replace r0 : RelC W _ (List.take (Tryz.prog.cellsOf 9) (List.drop 0 cs)) := r0
    rw [op_string.cells] at r0
    obtain ⟨x1, r1, o1, b1⟩ := op_string.op (show _ = some y1 from hf 1 _ rfl)
    replace r1 : RelC W _ (List.take (Tryz.prog.cellsOf 9) (List.drop 1 cs)) := r1
    rw [op_string.cells] at r1
    exact ⟨⟨x0, x1⟩, (relC_seg (off := 0) rfl r0 (relC_seg (off := 1) rfl r1 (relC_end hl2))), ⟨o0, o1⟩, by simp only [List.map, Rows.uptoBulk, Rows.uptoBulkAll, TField.bk]; omega⟩⟩
theorem op_s_api_Field : Opens Tryz.prog 29 1 (cL TField.pc) (okL TField.ok) (bkL TField.bk) := opens_L op_api_Field rfl ty_s_api_Field.u (by kernel_rfl)
theorem op_uint8 : Opens Tryz.prog 5 1 cU (fun _ => True) (fun _ => 1) := opens_U ty_uint8.u (by kernel_rfl)
theorem op_s_uint8 : Opens Tryz.prog 30 1 (cL cU) (okL (fun _ => True)) (bkL (fun _ => 1)) := opens_L op_uint8 rfl ty_s_uint8.u (by kernel_rfl)
def TMessage.ok (x : TMessage) : Prop := (okL TField.ok) x.Fields ∧ (okL (fun _ => True)) x.Body
def TMessage.bk (x : TMessage) : Nat := (bkL TField.bk) x.Fields + (bkL (fun _ => 1)) x.Body + 1
instance : Inhabited TMessage := ⟨⟨default, default⟩⟩
theorem op_api_Message : Opens Tryz.prog 32 2 TMessage.pc TMessage.ok TMessage.bk := ⟨by kernel_rfl, fun _ => rfl, fun {H enc W fuel cs d} h => by
  obtain ⟨xs, n, _, rfl, hl, hlen, hf⟩ := DataW.trod_struct ty_api_Message.u h
  have hl2 : cs.length = 2 := hl.trans (by kernel_rfl)
  match xs, hlen with
  | [y0, y1], _ =>
    obtain ⟨x0, r0, o0, b0⟩ := op_s_api_Field.op (show _ = some y0 from hf 0 _ rfl)
    replace r0 : RelC W _ (List.take (Tryz.prog.cellsOf 29) (List.drop 0 cs)) := r0
    rw [op_s_api_Field.cells] at r0
    obtain ⟨x1, r1, o1, b1⟩ := op_s_uint8.op (show _ = some y1 from hf 1 _ rfl)
    replace r1 : RelC W _ (List.take (Tryz.prog.cellsOf 30) (List.drop 1 cs)) := r1
    rw [op_s_uint8.cells] at r1
    exact ⟨⟨x0, x1⟩, (relC_seg (off := 0) rfl r0 (relC_seg (off := 1) rfl r1 (relC_end hl2))), ⟨o0, o1⟩, by simp only [List.map, Rows.uptoBulk, Rows.uptoBulkAll, TMessage.bk]; omega⟩⟩
def TMail.ok (x : TMail) : Prop := TEnvelope.ok x.Envelope ∧ TMessage.ok x.Message
def TMail.bk (x : TMail) : Nat := TEnvelope.bk x.Envelope + TMessage.bk x.Message + 1
instance : Inhabited TMail := ⟨⟨default, default⟩⟩
theorem op_api_Mail : Opens Tryz.prog 34 5 TMail.pc TMail.ok TMail.bk := ⟨by kernel_rfl, fun _ => rfl, fun {H enc W fuel cs d} h => by
  obtain ⟨xs, n, _, rfl, hl, hlen, hf⟩ := DataW.trod_struct ty_api_Mail.u h
  have hl2 : cs.length = 5 := hl.trans (by kernel_rfl)
  match xs, hlen with
  | [y0, y1], _ =>
    obtain ⟨x0, r0, o0, b0⟩ := op_api_Envelope.op (show _ = some y0 from hf 0 _ rfl)
    replace r0 : RelC W _ (List.take (Tryz.prog.cellsOf 28) (List.drop 0 cs)) := r0
    rw [op_api_Envelope.cells] at r0
    obtain ⟨x1, r1, o1, b1⟩ := op_api_Message.op (show _ = some y1 from hf 1 _ rfl)
    replace r1 : RelC W _ (List.take (Tryz.prog.cellsOf 32) (List.drop 3 cs)) := r1
    rw [op_api_Message.cells] at r1
    exact ⟨⟨x0, x1⟩, (relC_seg (off := 0) rfl r0 (relC_seg (off := 3) rfl r1 (relC_end hl2))), ⟨o0, o1⟩, by simp only [List.map, Rows.uptoBulk, Rows.uptoBulkAll, TMail.bk]; omega⟩⟩
def THeld.ok (x : THeld) : Prop := ok64 x.Number ∧ TMail.ok x.Mail
def THeld.bk (x : THeld) : Nat := (fun _ => 1) x.Number + TMail.bk x.Mail + 1
instance : Inhabited THeld := ⟨⟨default, default⟩⟩
theorem op_api_Held : Opens Tryz.prog 65 6 THeld.pc THeld.ok THeld.bk := ⟨by kernel_rfl, fun _ => rfl, fun {H enc W fuel cs d} h => by
  obtain ⟨xs, n, _, rfl, hl, hlen, hf⟩ := DataW.trod_struct ty_api_Held.u h
  have hl2 : cs.length = 6 := hl.trans (by kernel_rfl)
  match xs, hlen with
  | [y0, y1], _ =>
    obtain ⟨x0, r0, o0, b0⟩ := op_int.op (show _ = some y0 from hf 0 _ rfl)
    replace r0 : RelC W _ (List.take (Tryz.prog.cellsOf 3) (List.drop 0 cs)) := r0
    rw [op_int.cells] at r0
    obtain ⟨x1, r1, o1, b1⟩ := op_api_Mail.op (show _ = some y1 from hf 1 _ rfl)
    replace r1 : RelC W _ (List.take (Tryz.prog.cellsOf 34) (List.drop 1 cs)) := r1
    rw [op_api_Mail.cells] at r1
    exact ⟨⟨x0, x1⟩, (relC_seg (off := 0) rfl r0 (relC_seg (off := 1) rfl r1 (relC_end hl2))), ⟨o0, o1⟩, by simp only [List.map, Rows.uptoBulk, Rows.uptoBulkAll, THeld.bk]; omega⟩⟩
theorem op_s_api_Held : Opens Tryz.prog 23 1 (cL THeld.pc) (okL THeld.ok) (bkL THeld.bk) := opens_L op_api_Held rfl ty_s_api_Held.u (by kernel_rfl)
def TList.ok (x : TList) : Prop := okStr x.Address ∧ okStr x.Owner ∧ (fun _ => True) x.Open ∧ (okL okStr) x.Subscribers ∧ (okL okStr) x.Moderators ∧ (okL THeld.ok) x.Held ∧ ok64 x.Next
def TList.bk (x : TList) : Nat := (fun s => s.length + 1) x.Address + (fun s => s.length + 1) x.Owner + (fun _ => 1) x.Open + (bkL (fun s => s.length + 1)) x.Subscribers + (bkL (fun s => s.length + 1)) x.Moderators + (bkL THeld.bk) x.Held + (fun _ => 1) x.Next + 1
instance : Inhabited TList := ⟨⟨default, default, default, default, default, default, default⟩⟩
theorem op_api_List : Opens Tryz.prog 25 7 TList.pc TList.ok TList.bk := ⟨by kernel_rfl, fun _ => rfl, fun {H enc W fuel cs d} h => by
  obtain ⟨xs, n, _, rfl, hl, hlen, hf⟩ := DataW.trod_struct ty_api_List.u h
  have hl2 : cs.length = 7 := hl.trans (by kernel_rfl)
  match xs, hlen with
  | [y0, y1, y2, y3, y4, y5, y6], _ =>
    obtain ⟨x0, r0, o0, b0⟩ := op_string.op (show _ = some y0 from hf 0 _ rfl)
    replace r0 : RelC W _ (List.take (Tryz.prog.cellsOf 9) (List.drop 0 cs)) := r0
    rw [op_string.cells] at r0
    obtain ⟨x1, r1, o1, b1⟩ := op_string.op (show _ = some y1 from hf 1 _ rfl)
    replace r1 : RelC W _ (List.take (Tryz.prog.cellsOf 9) (List.drop 1 cs)) := r1
    rw [op_string.cells] at r1
    obtain ⟨x2, r2, o2, b2⟩ := op_bool.op (show _ = some y2 from hf 2 _ rfl)
    replace r2 : RelC W _ (List.take (Tryz.prog.cellsOf 4) (List.drop 2 cs)) := r2
    rw [op_bool.cells] at r2
    obtain ⟨x3, r3, o3, b3⟩ := op_s_string.op (show _ = some y3 from hf 3 _ rfl)
    replace r3 : RelC W _ (List.take (Tryz.prog.cellsOf 22) (List.drop 3 cs)) := r3
    rw [op_s_string.cells] at r3
    obtain ⟨x4, r4, o4, b4⟩ := op_s_string.op (show _ = some y4 from hf 4 _ rfl)
    replace r4 : RelC W _ (List.take (Tryz.prog.cellsOf 22) (List.drop 4 cs)) := r4
    rw [op_s_string.cells] at r4
    obtain ⟨x5, r5, o5, b5⟩ := op_s_api_Held.op (show _ = some y5 from hf 5 _ rfl)
    replace r5 : RelC W _ (List.take (Tryz.prog.cellsOf 23) (List.drop 5 cs)) := r5
    rw [op_s_api_Held.cells] at r5
    obtain ⟨x6, r6, o6, b6⟩ := op_int.op (show _ = some y6 from hf 6 _ rfl)
    replace r6 : RelC W _ (List.take (Tryz.prog.cellsOf 3) (List.drop 6 cs)) := r6
    rw [op_int.cells] at r6
    exact ⟨⟨x0, x1, x2, x3, x4, x5, x6⟩, (relC_seg (off := 0) rfl r0 (relC_seg (off := 1) rfl r1 (relC_seg (off := 2) rfl r2 (relC_seg (off := 3) rfl r3 (relC_seg (off := 4) rfl r4 (relC_seg (off := 5) rfl r5 (relC_seg (off := 6) rfl r6 (relC_end hl2)))))))), ⟨o0, o1, o2, o3, o4, o5, o6⟩, by simp only [List.map, Rows.uptoBulk, Rows.uptoBulkAll, TList.bk]; omega⟩⟩
end Go.Proofs.YtkoijpogjobgjaaGreat

/- Functions of the program as Lean functions: what they compute. Written by program. -/
namespace Go.Proofs.YtkoijpogjobgjaaGreat
open Go.RowKit
set_option maxRecDepth 100000
set_option maxHeartbeats 40000000
set_option linter.unusedVariables false
def R_In (a0 : Int) (a1 : Int) (a2 : Int) : Option Bool :=
  ((bif decide (a1 ≤ a0) then some (decide (a0 ≤ a2)) else some false) : Option Bool).bind fun (j1 : Bool) => some j1
def R_At (a0 : Int) (a1 : Int) : Option TFault :=
  some ((TFault.mk a0 a1))
def R_Has_l1 (a0 : List Str) (a1 : Str) (s1 : Int) : Option (Step Int (Unit ⊕ Bool)) :=
  (bif decide (s1 < (a0.length : Int)) then (idx a0 s1).bind fun v7 => (bif (v7 == a1) then some (.out (.inr true)) else some (.cont (w64 (s1 + 1)))) else some (.out (.inl (()))))
noncomputable def R_Has (a0 : List Str) (a1 : Str) : Option Bool :=
  (iter (R_Has_l1 a0 a1) 0).bind (Sum.elim (fun b2 => some false) (fun b3 => some b3))
def R_letterOrDigit (a0 : UInt8) : Option Bool :=
  ((R_In ((a0.toNat : Int)) 97 122).bind fun v2 => (bif v2 then some true else (R_In ((a0.toNat : Int)) 65 90).bind fun v5 => (bif v5 then some true else (R_In ((a0.toNat : Int)) 48 57).bind fun v8 => some v8)) : Option Bool).bind fun (j1 : Bool) => some j1
def R_sign_l1 (a0 : Str) (s1 : Int) : Option (Step Int (Unit ⊕ Int)) :=
  (bif decide (s1 < (a0.length : Int)) then (idx a0 s1).bind fun v7 => (bif ((v7.toNat : Int) == 64) then some (.out (.inr s1)) else some (.cont (w64 (s1 + 1)))) else some (.out (.inl (()))))
noncomputable def R_sign (a0 : Str) : Option Int :=
  (iter (R_sign_l1 a0) 0).bind (Sum.elim (fun b2 => some ((a0.length : Int))) (fun b3 => some b3))
def R_DomainOk_l1 (a0 : Str) (s1 : Int) : Option (Step Int (Unit ⊕ Bool)) :=
  (bif decide (s1 < (a0.length : Int)) then (idx a0 s1).bind fun v7 => ((idx a0 s1).bind fun v10 => (bif ((v10.toNat : Int) == 46) then (bif (s1 == 0) then some true else (bif (s1 == (w64 ((a0.length : Int) - 1))) then some true else (idx a0 ((w64 (s1 - 1)))).bind fun v15 => some (((v15.toNat : Int) == 46)))) else some false) : Option Bool).bind fun (j9 : Bool) => (bif j9 then some (.out (.inr false)) else ((R_In ((v7.toNat : Int)) 97 122).bind fun v19 => (bif (!v19) then (R_In ((v7.toNat : Int)) 48 57).bind fun v22 => (bif (!v22) then (idx a0 s1).bind fun v25 => (bif ((v25.toNat : Int) != 45) then (idx a0 s1).bind fun v28 => some (((v28.toNat : Int) != 46)) else some false) else some false) else some false) : Option Bool).bind fun (j18 : Bool) => (bif j18 then some (.out (.inr false)) else some (.cont (w64 (s1 + 1))))) else some (.out (.inl (()))))
noncomputable def R_DomainOk (a0 : Str) : Option Bool :=
  (iter (R_DomainOk_l1 a0) 0).bind (Sum.elim (fun b2 => (R_In ((a0.length : Int)) 1 60).bind fun v31 => some v31) (fun b3 => some b3))
def R_AddressOk_l1 (a0 : Str) (v1 : Int) (s3 : Int) : Option (Step Int (Unit ⊕ Bool)) :=
  (bif decide (s3 < v1) then (idx a0 s3).bind fun v9 => ((R_letterOrDigit v9).bind fun v12 => (bif (!v12) then (bif ((v9.toNat : Int) != 45) then (bif ((v9.toNat : Int) != 95) then (bif ((v9.toNat : Int) != 46) then (bif ((v9.toNat : Int) != 43) then some (((v9.toNat : Int) != 61)) else some false) else some false) else some false) else some false) else some false) : Option Bool).bind fun (j11 : Bool) => (bif j11 then some (.out (.inr false)) else some (.cont (w64 (s3 + 1)))) else some (.out (.inl (()))))
noncomputable def R_AddressOk (a0 : Str) : Option Bool :=
  (R_sign a0).bind fun v1 => (iter (R_AddressOk_l1 a0 v1) 0).bind (Sum.elim (fun b4 => ((R_In v1 1 60).bind fun v21 => (bif v21 then (bif decide (v1 < (a0.length : Int)) then (cut a0 ((w64 (v1 + 1))) ((a0.length : Int))).bind fun v25 => (R_DomainOk v25).bind fun v27 => some v27 else some false) else some false) : Option Bool).bind fun (j20 : Bool) => some j20) (fun b5 => some b5))
def basic_Fault (a0 : Int) (a1 : Int) : Option TFault :=
  some ((TFault.mk a0 a1))
def basic_None  : Option TFault :=
  some ((TFault.mk 0 0))
def basic_Failed (a0 : TFault) : Option Bool :=
  some ((a0.Code != 0))
def basic_Letter (a0 : UInt8) : Option Bool :=
  ((bif decide (97 ≤ (a0.toNat : Int)) then (bif decide ((a0.toNat : Int) ≤ 122) then some true else (bif decide (65 ≤ (a0.toNat : Int)) then (bif decide ((a0.toNat : Int) ≤ 90) then some true else (bif decide (48 ≤ (a0.toNat : Int)) then some (decide ((a0.toNat : Int) ≤ 57)) else some false)) else (bif decide (48 ≤ (a0.toNat : Int)) then some (decide ((a0.toNat : Int) ≤ 57)) else some false))) else (bif decide (65 ≤ (a0.toNat : Int)) then (bif decide ((a0.toNat : Int) ≤ 90) then some true else (bif decide (48 ≤ (a0.toNat : Int)) then some (decide ((a0.toNat : Int) ≤ 57)) else some false)) else (bif decide (48 ≤ (a0.toNat : Int)) then some (decide ((a0.toNat : Int) ≤ 57)) else some false))) : Option Bool).bind fun (j1 : Bool) => some j1
def R_Strings_l1 (a0 : List Str) (a1 : List Str) (s2 : Int) : Option (Step Int (Unit ⊕ Bool)) :=
  (bif decide (s2 < (a0.length : Int)) then (idx a0 s2).bind fun v8 => (idx a1 s2).bind fun v10 => (bif (v8 != v10) then some (.out (.inr false)) else some (.cont (w64 (s2 + 1)))) else some (.out (.inl (()))))
noncomputable def R_Strings (a0 : List Str) (a1 : List Str) : Option Bool :=
  (bif ((a0.length : Int) != (a1.length : Int)) then some false else (iter (R_Strings_l1 a0 a1) 0).bind (Sum.elim (fun b3 => some true) (fun b4 => some b4)))
end Go.Proofs.YtkoijpogjobgjaaGreat

/- Library functions as Lean functions. -/
namespace Go.Proofs.YtkoijpogjobgjaaGreat
open Go.RowKit
def strings_IndexByte (s : Str) (c : UInt8) : Option Int := some (Lib.indexByte s c)
def strings_Contains (s t : Str) : Option Bool := if s.length < 4294967281 then some (Lib.contains s t) else none
def strings_Cut (s t : Str) : Option (Str × Str × Bool) := if s.length < 4294967281 then some (Lib.cut s t) else none
end Go.Proofs.YtkoijpogjobgjaaGreat

/- Functions of the program as Lean functions: what they compute. Written by program. -/
namespace Go.Proofs.YtkoijpogjobgjaaGreat
open Go.RowKit
set_option maxRecDepth 100000
set_option maxHeartbeats 40000000
set_option linter.unusedVariables false
def unicode_utf8_ValidRune (a0 : Int) : Option Bool :=
  ((bif decide (0 ≤ a0) then some (decide (a0 < 55296)) else some false) : Option Bool).bind fun (j1 : Bool) => (bif j1 then some true else ((bif decide (57343 < a0) then some (decide (a0 ≤ 1114111)) else some false) : Option Bool).bind fun (j4 : Bool) => (bif j4 then some true else some false))
def strings_IndexRune_l1 (a0 : Str) (s7 : Nat) : Option (Step Nat (Unit ⊕ Int)) :=
  (bif decide (s7 < a0.length) then (bif ((runeAt a0 s7) == 65533) then some (.out (.inr (((s7 : Nat) : Int)))) else some (.cont (s7 + wideAt a0 s7))) else some (.out (.inl (()))))
def strings_IndexRune_l4 (a0 : Str) (a1 : Int) (j23 : Int × Int) (s36 : Int) : Option (Step Int Unit) :=
  (bif decide (s36 < (((runeS a1)).length : Int)) then (idx a0 ((w64 (j23.2 - s36)))).bind fun v40 => (idx ((runeS a1)) ((w64 (j23.1 - s36)))).bind fun v42 => (bif ((v40.toNat : Int) != (v42.toNat : Int)) then none else some (.cont (w64 (s36 + 1)))) else some (.out (())))
noncomputable def strings_IndexRune_k3 (a0 : Str) (a1 : Int) (j23 : Int × Int) : Option (Step Int (Unit ⊕ Int)) :=
  (iter (strings_IndexRune_l4 a0 a1 j23) 1).bind fun b37 => some (.out (.inr ((w64 (j23.2 - j23.1)))))
noncomputable def strings_IndexRune_l2 (a0 : Str) (a1 : Int) (s17 : Int) : Option (Step Int (Unit ⊕ Int)) :=
  (bif decide (s17 < (a0.length : Int)) then (idx a0 s17).bind fun v24 => (idx ((runeS a1)) ((w64 ((((runeS a1)).length : Int) - 1)))).bind fun v26 => (bif ((v24.toNat : Int) != (v26.toNat : Int)) then (cut a0 ((w64 (s17 + 1))) ((a0.length : Int))).bind fun v29 => (idx ((runeS a1)) ((w64 ((((runeS a1)).length : Int) - 1)))).bind fun v31 => (strings_IndexByte v29 v31).bind fun v33 => (bif decide (v33 < 0) then some (.out (.inr ((-1)))) else (strings_IndexRune_k3 a0 a1 ((w64 ((((runeS a1)).length : Int) - 1)), (w64 (s17 + (w64 (v33 + 1))))))) else (strings_IndexRune_k3 a0 a1 ((w64 ((((runeS a1)).length : Int) - 1)), s17))) else some (.out (.inl (()))))
noncomputable def strings_IndexRune (a0 : Str) (a1 : Int) : Option Int :=
  ((bif decide (0 ≤ a1) then some (decide (a1 < 128)) else some false) : Option Bool).bind fun (j1 : Bool) => (bif j1 then (strings_IndexByte a0 ((toU8 a1))).bind fun v4 => some v4 else (bif (a1 == 65533) then (iter (strings_IndexRune_l1 a0) 0).bind (Sum.elim (fun b8 => some ((-1))) (fun b9 => some b9)) else (unicode_utf8_ValidRune a1).bind fun v14 => (bif (!v14) then some ((-1)) else (iter (strings_IndexRune_l2 a0 a1) ((w64 ((((runeS a1)).length : Int) - 1)))).bind (Sum.elim (fun b18 => some ((-1))) (fun b19 => some b19)))))
def strings_shouldUseASCIISet (a0 : Int) : Option Bool :=
  some (decide (8 < a0))
noncomputable def strings_IndexAnyP_l1 (a0 : Str) (a1 : Str) (s12 : Nat) : Option (Step Nat (Unit ⊕ Int)) :=
  (bif decide (s12 < a0.length) then (strings_IndexRune a1 ((runeAt a0 s12))).bind fun v18 => (bif decide (0 ≤ v18) then some (.out (.inr (((s12 : Nat) : Int)))) else some (.cont (s12 + wideAt a0 s12))) else some (.out (.inl (()))))
noncomputable def strings_IndexAnyP (a0 : Str) (a1 : Str) : Option Int :=
  (bif (a1 == ([] : Str)) then some ((-1)) else (bif ((a1.length : Int) == 1) then (idx a1 0).bind fun v3 => ((bif decide (128 ≤ (v3.toNat : Int)) then some 65533 else some ((v3.toNat : Int))) : Option Int).bind fun (j5 : Int) => (strings_IndexRune a0 j5).bind fun v7 => some v7 else (strings_shouldUseASCIISet ((a0.length : Int))).bind fun v9 => (bif v9 then none else (iter (strings_IndexAnyP_l1 a0 a1) 0).bind (Sum.elim (fun b13 => some ((-1))) (fun b14 => some b14)))))
end Go.Proofs.YtkoijpogjobgjaaGreat

/- Library functions as Lean functions. -/
namespace Go.Proofs.YtkoijpogjobgjaaGreat
open Go.RowKit
def asciiL (t : Str) : Bool := t.all fun c => decide (c.toNat < 128)
def strings_IndexAny (s t : Str) : Option Int := if s.length < 4294967281 ∧ t.length < 4294967281 ∧ 2 ≤ t.length ∧ asciiL t = true then some (Lib.indexAny s t) else none
end Go.Proofs.YtkoijpogjobgjaaGreat

/- Functions of the program as Lean functions: what they compute. Written by program. -/
namespace Go.Proofs.YtkoijpogjobgjaaGreat
open Go.RowKit
set_option maxRecDepth 100000
set_option maxHeartbeats 40000000
set_option linter.unusedVariables false
end Go.Proofs.YtkoijpogjobgjaaGreat

/- Functions of the program as Lean functions: what they compute. Written by program. -/
namespace Go.Proofs.YtkoijpogjobgjaaGreat
open Go.RowKit
set_option maxRecDepth 100000
set_option maxHeartbeats 40000000
set_option linter.unusedVariables false
end Go.Proofs.YtkoijpogjobgjaaGreat

/- Functions of the program as Lean functions: what they compute. Written by program. -/
namespace Go.Proofs.YtkoijpogjobgjaaGreat
open Go.RowKit
set_option maxRecDepth 100000
set_option maxHeartbeats 40000000
set_option linter.unusedVariables false
end Go.Proofs.YtkoijpogjobgjaaGreat

/- Functions of the program as Lean functions: what they compute. Written by program. -/
namespace Go.Proofs.YtkoijpogjobgjaaGreat
open Go.RowKit
set_option maxRecDepth 100000
set_option maxHeartbeats 40000000
set_option linter.unusedVariables false
def internal_stringslite_HasPrefix (a0 : Str) (a1 : Str) : Option Bool :=
  ((bif decide ((a1.length : Int) ≤ (a0.length : Int)) then (cut a0 0 ((a1.length : Int))).bind fun v3 => some ((v3 == a1)) else some false) : Option Bool).bind fun (j1 : Bool) => some j1
def strings_HasPrefix (a0 : Str) (a1 : Str) : Option Bool :=
  (internal_stringslite_HasPrefix a0 a1).bind fun v1 => some v1
def internal_stringslite_HasSuffix (a0 : Str) (a1 : Str) : Option Bool :=
  ((bif decide ((a1.length : Int) ≤ (a0.length : Int)) then (cut a0 ((w64 ((a0.length : Int) - (a1.length : Int)))) ((a0.length : Int))).bind fun v3 => some ((v3 == a1)) else some false) : Option Bool).bind fun (j1 : Bool) => some j1
def strings_HasSuffix (a0 : Str) (a1 : Str) : Option Bool :=
  (internal_stringslite_HasSuffix a0 a1).bind fun v1 => some v1
def envelope_Domain_l1 (a0 : Str) (s5 : Int) : Option (Step Int (Unit ⊕ Unit)) :=
  (bif decide (s5 < (a0.length : Int)) then (idx a0 s5).bind fun v11 => ((bif decide (97 ≤ (v11.toNat : Int)) then (bif decide ((v11.toNat : Int) ≤ 122) then some true else (bif decide (48 ≤ (v11.toNat : Int)) then (bif decide ((v11.toNat : Int) ≤ 57) then some true else (bif ((v11.toNat : Int) == 45) then some true else some (((v11.toNat : Int) == 46)))) else (bif ((v11.toNat : Int) == 45) then some true else some (((v11.toNat : Int) == 46))))) else (bif decide (48 ≤ (v11.toNat : Int)) then (bif decide ((v11.toNat : Int) ≤ 57) then some true else (bif ((v11.toNat : Int) == 45) then some true else some (((v11.toNat : Int) == 46)))) else (bif ((v11.toNat : Int) == 45) then some true else some (((v11.toNat : Int) == 46))))) : Option Bool).bind fun (j13 : Bool) => (bif (!j13) then some (.out (.inr (()))) else some (.cont (w64 (s5 + 1)))) else some (.out (.inl (()))))
noncomputable def envelope_Domain (a0 : Str) : Option Bool :=
  ((bif (a0 != ([] : Str)) then (bif decide ((a0.length : Int) ≤ 60) then ((iter (envelope_Domain_l1 a0) 0).bind (Sum.elim (fun b6 => some true) (fun b7 => some false)) : Option Bool).bind fun (j4 : Bool) => (bif j4 then (strings_HasPrefix a0 (([46] : Str))).bind fun v26 => (bif (!v26) then (strings_HasSuffix a0 (([46] : Str))).bind fun v29 => (bif (!v29) then (strings_Contains a0 (([46, 46] : Str))).bind fun v32 => some ((!v32)) else some false) else some false) else some false) else some false) else some false) : Option Bool).bind fun (j1 : Bool) => some j1
def envelope_Split_l1 (v1 : Str × Str × Bool) (s8 : Int) : Option (Step Int (Unit ⊕ Unit)) :=
  (bif decide (s8 < (v1.1.length : Int)) then (idx v1.1 s8).bind fun v14 => ((basic_Letter v14).bind fun v17 => (bif v17 then some true else (strings_IndexByte (([45, 95, 46, 43, 61] : Str)) v14).bind fun v20 => some (decide (0 ≤ v20))) : Option Bool).bind fun (j16 : Bool) => (bif (!j16) then some (.out (.inr (()))) else some (.cont (w64 (s8 + 1)))) else some (.out (.inl (()))))
noncomputable def envelope_Split (a0 : Str) : Option (Str × Str × Bool) :=
  (strings_Cut a0 (([64] : Str))).bind fun v1 => ((bif v1.2.2 then (bif (v1.1 != ([] : Str)) then (bif decide ((v1.1.length : Int) ≤ 60) then ((iter (envelope_Split_l1 v1) 0).bind (Sum.elim (fun b9 => some true) (fun b10 => some false)) : Option Bool).bind fun (j7 : Bool) => (bif j7 then (envelope_Domain v1.2.1).bind fun v24 => some v24 else some false) else some false) else some false) else some false) : Option Bool).bind fun (j3 : Bool) => some ((v1.1, v1.2.1, j3))
noncomputable def envelope_Address (a0 : Str) : Option Bool :=
  (envelope_Split a0).bind fun v1 => some v1.2.2
end Go.Proofs.YtkoijpogjobgjaaGreat

/- Functions of the program as Lean functions: what they compute. Written by program. -/
namespace Go.Proofs.YtkoijpogjobgjaaGreat
open Go.RowKit
set_option maxRecDepth 100000
set_option maxHeartbeats 40000000
set_option linter.unusedVariables false
end Go.Proofs.YtkoijpogjobgjaaGreat

/- Functions of the program as Lean functions: what they compute. Written by program. -/
namespace Go.Proofs.YtkoijpogjobgjaaGreat
open Go.RowKit
set_option maxRecDepth 100000
set_option maxHeartbeats 40000000
set_option linter.unusedVariables false
def R_NameOk_l1 (a0 : Str) (s1 : Int) : Option (Step Int (Unit ⊕ Bool)) :=
  (bif decide (s1 < (a0.length : Int)) then ((idx a0 s1).bind fun v8 => (R_letterOrDigit v8).bind fun v10 => (bif (!v10) then (idx a0 s1).bind fun v13 => (bif ((v13.toNat : Int) != 45) then (idx a0 s1).bind fun v16 => (bif ((v16.toNat : Int) != 95) then (idx a0 s1).bind fun v19 => some (((v19.toNat : Int) != 46)) else some false) else some false) else some false) : Option Bool).bind fun (j7 : Bool) => (bif j7 then some (.out (.inr false)) else some (.cont (w64 (s1 + 1)))) else some (.out (.inl (()))))
noncomputable def R_NameOk (a0 : Str) : Option Bool :=
  (iter (R_NameOk_l1 a0) 0).bind (Sum.elim (fun b2 => (R_In ((a0.length : Int)) 1 60).bind fun v22 => some v22) (fun b3 => some b3))
def R_Known_l1 (a0 : List TRecipient) (a1 : Str) (s1 : Int) : Option (Step Int (Unit ⊕ Int)) :=
  (bif decide (s1 < (a0.length : Int)) then (idx a0 s1).bind fun v7 => (bif (v7.Address == a1) then some (.out (.inr s1)) else some (.cont (w64 (s1 + 1)))) else some (.out (.inl (()))))
noncomputable def R_Known (a0 : List TRecipient) (a1 : Str) : Option Int :=
  (iter (R_Known_l1 a0 a1) 0).bind (Sum.elim (fun b2 => some ((-1))) (fun b3 => some b3))
noncomputable def R_EnvelopeFault_l1 (a0 : TEnvelope) (s20 : Int) : Option (Step Int (Unit ⊕ TFault)) :=
  (bif decide (s20 < (a0.To.length : Int)) then (idx a0.To s20).bind fun v26 => (R_AddressOk v26.Address).bind fun v28 => (bif (!v28) then (R_At 10 s20).bind fun v31 => some (.out (.inr v31)) else (idx a0.To s20).bind fun v33 => (R_In v33.Notify 0 7).bind fun v35 => (bif (!v35) then (R_At 3 s20).bind fun v38 => some (.out (.inr v38)) else (cut a0.To 0 s20).bind fun v40 => (idx a0.To s20).bind fun v42 => (R_Known v40 v42.Address).bind fun v44 => (bif decide (0 ≤ v44) then (R_At 7 s20).bind fun v47 => some (.out (.inr v47)) else some (.cont (w64 (s20 + 1)))))) else some (.out (.inl (()))))
noncomputable def R_EnvelopeFault (a0 : TEnvelope) : Option TFault :=
  ((bif (a0.From != ([] : Str)) then (R_AddressOk a0.From).bind fun v3 => some ((!v3)) else some false) : Option Bool).bind fun (j1 : Bool) => (bif j1 then (R_At 10 ((-10))).bind fun v6 => some v6 else (R_In ((a0.To.length : Int)) 1 60).bind fun v8 => (bif (!v8) then (R_At 2 ((-11))).bind fun v11 => some v11 else ((bif (a0.Id != ([] : Str)) then (R_NameOk a0.Id).bind fun v15 => some ((!v15)) else some false) : Option Bool).bind fun (j13 : Bool) => (bif j13 then (R_At 10 ((-12))).bind fun v18 => some v18 else (iter (R_EnvelopeFault_l1 a0) 0).bind (Sum.elim (fun b21 => some ((TFault.mk 0 0))) (fun b22 => some b22)))))
def basic_Name_l1 (a0 : Str) (s5 : Int) : Option (Step Int (Unit ⊕ Unit)) :=
  (bif decide (s5 < (a0.length : Int)) then (idx a0 s5).bind fun v11 => ((basic_Letter v11).bind fun v14 => (bif v14 then some true else (bif ((v11.toNat : Int) == 45) then some true else (bif ((v11.toNat : Int) == 95) then some true else some (((v11.toNat : Int) == 46))))) : Option Bool).bind fun (j13 : Bool) => (bif (!j13) then some (.out (.inr (()))) else some (.cont (w64 (s5 + 1)))) else some (.out (.inl (()))))
noncomputable def basic_Name (a0 : Str) : Option Bool :=
  ((bif (a0 != ([] : Str)) then (bif decide ((a0.length : Int) ≤ 60) then ((iter (basic_Name_l1 a0) 0).bind (Sum.elim (fun b6 => some true) (fun b7 => some false)) : Option Bool).bind fun (j4 : Bool) => some j4 else some false) else some false) : Option Bool).bind fun (j1 : Bool) => some j1
def envelope_Notify (a0 : Int) : Option Bool :=
  ((bif decide (0 ≤ a0) then some (decide (a0 ≤ 7)) else some false) : Option Bool).bind fun (j1 : Bool) => some j1
def envelope_Recipients_l2 (v7 : TRecipient) (v19 : List TRecipient) (s22 : Int) : Option (Step Int (Unit ⊕ Int)) :=
  (bif decide (s22 < (v19.length : Int)) then (idx v19 s22).bind fun v28 => (bif (v28.Address == v7.Address) then some (.out (.inr s22)) else some (.cont (w64 (s22 + 1)))) else some (.out (.inl (()))))
noncomputable def envelope_Recipients_l1 (a0 : List TRecipient) (s1 : Int) : Option (Step Int (Unit ⊕ TFault)) :=
  (bif decide (s1 < (a0.length : Int)) then (idx a0 s1).bind fun v7 => (envelope_Address v7.Address).bind fun v9 => (bif (!v9) then (basic_Fault 10 s1).bind fun v12 => some (.out (.inr v12)) else (envelope_Notify v7.Notify).bind fun v14 => (bif (!v14) then (basic_Fault 3 s1).bind fun v17 => some (.out (.inr v17)) else (cut a0 0 s1).bind fun v19 => ((iter (envelope_Recipients_l2 v7 v19) 0).bind (Sum.elim (fun b23 => some ((-1))) (fun b24 => some b24)) : Option Int).bind fun (j21 : Int) => (bif decide (0 ≤ j21) then (basic_Fault 7 s1).bind fun v32 => some (.out (.inr v32)) else some (.cont (w64 (s1 + 1)))))) else some (.out (.inl (()))))
noncomputable def envelope_Recipients (a0 : List TRecipient) : Option TFault :=
  (iter (envelope_Recipients_l1 a0) 0).bind (Sum.elim (fun b2 => (basic_None).bind fun v34 => some v34) (fun b3 => some b3))
noncomputable def envelope_Validate (a0 : TEnvelope) : Option TFault :=
  ((bif (a0.From != ([] : Str)) then (envelope_Address a0.From).bind fun v3 => some ((!v3)) else some false) : Option Bool).bind fun (j1 : Bool) => (bif j1 then (basic_Fault 10 ((-10))).bind fun v6 => some v6 else ((bif decide ((a0.To.length : Int) < 1) then some true else some (decide (60 < (a0.To.length : Int)))) : Option Bool).bind fun (j8 : Bool) => (bif j8 then (basic_Fault 2 ((-11))).bind fun v11 => some v11 else ((bif (a0.Id != ([] : Str)) then (basic_Name a0.Id).bind fun v15 => some ((!v15)) else some false) : Option Bool).bind fun (j13 : Bool) => (bif j13 then (basic_Fault 10 ((-12))).bind fun v18 => some v18 else (envelope_Recipients a0.To).bind fun v20 => some v20)))
def slices_Index_string_string_l1 (a0 : List Str) (a1 : Str) (s1 : Int) : Option (Step Int (Unit ⊕ Int)) :=
  (bif decide (s1 < (a0.length : Int)) then (idx a0 s1).bind fun v7 => (bif (a1 == v7) then some (.out (.inr s1)) else some (.cont (w64 (s1 + 1)))) else some (.out (.inl (()))))
noncomputable def slices_Index_string_string (a0 : List Str) (a1 : Str) : Option Int :=
  (iter (slices_Index_string_string_l1 a0 a1) 0).bind (Sum.elim (fun b2 => some ((-1))) (fun b3 => some b3))
noncomputable def slices_Contains_string_string (a0 : List Str) (a1 : Str) : Option Bool :=
  (slices_Index_string_string a0 a1).bind fun v1 => some (decide (0 ≤ v1))
def R_SameRecipients_l1 (a0 : List TRecipient) (a1 : List TRecipient) (s2 : Int) : Option (Step Int (Unit ⊕ Bool)) :=
  (bif decide (s2 < (a0.length : Int)) then (idx a0 s2).bind fun v8 => (idx a1 s2).bind fun v10 => (bif (!(allEq [(v8.Address == v10.Address), (v8.Notify == v10.Notify)])) then some (.out (.inr false)) else some (.cont (w64 (s2 + 1)))) else some (.out (.inl (()))))
noncomputable def R_SameRecipients (a0 : List TRecipient) (a1 : List TRecipient) : Option Bool :=
  (bif ((a0.length : Int) != (a1.length : Int)) then some false else (iter (R_SameRecipients_l1 a0 a1) 0).bind (Sum.elim (fun b3 => some true) (fun b4 => some b4)))
end Go.Proofs.YtkoijpogjobgjaaGreat

/- Functions of the program as Lean functions: what they compute. Written by program. -/
namespace Go.Proofs.YtkoijpogjobgjaaGreat
open Go.RowKit
set_option maxRecDepth 100000
set_option maxHeartbeats 40000000
set_option linter.unusedVariables false
def strings_ContainsAny (a0 : Str) (a1 : Str) : Option Bool :=
  (strings_IndexAny a0 a1).bind fun v1 => some (decide (0 ≤ v1))
def fold_name_l1 (a0 : Str) (s5 : Int) : Option (Step Int (Unit ⊕ Unit)) :=
  (bif decide (s5 < (a0.length : Int)) then (idx a0 s5).bind fun v11 => ((bif decide (33 ≤ (v11.toNat : Int)) then (bif decide ((v11.toNat : Int) ≤ 126) then some (((v11.toNat : Int) != 58)) else some false) else some false) : Option Bool).bind fun (j13 : Bool) => (bif (!j13) then some (.out (.inr (()))) else some (.cont (w64 (s5 + 1)))) else some (.out (.inl (()))))
noncomputable def fold_name (a0 : Str) : Option Bool :=
  ((bif (a0 != ([] : Str)) then (bif decide ((a0.length : Int) ≤ 60) then ((iter (fold_name_l1 a0) 0).bind (Sum.elim (fun b6 => some true) (fun b7 => some false)) : Option Bool).bind fun (j4 : Bool) => some j4 else some false) else some false) : Option Bool).bind fun (j1 : Bool) => some j1
def fold_ends (a0 : Str) : Option Bool :=
  (strings_ContainsAny a0 (([13, 10, 0] : Str))).bind fun v1 => some v1
def basic_Blank (a0 : UInt8) : Option Bool :=
  ((bif ((a0.toNat : Int) == 32) then some true else some (((a0.toNat : Int) == 9))) : Option Bool).bind fun (j1 : Bool) => some j1
def fold_value (a0 : Str) : Option Bool :=
  ((fold_ends a0).bind fun v2 => (bif (!v2) then (bif (a0 == ([] : Str)) then some true else (idx a0 0).bind fun v6 => (basic_Blank v6).bind fun v8 => (bif (!v8) then (idx a0 ((w64 ((a0.length : Int) - 1)))).bind fun v11 => (basic_Blank v11).bind fun v13 => some ((!v13)) else some false)) else some false) : Option Bool).bind fun (j1 : Bool) => some j1
def fold_point_k2 (s1 : Int × Int) (j5 : Int) : Option (Step (Int × Int) Int) :=
  some (.cont (j5, (w64 (s1.2 + 1))))
def fold_point_l1 (a0 : Str) (s1 : Int × Int) : Option (Step (Int × Int) Int) :=
  (bif decide (s1.2 < (a0.length : Int)) then ((idx a0 s1.2).bind fun v7 => (basic_Blank v7).bind fun v9 => (bif (!v9) then some true else (idx a0 ((w64 (s1.2 - 1)))).bind fun v12 => (basic_Blank v12).bind fun v14 => some v14) : Option Bool).bind fun (j6 : Bool) => (bif j6 then (fold_point_k2 s1 s1.1) else ((bif decide (0 < s1.1) then some (decide (78 < s1.2)) else some false) : Option Bool).bind fun (j17 : Bool) => (bif j17 then some (.out s1.1) else (fold_point_k2 s1 s1.2))) else some (.out s1.1))
noncomputable def fold_point (a0 : Str) (a1 : Int) : Option Int :=
  (iter (fold_point_l1 a0) ((0, (max a1 1)))).bind fun b2 => some b2
noncomputable def fold_Fold_l1  (s18 : Str × Int × (List Str)) : Option (Step (Str × Int × (List Str)) (Str × (List Str))) :=
  (bif decide (78 < (s18.1.length : Int)) then (fold_point s18.1 s18.2.1).bind fun v22 => (bif (v22 == 0) then some (.out ((s18.1, s18.2.2))) else (cut s18.1 0 v22).bind fun v25 => (app 8796093022208 s18.2.2 (([v25] : List Str))).bind fun v27 => (cut s18.1 v22 ((s18.1.length : Int))).bind fun v29 => some (.cont (v29, 0, v27))) else some (.out ((s18.1, s18.2.2))))
def fold_Fold_l2 (v31 : List Str) (s34 : Int) : Option (Step Int (Unit ⊕ ((List Str) × TFault))) :=
  (bif decide (s34 < (v31.length : Int)) then (idx v31 s34).bind fun v40 => (bif decide (998 < (v40.length : Int)) then (basic_Fault 1 s34).bind fun v43 => some (.out (.inr (([], v43)))) else some (.cont (w64 (s34 + 1)))) else some (.out (.inl (()))))
noncomputable def fold_Fold (a0 : Str) (a1 : Str) : Option ((List Str) × TFault) :=
  (fold_name a0).bind fun v1 => (bif (!v1) then (basic_Fault 10 ((-1))).bind fun v4 => some (([], v4)) else (bif decide (4000 < (a1.length : Int)) then (basic_Fault 1 ((-1))).bind fun v7 => some (([], v7)) else (fold_value a1).bind fun v9 => (bif (!v9) then (basic_Fault 11 ((-1))).bind fun v12 => some (([], v12)) else (cat a0 (([58, 32] : Str))).bind fun v14 => (cat v14 a1).bind fun v16 => (iter (fold_Fold_l1) ((v16, (w64 ((a0.length : Int) + 2)), ([] : List Str)))).bind fun b19 => (app 8796093022208 b19.2 (([b19.1] : List Str))).bind fun v31 => (iter (fold_Fold_l2 v31) 0).bind (Sum.elim (fun b35 => (basic_None).bind fun v45 => some ((v31, v45))) (fun b36 => some ((b36.1, b36.2)))))))
end Go.Proofs.YtkoijpogjobgjaaGreat

/- Functions of the program as Lean functions: what they compute. Written by program. -/
namespace Go.Proofs.YtkoijpogjobgjaaGreat
open Go.RowKit
set_option maxRecDepth 100000
set_option maxHeartbeats 40000000
set_option linter.unusedVariables false
noncomputable def header_Validate_l1 (a0 : List TField) (s4 : Int) : Option (Step Int (Unit ⊕ TFault)) :=
  (bif decide (s4 < (a0.length : Int)) then (idx a0 s4).bind fun v10 => (fold_Fold v10.Name v10.Value).bind fun v12 => (basic_Failed v12.2).bind fun v14 => (bif v14 then (basic_Fault v12.2.Code s4).bind fun v17 => some (.out (.inr v17)) else some (.cont (w64 (s4 + 1)))) else some (.out (.inl (()))))
noncomputable def header_Validate (a0 : List TField) : Option TFault :=
  (bif decide (60 < (a0.length : Int)) then (basic_Fault 2 ((-1))).bind fun v2 => some v2 else (iter (header_Validate_l1 a0) 0).bind (Sum.elim (fun b5 => (basic_None).bind fun v19 => some v19) (fun b6 => some b6)))
def message_write_l2 (v7 : (List Str) × TFault) (s9 : Int × (List UInt8)) : Option (Step (Int × (List UInt8)) (List UInt8)) :=
  (bif decide (s9.1 < (v7.1.length : Int)) then (idx v7.1 s9.1).bind fun v13 => (app 140737488355328 s9.2 v13).bind fun v15 => (app 140737488355328 v15 (([(13 : UInt8), (10 : UInt8)] : List UInt8))).bind fun v17 => some (.cont ((w64 (s9.1 + 1)), v17)) else some (.out s9.2))
noncomputable def message_write_l1 (a0 : TMessage) (s1 : Int × (List UInt8)) : Option (Step (Int × (List UInt8)) (List UInt8)) :=
  (bif decide (s1.1 < (a0.Fields.length : Int)) then (idx a0.Fields s1.1).bind fun v5 => (fold_Fold v5.Name v5.Value).bind fun v7 => (iter (message_write_l2 v7) ((0, s1.2))).bind fun b10 => some (.cont ((w64 (s1.1 + 1)), b10)) else some (.out s1.2))
noncomputable def message_write (a0 : TMessage) : Option (List UInt8) :=
  (iter (message_write_l1 a0) ((0, ([] : List UInt8)))).bind fun b2 => (app 140737488355328 b2 (([(13 : UInt8), (10 : UInt8)] : List UInt8))).bind fun v19 => (app 140737488355328 v19 a0.Body).bind fun v21 => some v21
def basic_Body_k2  (j7 : Int × Int) : Option (Step (Int × Int) (Unit ⊕ Int)) :=
  some (.cont (j7.1, (w64 (j7.2 + 1))))
def basic_Body_l1 (a0 : List UInt8) (s1 : Int × Int) : Option (Step (Int × Int) (Unit ⊕ Int)) :=
  (bif decide (s1.2 < (a0.length : Int)) then (idx a0 s1.2).bind fun v8 => ((bif ((v8.toNat : Int) == 13) then (bif decide ((w64 (s1.2 + 1)) < (a0.length : Int)) then (idx a0 ((w64 (s1.2 + 1)))).bind fun v13 => some (((v13.toNat : Int) == 10)) else some false) else some false) : Option Bool).bind fun (j10 : Bool) => (bif j10 then (basic_Body_k2  (0, (w64 (s1.2 + 1)))) else ((bif ((v8.toNat : Int) == 13) then some true else some (((v8.toNat : Int) == 10))) : Option Bool).bind fun (j16 : Bool) => (bif j16 then some (.out (.inr 11)) else (bif decide (998 < (w64 (s1.1 + 1))) then some (.out (.inr 1)) else (basic_Body_k2  ((w64 (s1.1 + 1)), s1.2))))) else some (.out (.inl (()))))
noncomputable def basic_Body (a0 : List UInt8) : Option Int :=
  (iter (basic_Body_l1 a0) ((0, 0))).bind (Sum.elim (fun b2 => some 0) (fun b3 => some b3))
noncomputable def message_body (a0 : List UInt8) : Option TFault :=
  (basic_Body a0).bind fun v1 => (bif (v1 == 11) then (basic_Fault 11 ((-5))).bind fun v4 => some v4 else (bif (v1 == 1) then (basic_Fault 1 ((-6))).bind fun v7 => some v7 else (basic_None).bind fun v9 => some v9))
noncomputable def message_Validate (a0 : TMessage) : Option TFault :=
  (header_Validate a0.Fields).bind fun v1 => (basic_Failed v1).bind fun v3 => (bif v3 then some v1 else (message_write a0).bind fun v6 => (bif decide (12000 < (v6.length : Int)) then (basic_Fault 1 ((-4))).bind fun v9 => some v9 else (message_body a0.Body).bind fun v11 => some v11))
noncomputable def envelope_Check (a0 : TMail) : Option TFault :=
  (envelope_Validate a0.Envelope).bind fun v1 => (basic_Failed v1).bind fun v3 => (bif v3 then some v1 else (message_Validate a0.Message).bind fun v6 => (basic_Failed v6).bind fun v8 => (bif v8 then (basic_Fault v6.Code ((-30))).bind fun v11 => some v11 else (basic_None).bind fun v13 => some v13))
def R_blank (a0 : UInt8) : Option Bool :=
  ((bif ((a0.toNat : Int) == 32) then some true else some (((a0.toNat : Int) == 9))) : Option Bool).bind fun (j1 : Bool) => some j1
def R_FieldLines_l2 (s5 : Str × Int × (List Str)) (s9 : Int × Int) : Option (Step (Int × Int) Int) :=
  ((bif decide (0 < s9.2) then some ((s9.1 == 0)) else some false) : Option Bool).bind fun (j12 : Bool) => (bif j12 then (((bif decide (s5.2.1 ≤ s9.2) then (idx s5.1 s9.2).bind fun v18 => (R_blank v18).bind fun v20 => (bif v20 then (idx s5.1 ((w64 (s9.2 - 1)))).bind fun v23 => (R_blank v23).bind fun v25 => some ((!v25)) else some false) else some false) : Option Bool).bind fun (j16 : Bool) => (bif j16 then some s9.2 else some s9.1) : Option Int).bind fun (j15 : Int) => some (.cont (j15, (w64 (s9.2 - 1)))) else some (.out s9.1))
def R_FieldLines_l3 (s5 : Str × Int × (List Str)) (s28 : Int × Int) : Option (Step (Int × Int) Int) :=
  ((bif decide (s28.2 < (s5.1.length : Int)) then some ((s28.1 == 0)) else some false) : Option Bool).bind fun (j31 : Bool) => (bif j31 then (((bif decide (s5.2.1 ≤ s28.2) then (idx s5.1 s28.2).bind fun v37 => (R_blank v37).bind fun v39 => (bif v39 then (idx s5.1 ((w64 (s28.2 - 1)))).bind fun v42 => (R_blank v42).bind fun v44 => some ((!v44)) else some false) else some false) : Option Bool).bind fun (j35 : Bool) => (bif j35 then some s28.2 else some s28.1) : Option Int).bind fun (j34 : Int) => some (.cont (j34, (w64 (s28.2 + 1)))) else some (.out s28.1))
noncomputable def R_FieldLines_l1  (s5 : Str × Int × (List Str)) : Option (Step (Str × Int × (List Str)) (Str × (List Str))) :=
  (bif decide (78 < (s5.1.length : Int)) then (iter (R_FieldLines_l2 s5) ((0, 78))).bind fun b10 => (iter (R_FieldLines_l3 s5) ((b10, 79))).bind fun b29 => (bif (b29 == 0) then some (.out ((s5.1, s5.2.2))) else (cut s5.1 0 b29).bind fun v48 => (app 8796093022208 s5.2.2 (([v48] : List Str))).bind fun v50 => (cut s5.1 b29 ((s5.1.length : Int))).bind fun v52 => some (.cont (v52, 1, v50))) else some (.out ((s5.1, s5.2.2))))
noncomputable def R_FieldLines (a0 : Str) (a1 : Str) : Option (List Str) :=
  (cat a0 (([58, 32] : Str))).bind fun v1 => (cat v1 a1).bind fun v3 => (iter (R_FieldLines_l1) ((v3, (w64 ((a0.length : Int) + 2)), ([] : List Str)))).bind fun b6 => (app 8796093022208 b6.2 (([b6.1] : List Str))).bind fun v54 => some v54
def R_FieldCode_l1 (a0 : TField) (s1 : Int) : Option (Step Int (Unit ⊕ Int)) :=
  (bif decide (s1 < (a0.Name.length : Int)) then ((idx a0.Name s1).bind fun v8 => (R_In ((v8.toNat : Int)) 33 126).bind fun v10 => (bif (!v10) then some true else (idx a0.Name s1).bind fun v13 => some (((v13.toNat : Int) == 58))) : Option Bool).bind fun (j7 : Bool) => (bif j7 then some (.out (.inr 10)) else some (.cont (w64 (s1 + 1)))) else some (.out (.inl (()))))
def R_FieldCode_l2 (a0 : TField) (s20 : Int) : Option (Step Int (Unit ⊕ Int)) :=
  (bif decide (s20 < (a0.Value.length : Int)) then ((idx a0.Value s20).bind fun v27 => (bif ((v27.toNat : Int) == 0) then some true else (idx a0.Value s20).bind fun v30 => (bif ((v30.toNat : Int) == 10) then some true else (idx a0.Value s20).bind fun v33 => some (((v33.toNat : Int) == 13)))) : Option Bool).bind fun (j26 : Bool) => (bif j26 then some (.out (.inr 11)) else some (.cont (w64 (s20 + 1)))) else some (.out (.inl (()))))
def R_FieldCode_l3 (v48 : List Str) (s50 : Int) : Option (Step Int (Unit ⊕ Int)) :=
  (bif decide (s50 < (v48.length : Int)) then (idx v48 s50).bind fun v56 => (bif decide (998 < (v56.length : Int)) then some (.out (.inr 1)) else some (.cont (w64 (s50 + 1)))) else some (.out (.inl (()))))
noncomputable def R_FieldCode (a0 : TField) : Option Int :=
  (iter (R_FieldCode_l1 a0) 0).bind (Sum.elim (fun b2 => (R_In ((a0.Name.length : Int)) 1 60).bind fun v16 => (bif (!v16) then some 10 else (bif decide (4000 < (a0.Value.length : Int)) then some 1 else (iter (R_FieldCode_l2 a0) 0).bind (Sum.elim (fun b21 => ((bif decide (0 < (a0.Value.length : Int)) then (idx a0.Value 0).bind fun v38 => (R_blank v38).bind fun v40 => (bif v40 then some true else (idx a0.Value ((w64 ((a0.Value.length : Int) - 1)))).bind fun v43 => (R_blank v43).bind fun v45 => some v45) else some false) : Option Bool).bind fun (j36 : Bool) => (bif j36 then some 11 else (R_FieldLines a0.Name a0.Value).bind fun v48 => (iter (R_FieldCode_l3 v48) 0).bind (Sum.elim (fun b51 => some 0) (fun b52 => some b52)))) (fun b22 => some b22))))) (fun b3 => some b3))
def R_MessageBytes_l2 (v9 : List Str) (s11 : Int × (List UInt8)) : Option (Step (Int × (List UInt8)) (List UInt8)) :=
  (bif decide (s11.1 < (v9.length : Int)) then (idx v9 s11.1).bind fun v15 => (app 140737488355328 s11.2 v15).bind fun v17 => (app 140737488355328 v17 (([(13 : UInt8), (10 : UInt8)] : List UInt8))).bind fun v19 => some (.cont ((w64 (s11.1 + 1)), v19)) else some (.out s11.2))
noncomputable def R_MessageBytes_l1 (a0 : TMessage) (s1 : Int × (List UInt8)) : Option (Step (Int × (List UInt8)) (List UInt8)) :=
  (bif decide (s1.1 < (a0.Fields.length : Int)) then (idx a0.Fields s1.1).bind fun v5 => (idx a0.Fields s1.1).bind fun v7 => (R_FieldLines v5.Name v7.Value).bind fun v9 => (iter (R_MessageBytes_l2 v9) ((0, s1.2))).bind fun b12 => some (.cont ((w64 (s1.1 + 1)), b12)) else some (.out s1.2))
noncomputable def R_MessageBytes (a0 : TMessage) : Option (List UInt8) :=
  (iter (R_MessageBytes_l1 a0) ((0, ([] : List UInt8)))).bind fun b2 => (app 140737488355328 b2 (([(13 : UInt8), (10 : UInt8)] : List UInt8))).bind fun v21 => (app 140737488355328 v21 a0.Body).bind fun v23 => some v23
noncomputable def R_MessageFault_l1 (a0 : TMessage) (s4 : Int) : Option (Step Int (Unit ⊕ TFault)) :=
  (bif decide (s4 < (a0.Fields.length : Int)) then (idx a0.Fields s4).bind fun v10 => (R_FieldCode v10).bind fun v12 => (bif (v12 != 0) then (R_At v12 s4).bind fun v15 => some (.out (.inr v15)) else some (.cont (w64 (s4 + 1)))) else some (.out (.inl (()))))
def R_MessageFault_k3  (j30 : Int × Int) : Option (Step (Int × Int) (Unit ⊕ TFault)) :=
  some (.cont (j30.1, (w64 (j30.2 + 1))))
def R_MessageFault_l2 (a0 : TMessage) (s24 : Int × Int) : Option (Step (Int × Int) (Unit ⊕ TFault)) :=
  (bif decide (s24.2 < (a0.Body.length : Int)) then (idx a0.Body s24.2).bind fun v31 => ((bif ((v31.toNat : Int) == 13) then (bif decide ((w64 (s24.2 + 1)) < (a0.Body.length : Int)) then (idx a0.Body ((w64 (s24.2 + 1)))).bind fun v36 => some (((v36.toNat : Int) == 10)) else some false) else some false) : Option Bool).bind fun (j33 : Bool) => (bif j33 then (R_MessageFault_k3  (0, (w64 (s24.2 + 1)))) else ((bif ((v31.toNat : Int) == 13) then some true else some (((v31.toNat : Int) == 10))) : Option Bool).bind fun (j39 : Bool) => (bif j39 then (R_At 11 ((-5))).bind fun v42 => some (.out (.inr v42)) else (bif decide (998 < (w64 (s24.1 + 1))) then (R_At 1 ((-6))).bind fun v45 => some (.out (.inr v45)) else (R_MessageFault_k3  ((w64 (s24.1 + 1)), s24.2))))) else some (.out (.inl (()))))
noncomputable def R_MessageFault (a0 : TMessage) : Option TFault :=
  (bif decide (60 < (a0.Fields.length : Int)) then (R_At 2 ((-1))).bind fun v2 => some v2 else (iter (R_MessageFault_l1 a0) 0).bind (Sum.elim (fun b5 => ((bif decide (12000 < (a0.Body.length : Int)) then some true else (R_MessageBytes a0).bind fun v19 => some (decide (12000 < (v19.length : Int)))) : Option Bool).bind fun (j17 : Bool) => (bif j17 then (R_At 1 ((-4))).bind fun v22 => some v22 else (iter (R_MessageFault_l2 a0) ((0, 0))).bind (Sum.elim (fun b25 => some ((TFault.mk 0 0))) (fun b26 => some b26)))) (fun b6 => some b6)))
noncomputable def R_MailFault (a0 : TMail) : Option TFault :=
  (R_EnvelopeFault a0.Envelope).bind fun v1 => (((bif (v1.Code == 0) then (R_MessageFault a0.Message).bind fun v6 => some ((v6.Code != 0)) else some false) : Option Bool).bind fun (j4 : Bool) => (bif j4 then (R_MessageFault a0.Message).bind fun v9 => (R_At v9.Code ((-30))).bind fun v11 => some ((v11.Code, v11.Index)) else some ((v1.Code, v1.Index))) : Option (Int × Int)).bind fun (j3 : Int × Int) => some ((TFault.mk j3.1 j3.2))
end Go.Proofs.YtkoijpogjobgjaaGreat

/- Functions of the program as Lean functions: what they compute. Written by program. -/
namespace Go.Proofs.YtkoijpogjobgjaaGreat
open Go.RowKit
set_option maxRecDepth 100000
set_option maxHeartbeats 40000000
set_option linter.unusedVariables false
noncomputable def header_name (a0 : Str) : Option Bool :=
  (fold_Fold a0 (([] : Str))).bind fun v1 => (basic_Failed v1.2).bind fun v3 => some ((!v3))
noncomputable def header_valid (a0 : List TField) (a1 : Str) : Option TFault :=
  (header_Validate a0).bind fun v1 => (basic_Failed v1).bind fun v3 => (bif v3 then some v1 else (header_name a1).bind fun v6 => (bif (!v6) then (basic_Fault 10 ((-3))).bind fun v9 => some v9 else (basic_None).bind fun v11 => some v11))
def basic_Lower_l1 (a0 : Str) (s1 : Int × (List UInt8)) : Option (Step (Int × (List UInt8)) (List UInt8)) :=
  (bif decide (s1.1 < (a0.length : Int)) then ((idx s1.2 s1.1).bind fun v6 => (idx s1.2 s1.1).bind fun v8 => ((bif decide (65 ≤ (v8.toNat : Int)) then some (decide ((v8.toNat : Int) ≤ 90)) else some false) : Option Bool).bind fun (j10 : Bool) => (bif j10 then (idx s1.2 s1.1).bind fun v13 => (idx s1.2 s1.1).bind fun v15 => some ((List.set s1.2 (Int.toNat s1.1) (((v8 + (97 : UInt8)) - (65 : UInt8))))) else some s1.2) : Option (List UInt8)).bind fun (j5 : List UInt8) => some (.cont ((w64 (s1.1 + 1)), j5)) else some (.out s1.2))
noncomputable def basic_Lower (a0 : Str) : Option Str :=
  (iter (basic_Lower_l1 a0) ((0, a0))).bind fun b2 => some b2
noncomputable def basic_Same (a0 : Str) (a1 : Str) : Option Bool :=
  ((bif ((a0.length : Int) == (a1.length : Int)) then (basic_Lower a0).bind fun v3 => (basic_Lower a1).bind fun v5 => some ((v3 == v5)) else some false) : Option Bool).bind fun (j1 : Bool) => some j1
noncomputable def header_Get_l1 (a0 : List TField) (a1 : Str) (s6 : Int × (List Str)) : Option (Step (Int × (List Str)) (List Str)) :=
  (bif decide (s6.1 < (a0.length : Int)) then ((idx a0 s6.1).bind fun v11 => (basic_Same v11.Name a1).bind fun v13 => (bif v13 then (app 8796093022208 s6.2 (([v11.Value] : List Str))).bind fun v16 => some v16 else some s6.2) : Option (List Str)).bind fun (j10 : List Str) => some (.cont ((w64 (s6.1 + 1)), j10)) else some (.out s6.2))
noncomputable def header_Get (a0 : List TField) (a1 : Str) : Option ((List Str) × TFault) :=
  (header_valid a0 a1).bind fun v1 => (basic_Failed v1).bind fun v3 => (bif v3 then some (([], v1)) else (iter (header_Get_l1 a0 a1) ((0, ([] : List Str)))).bind fun b7 => (basic_None).bind fun v18 => some ((b7, v18)))
def slices_Concat_api_Field_api_Field_l1 (a0 : List (List TField)) (s1 : Int × Int) : Option (Step (Int × Int) Int) :=
  (bif decide (s1.2 < (a0.length : Int)) then (idx a0 s1.2).bind fun v5 => (bif decide ((w64 (s1.1 + (v5.length : Int))) < 0) then none else some (.cont ((w64 (s1.1 + (v5.length : Int))), (w64 (s1.2 + 1))))) else some (.out s1.1))
def slices_Concat_api_Field_api_Field_l2 (a0 : List (List TField)) (s14 : Int × (List TField)) : Option (Step (Int × (List TField)) (List TField)) :=
  (bif decide (s14.1 < (a0.length : Int)) then (idx a0 s14.1).bind fun v18 => (app 4398046511104 s14.2 v18).bind fun v20 => some (.cont ((w64 (s14.1 + 1)), v20)) else some (.out s14.2))
def slices_Concat_api_Field_api_Field_l3 (a0 : List (List TField)) (s22 : Int × (List TField)) : Option (Step (Int × (List TField)) (List TField)) :=
  (bif decide (s22.1 < (a0.length : Int)) then (idx a0 s22.1).bind fun v26 => (app 4398046511104 s22.2 v26).bind fun v28 => some (.cont ((w64 (s22.1 + 1)), v28)) else some (.out s22.2))
noncomputable def slices_Concat_api_Field_api_Field (a0 : List (List TField)) : Option (List TField) :=
  (iter (slices_Concat_api_Field_api_Field_l1 a0) ((0, 0))).bind fun b2 => (bif decide (b2 < 0) then none else (bif decide (0 < (w64 (b2 - (w64 (0 - 0))))) then (zrep 4398046511104 ((w64 (b2 - (w64 (0 - 0))))) ((TField.mk (([] : Str)) (([] : Str))) : TField)).bind fun v10 => (cut v10 0 0).bind fun v12 => (iter (slices_Concat_api_Field_api_Field_l2 a0) ((0, v12))).bind fun b15 => some b15 else (iter (slices_Concat_api_Field_api_Field_l3 a0) ((0, ([] : List TField)))).bind fun b23 => some b23))
noncomputable def trace_Front (a0 : TMessage) (a1 : Str) (a2 : Str) : Option TMessage :=
  (slices_Concat_api_Field_api_Field (([([(TField.mk a1 a2)] : List TField), a0.Fields] : List (List TField)))).bind fun v1 => ((nilE a0.Body.isEmpty (some ([])) ((app 140737488355328 ([] : List UInt8) a0.Body).bind fun v5 => some v5)) : Option (List UInt8)).bind fun (j3 : List UInt8) => some ((TMessage.mk v1 j3))
def L_plain_l1 (a0 : List Str) (s1 : Int × (List TRecipient)) : Option (Step (Int × (List TRecipient)) (List TRecipient)) :=
  (bif decide (s1.1 < (a0.length : Int)) then (idx a0 s1.1).bind fun v5 => (app 5864062014805 s1.2 (([(TRecipient.mk v5 1)] : List TRecipient))).bind fun v7 => some (.cont ((w64 (s1.1 + 1)), v7)) else some (.out s1.2))
noncomputable def L_plain (a0 : List Str) : Option TMail :=
  (iter (L_plain_l1 a0) ((0, ([] : List TRecipient)))).bind fun b2 => some ((TMail.mk ((TEnvelope.mk (([115, 64, 120] : Str)) b2 (([55] : Str)))) ((TMessage.mk ([]) ([])))))
def R_SameMessage_l1 (a0 : TMessage) (a1 : TMessage) (s4 : Int) : Option (Step Int (Unit ⊕ Bool)) :=
  (bif decide (s4 < (a0.Fields.length : Int)) then (idx a0.Fields s4).bind fun v10 => (idx a1.Fields s4).bind fun v12 => (bif (!(allEq [(v10.Name == v12.Name), (v10.Value == v12.Value)])) then some (.out (.inr false)) else some (.cont (w64 (s4 + 1)))) else some (.out (.inl (()))))
noncomputable def R_SameMessage (a0 : TMessage) (a1 : TMessage) : Option Bool :=
  ((bif ((a0.Fields.length : Int) != (a1.Fields.length : Int)) then some true else some ((a0.Body != a1.Body))) : Option Bool).bind fun (j1 : Bool) => (bif j1 then some false else (iter (R_SameMessage_l1 a0 a1) 0).bind (Sum.elim (fun b5 => some true) (fun b6 => some b6)))
end Go.Proofs.YtkoijpogjobgjaaGreat

/- Functions of the program as Lean functions: what they compute. Written by program. -/
namespace Go.Proofs.YtkoijpogjobgjaaGreat
open Go.RowKit
set_option maxRecDepth 100000
set_option maxHeartbeats 40000000
set_option linter.unusedVariables false
def R_SameMail_l1 (a0 : TMail) (a1 : TMail) (s5 : Int) : Option (Step Int (Unit ⊕ Bool)) :=
  (bif decide (s5 < (a0.Envelope.To.length : Int)) then (idx a0.Envelope.To s5).bind fun v11 => (idx a1.Envelope.To s5).bind fun v13 => (bif (!(allEq [(v11.Address == v13.Address), (v11.Notify == v13.Notify)])) then some (.out (.inr false)) else some (.cont (w64 (s5 + 1)))) else some (.out (.inl (()))))
noncomputable def R_SameMail (a0 : TMail) (a1 : TMail) : Option Bool :=
  ((bif (a0.Envelope.From != a1.Envelope.From) then some true else (bif (a0.Envelope.Id != a1.Envelope.Id) then some true else some (((a0.Envelope.To.length : Int) != (a1.Envelope.To.length : Int))))) : Option Bool).bind fun (j1 : Bool) => (bif j1 then some false else (iter (R_SameMail_l1 a0 a1) 0).bind (Sum.elim (fun b6 => (R_SameMessage a0.Message a1.Message).bind fun v16 => some v16) (fun b7 => some b7)))
end Go.Proofs.YtkoijpogjobgjaaGreat

/- Functions of the program as Lean functions: what they compute. Written by program. -/
namespace Go.Proofs.YtkoijpogjobgjaaGreat
open Go.RowKit
set_option maxRecDepth 100000
set_option maxHeartbeats 40000000
set_option linter.unusedVariables false
end Go.Proofs.YtkoijpogjobgjaaGreat

/- Functions of the program as Lean functions: what they compute. Written by program. -/
namespace Go.Proofs.YtkoijpogjobgjaaGreat
open Go.RowKit
set_option maxRecDepth 100000
set_option maxHeartbeats 40000000
set_option linter.unusedVariables false
noncomputable def slices_Clone_api_Field_api_Field (a0 : List TField) : Option (List TField) :=
  (nilE a0.isEmpty (some ([])) ((app 4398046511104 ([] : List TField) a0).bind fun v2 => some v2))
noncomputable def queue_CopyMail (a0 : TMail) : Option TMail :=
  ((nilE a0.Envelope.To.isEmpty (some ([])) ((app 5864062014805 ([] : List TRecipient) a0.Envelope.To).bind fun v3 => some v3)) : Option (List TRecipient)).bind fun (j1 : List TRecipient) => (slices_Clone_api_Field_api_Field a0.Message.Fields).bind fun v5 => ((nilE a0.Message.Body.isEmpty (some ([])) ((app 140737488355328 ([] : List UInt8) a0.Message.Body).bind fun v9 => some v9)) : Option (List UInt8)).bind fun (j7 : List UInt8) => some ((TMail.mk ((TEnvelope.mk a0.Envelope.From j1 a0.Envelope.Id)) ((TMessage.mk v5 j7))))
noncomputable def lists_people_l1 (a0 : List Str) (a1 : Int) (s4 : Int) : Option (Step Int (Unit ⊕ TFault)) :=
  (bif decide (s4 < (a0.length : Int)) then (idx a0 s4).bind fun v10 => (envelope_Address v10).bind fun v12 => (bif (!v12) then (basic_Fault 10 ((w64 (a1 + s4)))).bind fun v15 => some (.out (.inr v15)) else (cut a0 0 s4).bind fun v17 => (slices_Contains_string_string v17 v10).bind fun v19 => (bif v19 then (basic_Fault 7 ((w64 (a1 + s4)))).bind fun v22 => some (.out (.inr v22)) else some (.cont (w64 (s4 + 1))))) else some (.out (.inl (()))))
noncomputable def lists_people (a0 : List Str) (a1 : Int) : Option TFault :=
  (bif decide (60 < (a0.length : Int)) then (basic_Fault 2 ((-12))).bind fun v2 => some v2 else (iter (lists_people_l1 a0 a1) 0).bind (Sum.elim (fun b5 => (basic_None).bind fun v24 => some v24) (fun b6 => some b6)))
noncomputable def lists_held_l1 (a0 : TList) (s9 : Int × Int) : Option (Step (Int × Int) (Unit ⊕ TFault)) :=
  (bif decide (s9.2 < (a0.Held.length : Int)) then (idx a0.Held s9.2).bind fun v15 => ((bif decide (v15.Number ≤ s9.1) then some true else some (decide (a0.Next ≤ v15.Number))) : Option Bool).bind fun (j17 : Bool) => (bif j17 then (basic_Fault 19 ((w64 (200 + s9.2)))).bind fun v20 => some (.out (.inr v20)) else (envelope_Check v15.Mail).bind fun v22 => (basic_Failed v22).bind fun v24 => (bif v24 then (basic_Fault v22.Code ((w64 (200 + s9.2)))).bind fun v27 => some (.out (.inr v27)) else some (.cont (v15.Number, (w64 (s9.2 + 1)))))) else some (.out (.inl (()))))
noncomputable def lists_held (a0 : TList) : Option TFault :=
  (bif decide (20 < (a0.Held.length : Int)) then (basic_Fault 2 ((-13))).bind fun v2 => some v2 else ((bif decide (a0.Next < 0) then some true else some (decide (1000000 < a0.Next))) : Option Bool).bind fun (j4 : Bool) => (bif j4 then (basic_Fault 3 ((-14))).bind fun v7 => some v7 else (iter (lists_held_l1 a0) (((-1), 0))).bind (Sum.elim (fun b10 => (basic_None).bind fun v29 => some v29) (fun b11 => some b11))))
noncomputable def lists_Validate (a0 : TList) : Option TFault :=
  (envelope_Address a0.Address).bind fun v1 => (bif (!v1) then (basic_Fault 10 ((-10))).bind fun v4 => some v4 else (envelope_Address a0.Owner).bind fun v6 => (bif (!v6) then (basic_Fault 10 ((-11))).bind fun v9 => some v9 else (lists_people a0.Subscribers 0).bind fun v11 => (basic_Failed v11).bind fun v13 => (bif v13 then some v11 else (lists_people a0.Moderators 100).bind fun v16 => (basic_Failed v16).bind fun v18 => (bif v18 then some v16 else (lists_held a0).bind fun v21 => some v21))))
noncomputable def slices_Clone_string_string (a0 : List Str) : Option (List Str) :=
  (nilE a0.isEmpty (some ([])) ((app 8796093022208 ([] : List Str) a0).bind fun v2 => some v2))
noncomputable def slices_Clone_api_Held_api_Held (a0 : List THeld) : Option (List THeld) :=
  (nilE a0.isEmpty (some ([])) ((app 1256584717458 ([] : List THeld) a0).bind fun v2 => some v2))
def lists_mail_l1 (a2 : List Str) (s6 : Int × (List TRecipient)) : Option (Step (Int × (List TRecipient)) (List TRecipient)) :=
  (bif decide (s6.1 < (a2.length : Int)) then (idx a2 s6.1).bind fun v10 => (app 5864062014805 s6.2 (([(TRecipient.mk v10 0)] : List TRecipient))).bind fun v12 => some (.cont ((w64 (s6.1 + 1)), v12)) else some (.out s6.2))
noncomputable def lists_mail (a0 : TList) (a1 : TMail) (a2 : List Str) (a3 : Str) : Option ((List TMail) × TFault) :=
  (bif ((a2.length : Int) == 0) then (basic_None).bind fun v2 => some (([], v2)) else (trace_Front a1.Message a3 a0.Address).bind fun v4 => (iter (lists_mail_l1 a2) ((0, ([] : List TRecipient)))).bind fun b7 => (message_Validate v4).bind fun v14 => (basic_Failed v14).bind fun v16 => (bif v16 then (basic_Fault v14.Code ((-17))).bind fun v19 => some (([], v19)) else (basic_None).bind fun v21 => some ((([(TMail.mk ((TEnvelope.mk a0.Owner b7 a1.Envelope.Id)) v4)] : List TMail), v21))))
def lists_distribute_l1 (a1 : TMail) (j1 : List Str) (s7 : Int) : Option (Step Int (Unit ⊕ Int)) :=
  (bif decide (s7 < (j1.length : Int)) then (idx j1 s7).bind fun v13 => (idx j1 s7).bind fun v15 => (bif (v15 == a1.Envelope.From) then some (.out (.inr s7)) else some (.cont (w64 (s7 + 1)))) else some (.out (.inl (()))))
def lists_distribute_l2 (a1 : TMail) (s19 : Int × Int × (List Str)) : Option (Step (Int × Int × (List Str)) (Int × (List Str))) :=
  (bif decide (s19.2.1 < (s19.2.2.length : Int)) then ((idx s19.2.2 s19.2.1).bind fun v24 => (idx s19.2.2 s19.2.1).bind fun v26 => (bif (!((v26 == a1.Envelope.From))) then (idx s19.2.2 s19.1).bind fun v29 => (idx s19.2.2 s19.1).bind fun v31 => some (((w64 (s19.1 + 1)), (List.set s19.2.2 (Int.toNat s19.1) v26))) else some ((s19.1, s19.2.2))) : Option (Int × (List Str))).bind fun (j23 : Int × (List Str)) => some (.cont (j23.1, (w64 (s19.2.1 + 1)), j23.2)) else some (.out ((s19.1, s19.2.2))))
noncomputable def lists_distribute (a0 : TList) (a1 : TMail) : Option ((List TMail) × TFault) :=
  ((nilE a0.Subscribers.isEmpty (some (([] : List Str))) ((app 8796093022208 ([] : List Str) a0.Subscribers).bind fun v3 => some v3)) : Option (List Str)).bind fun (j1 : List Str) => (((iter (lists_distribute_l1 a1 j1) 0).bind (Sum.elim (fun b8 => some ((-1))) (fun b9 => some b9)) : Option Int).bind fun (j6 : Int) => (bif (j6 == (-1)) then some j1 else (iter (lists_distribute_l2 a1) ((j6, (w64 (j6 + 1)), j1))).bind fun b20 => (cut b20.2 b20.1 (b20.2.length : Int)).bind fun v33 => (cut ((clr0 b20.2 (Int.toNat b20.1) (([] : Str)))) 0 b20.1).bind fun v35 => some v35) : Option (List Str)).bind fun (j5 : List Str) => (lists_mail a0 a1 j5 (([76, 105, 115, 116, 45, 73, 100] : Str))).bind fun v37 => some ((v37.1, v37.2))
noncomputable def lists_Post_l1 (v45 : List THeld) (s47 : Int × (List THeld)) : Option (Step (Int × (List THeld)) (List THeld)) :=
  (bif decide (s47.1 < (v45.length : Int)) then (idx s47.2 s47.1).bind fun v51 => (idx s47.2 s47.1).bind fun v53 => (queue_CopyMail v53.Mail).bind fun v55 => (idx s47.2 s47.1).bind fun v57 => (idx s47.2 s47.1).bind fun v59 => some (.cont ((w64 (s47.1 + 1)), (List.set s47.2 (Int.toNat s47.1) ((THeld.mk v59.Number v55))))) else some (.out s47.2))
noncomputable def lists_Post (a0 : TList) (a1 : TMail) : Option (TList × (List TMail) × TFault) :=
  (lists_Validate a0).bind fun v1 => (basic_Failed v1).bind fun v3 => (bif v3 then some (((TList.mk (([] : Str)) (([] : Str)) false ([]) ([]) ([]) 0), [], v1)) else (envelope_Check a1).bind fun v6 => (basic_Failed v6).bind fun v8 => (bif v8 then (basic_Fault v6.Code ((-6))).bind fun v11 => some (((TList.mk (([] : Str)) (([] : Str)) false ([]) ([]) ([]) 0), [], v11)) else (header_Get a1.Message.Fields (([76, 105, 115, 116, 45, 73, 100] : Str))).bind fun v13 => ((bif a0.Open then some true else (slices_Contains_string_string a0.Subscribers a1.Envelope.From).bind fun v17 => (bif v17 then some true else (slices_Contains_string_string a0.Moderators a1.Envelope.From).bind fun v20 => some v20)) : Option Bool).bind fun (j15 : Bool) => (bif (a1.Envelope.From == ([] : Str)) then (basic_Fault 8 ((-15))).bind fun v23 => some (((TList.mk (([] : Str)) (([] : Str)) false ([]) ([]) ([]) 0), [], v23)) else (slices_Contains_string_string v13.1 a0.Address).bind fun v25 => (bif v25 then (basic_Fault 14 ((-16))).bind fun v28 => some (((TList.mk (([] : Str)) (([] : Str)) false ([]) ([]) ([]) 0), [], v28)) else ((bif (!j15) then some (((a0.Moderators.length : Int) == 0)) else some false) : Option Bool).bind fun (j30 : Bool) => (bif j30 then (basic_Fault 17 ((-18))).bind fun v33 => some (((TList.mk (([] : Str)) (([] : Str)) false ([]) ([]) ([]) 0), [], v33)) else ((bif (!j15) then (bif ((a0.Held.length : Int) == 20) then some true else some ((a0.Next == 1000000))) else some false) : Option Bool).bind fun (j35 : Bool) => (bif j35 then (basic_Fault 2 ((-13))).bind fun v39 => some (((TList.mk (([] : Str)) (([] : Str)) false ([]) ([]) ([]) 0), [], v39)) else (slices_Clone_string_string a0.Subscribers).bind fun v41 => (slices_Clone_string_string a0.Moderators).bind fun v43 => (slices_Clone_api_Held_api_Held a0.Held).bind fun v45 => (iter (lists_Post_l1 v45) ((0, v45))).bind fun b48 => (bif j15 then (lists_distribute ((TList.mk a0.Address a0.Owner a0.Open v41 v43 b48 a0.Next)) a1).bind fun v62 => (basic_Failed v62.2).bind fun v64 => (bif v64 then some (((TList.mk (([] : Str)) (([] : Str)) false ([]) ([]) ([]) 0), [], v62.2)) else some (((TList.mk a0.Address a0.Owner a0.Open v41 v43 b48 a0.Next), v62.1, v62.2))) else (lists_mail ((TList.mk a0.Address a0.Owner a0.Open v41 v43 b48 a0.Next)) a1 v43 (([76, 105, 115, 116, 45, 72, 101, 108, 100] : Str))).bind fun v67 => (basic_Failed v67.2).bind fun v69 => (bif v69 then some (((TList.mk (([] : Str)) (([] : Str)) false ([]) ([]) ([]) 0), [], v67.2)) else (queue_CopyMail a1).bind fun v72 => (app 1256584717458 b48 (([(THeld.mk a0.Next v72)] : List THeld))).bind fun v74 => some (((TList.mk a0.Address a0.Owner a0.Open v41 v43 v74 ((w64 (a0.Next + 1)))), v67.1, v67.2))))))))))
def lists_find_l1 (a0 : TList) (a2 : Int) (s12 : Int) : Option (Step Int (Unit ⊕ Int)) :=
  (bif decide (s12 < (a0.Held.length : Int)) then (idx a0.Held s12).bind fun v18 => (bif (v18.Number == a2) then some (.out (.inr s12)) else some (.cont (w64 (s12 + 1)))) else some (.out (.inl (()))))
noncomputable def lists_find (a0 : TList) (a1 : Str) (a2 : Int) : Option (Int × TFault) :=
  (lists_Validate a0).bind fun v1 => (basic_Failed v1).bind fun v3 => (bif v3 then some ((0, v1)) else (slices_Contains_string_string a0.Moderators a1).bind fun v6 => (bif (!v6) then (basic_Fault 17 ((-19))).bind fun v9 => some ((0, v9)) else ((iter (lists_find_l1 a0 a2) 0).bind (Sum.elim (fun b13 => some ((-1))) (fun b14 => some b14)) : Option Int).bind fun (j11 : Int) => (bif decide (j11 < 0) then (basic_Fault 6 ((-20))).bind fun v22 => some ((0, v22)) else (basic_None).bind fun v24 => some ((j11, v24)))))
noncomputable def lists_Approve_l1 (v17 : List THeld) (s19 : Int × (List THeld)) : Option (Step (Int × (List THeld)) (List THeld)) :=
  (bif decide (s19.1 < (v17.length : Int)) then (idx s19.2 s19.1).bind fun v23 => (idx s19.2 s19.1).bind fun v25 => (queue_CopyMail v25.Mail).bind fun v27 => (idx s19.2 s19.1).bind fun v29 => (idx s19.2 s19.1).bind fun v31 => some (.cont ((w64 (s19.1 + 1)), (List.set s19.2 (Int.toNat s19.1) ((THeld.mk v31.Number v27))))) else some (.out s19.2))
noncomputable def lists_Approve (a0 : TList) (a1 : Str) (a2 : Int) : Option (TList × (List TMail) × TFault) :=
  (lists_find a0 a1 a2).bind fun v1 => (basic_Failed v1.2).bind fun v3 => (bif v3 then some (((TList.mk (([] : Str)) (([] : Str)) false ([]) ([]) ([]) 0), [], v1.2)) else (idx a0.Held v1.1).bind fun v6 => (lists_distribute a0 v6.Mail).bind fun v8 => (basic_Failed v8.2).bind fun v10 => (bif v10 then some (((TList.mk (([] : Str)) (([] : Str)) false ([]) ([]) ([]) 0), [], v8.2)) else (slices_Clone_string_string a0.Subscribers).bind fun v13 => (slices_Clone_string_string a0.Moderators).bind fun v15 => (slices_Clone_api_Held_api_Held a0.Held).bind fun v17 => (iter (lists_Approve_l1 v17) ((0, v17))).bind fun b20 => ((cut3 b20 v1.1 ((w64 (v1.1 + 1))) ((b20.length : Int))).bind fun v34 => (bif (v1.1 == (w64 (v1.1 + 1))) then some b20 else (cut b20 0 v1.1).bind fun v37 => (cut b20 ((w64 (v1.1 + 1))) (b20.length : Int)).bind fun v39 => (shft b20 v1.1 ((w64 (v1.1 + 1)))).bind fun v41 => (endCut v41 (((((Int.toNat v1.1) + (b20.length - (Int.toNat ((w64 (v1.1 + 1)))))) : Nat) : Int)) ((b20.length : Int))).bind fun v43 => some ((List.take ((Int.toNat v1.1) + (b20.length - (Int.toNat ((w64 (v1.1 + 1)))))) ((clr0 v41 (Int.toNat (((((Int.toNat v1.1) + (b20.length - (Int.toNat ((w64 (v1.1 + 1)))))) : Nat) : Int))) ((THeld.mk 0 ((TMail.mk ((TEnvelope.mk (([] : Str)) ([]) (([] : Str)))) ((TMessage.mk ([]) ([])))))))))))) : Option (List THeld)).bind fun (j33 : List THeld) => some (((TList.mk a0.Address a0.Owner a0.Open v13 v15 j33 a0.Next), v8.1, v8.2))))
noncomputable def lists_Reject_l1 (v10 : List THeld) (s12 : Int × (List THeld)) : Option (Step (Int × (List THeld)) (List THeld)) :=
  (bif decide (s12.1 < (v10.length : Int)) then (idx s12.2 s12.1).bind fun v16 => (idx s12.2 s12.1).bind fun v18 => (queue_CopyMail v18.Mail).bind fun v20 => (idx s12.2 s12.1).bind fun v22 => (idx s12.2 s12.1).bind fun v24 => some (.cont ((w64 (s12.1 + 1)), (List.set s12.2 (Int.toNat s12.1) ((THeld.mk v24.Number v20))))) else some (.out s12.2))
noncomputable def lists_Reject (a0 : TList) (a1 : Str) (a2 : Int) : Option (TList × TFault) :=
  (lists_find a0 a1 a2).bind fun v1 => (basic_Failed v1.2).bind fun v3 => (bif v3 then some (((TList.mk (([] : Str)) (([] : Str)) false ([]) ([]) ([]) 0), v1.2)) else (slices_Clone_string_string a0.Subscribers).bind fun v6 => (slices_Clone_string_string a0.Moderators).bind fun v8 => (slices_Clone_api_Held_api_Held a0.Held).bind fun v10 => (iter (lists_Reject_l1 v10) ((0, v10))).bind fun b13 => ((cut3 b13 v1.1 ((w64 (v1.1 + 1))) ((b13.length : Int))).bind fun v27 => (bif (v1.1 == (w64 (v1.1 + 1))) then some b13 else (cut b13 0 v1.1).bind fun v30 => (cut b13 ((w64 (v1.1 + 1))) (b13.length : Int)).bind fun v32 => (shft b13 v1.1 ((w64 (v1.1 + 1)))).bind fun v34 => (endCut v34 (((((Int.toNat v1.1) + (b13.length - (Int.toNat ((w64 (v1.1 + 1)))))) : Nat) : Int)) ((b13.length : Int))).bind fun v36 => some ((List.take ((Int.toNat v1.1) + (b13.length - (Int.toNat ((w64 (v1.1 + 1)))))) ((clr0 v34 (Int.toNat (((((Int.toNat v1.1) + (b13.length - (Int.toNat ((w64 (v1.1 + 1)))))) : Nat) : Int))) ((THeld.mk 0 ((TMail.mk ((TEnvelope.mk (([] : Str)) ([]) (([] : Str)))) ((TMessage.mk ([]) ([])))))))))))) : Option (List THeld)).bind fun (j26 : List THeld) => some (((TList.mk a0.Address a0.Owner a0.Open v6 v8 j26 a0.Next), v1.2)))
noncomputable def lists_Subscribe_l1 (v23 : List THeld) (s25 : Int × (List THeld)) : Option (Step (Int × (List THeld)) (List THeld)) :=
  (bif decide (s25.1 < (v23.length : Int)) then (idx s25.2 s25.1).bind fun v29 => (idx s25.2 s25.1).bind fun v31 => (queue_CopyMail v31.Mail).bind fun v33 => (idx s25.2 s25.1).bind fun v35 => (idx s25.2 s25.1).bind fun v37 => some (.cont ((w64 (s25.1 + 1)), (List.set s25.2 (Int.toNat s25.1) ((THeld.mk v37.Number v33))))) else some (.out s25.2))
noncomputable def lists_Subscribe (a0 : TList) (a1 : Str) : Option (TList × TFault) :=
  (lists_Validate a0).bind fun v1 => (basic_Failed v1).bind fun v3 => (bif v3 then some (((TList.mk (([] : Str)) (([] : Str)) false ([]) ([]) ([]) 0), v1)) else (envelope_Address a1).bind fun v6 => (bif (!v6) then (basic_Fault 10 ((-21))).bind fun v9 => some (((TList.mk (([] : Str)) (([] : Str)) false ([]) ([]) ([]) 0), v9)) else (slices_Contains_string_string a0.Subscribers a1).bind fun v11 => (bif v11 then (basic_Fault 7 ((-21))).bind fun v14 => some (((TList.mk (([] : Str)) (([] : Str)) false ([]) ([]) ([]) 0), v14)) else (bif ((a0.Subscribers.length : Int) == 60) then (basic_Fault 2 ((-12))).bind fun v17 => some (((TList.mk (([] : Str)) (([] : Str)) false ([]) ([]) ([]) 0), v17)) else (slices_Clone_string_string a0.Subscribers).bind fun v19 => (slices_Clone_string_string a0.Moderators).bind fun v21 => (slices_Clone_api_Held_api_Held a0.Held).bind fun v23 => (iter (lists_Subscribe_l1 v23) ((0, v23))).bind fun b26 => (app 8796093022208 v19 (([a1] : List Str))).bind fun v39 => (basic_None).bind fun v41 => some (((TList.mk a0.Address a0.Owner a0.Open v39 v21 b26 a0.Next), v41))))))
noncomputable def L_posts  : Option Bool :=
  (L_plain (([([108, 64, 120] : Str)] : List Str))).bind fun v1 => (lists_Post ((TList.mk (([108, 64, 120] : Str)) (([111, 64, 120] : Str)) false (([([115, 64, 120] : Str), ([116, 64, 120] : Str)] : List Str)) (([([109, 64, 120] : Str)] : List Str)) ([]) 0)) v1).bind fun v3 => (L_plain (([([108, 64, 120] : Str)] : List Str))).bind fun v5 => (lists_Post ((TList.mk (([108, 64, 120] : Str)) (([111, 64, 120] : Str)) false (([([115, 64, 120] : Str), ([116, 64, 120] : Str)] : List Str)) (([([109, 64, 120] : Str)] : List Str)) ([]) 0)) ((TMail.mk ((TEnvelope.mk (([117, 64, 120] : Str)) v5.Envelope.To v5.Envelope.Id)) v5.Message))).bind fun v7 => ((bif (v3.2.2.Code != 0) then some true else (bif (v7.2.2.Code != 0) then some true else (bif ((v3.2.1.length : Int) != 1) then some true else (bif ((v7.2.1.length : Int) != 1) then some true else some (((v7.1.Held.length : Int) != 1)))))) : Option Bool).bind fun (j9 : Bool) => (bif j9 then some false else (lists_Approve v7.1 (([109, 64, 120] : Str)) 0).bind fun v15 => (lists_Reject v7.1 (([116, 64, 120] : Str)) 0).bind fun v17 => (lists_Subscribe ((TList.mk (([108, 64, 120] : Str)) (([111, 64, 120] : Str)) false (([([115, 64, 120] : Str), ([116, 64, 120] : Str)] : List Str)) (([([109, 64, 120] : Str)] : List Str)) ([]) 0)) (([117, 64, 120] : Str))).bind fun v19 => ((bif (v15.2.2.Code != 0) then some true else (bif (v19.2.Code != 0) then some true else (R_At 17 ((-19))).bind fun v24 => (bif (!(allEq [(v17.2.Code == v24.Code), (v17.2.Index == v24.Index)])) then some true else (bif ((v15.2.1.length : Int) != 1) then some true else (bif ((v15.1.Held.length : Int) != 0) then some true else some (((v19.1.Subscribers.length : Int) != 3))))))) : Option Bool).bind fun (j21 : Bool) => (bif j21 then some false else ((idx v3.2.1 0).bind fun v31 => (R_SameRecipients v31.Envelope.To (([(TRecipient.mk (([116, 64, 120] : Str)) 0)] : List TRecipient))).bind fun v33 => (bif v33 then (idx v7.2.1 0).bind fun v36 => (R_SameRecipients v36.Envelope.To (([(TRecipient.mk (([109, 64, 120] : Str)) 0)] : List TRecipient))).bind fun v38 => (bif v38 then (idx v15.2.1 0).bind fun v41 => (bif ((v41.Envelope.To.length : Int) == 2) then (idx v3.2.1 0).bind fun v44 => some ((v44.Envelope.From == ([111, 64, 120] : Str))) else some false) else some false) else some false) : Option Bool).bind fun (j30 : Bool) => some j30))
end Go.Proofs.YtkoijpogjobgjaaGreat

/- Functions of the program as Lean functions: what they compute. Written by program. -/
namespace Go.Proofs.YtkoijpogjobgjaaGreat
open Go.RowKit
set_option maxRecDepth 100000
set_option maxHeartbeats 40000000
set_option linter.unusedVariables false
noncomputable def lists_Unsubscribe_l1 (v15 : List THeld) (s17 : Int × (List THeld)) : Option (Step (Int × (List THeld)) (List THeld)) :=
  (bif decide (s17.1 < (v15.length : Int)) then (idx s17.2 s17.1).bind fun v21 => (idx s17.2 s17.1).bind fun v23 => (queue_CopyMail v23.Mail).bind fun v25 => (idx s17.2 s17.1).bind fun v27 => (idx s17.2 s17.1).bind fun v29 => some (.cont ((w64 (s17.1 + 1)), (List.set s17.2 (Int.toNat s17.1) ((THeld.mk v29.Number v25))))) else some (.out s17.2))
noncomputable def lists_Unsubscribe (a0 : TList) (a1 : Str) : Option (TList × TFault) :=
  (lists_Validate a0).bind fun v1 => (basic_Failed v1).bind fun v3 => (bif v3 then some (((TList.mk (([] : Str)) (([] : Str)) false ([]) ([]) ([]) 0), v1)) else (slices_Index_string_string a0.Subscribers a1).bind fun v6 => (bif decide (v6 < 0) then (basic_Fault 6 ((-22))).bind fun v9 => some (((TList.mk (([] : Str)) (([] : Str)) false ([]) ([]) ([]) 0), v9)) else (slices_Clone_string_string a0.Subscribers).bind fun v11 => (slices_Clone_string_string a0.Moderators).bind fun v13 => (slices_Clone_api_Held_api_Held a0.Held).bind fun v15 => (iter (lists_Unsubscribe_l1 v15) ((0, v15))).bind fun b18 => ((cut3 v11 v6 ((w64 (v6 + 1))) ((v11.length : Int))).bind fun v32 => (bif (v6 == (w64 (v6 + 1))) then some v11 else (cut v11 0 v6).bind fun v35 => (cut v11 ((w64 (v6 + 1))) (v11.length : Int)).bind fun v37 => (shft v11 v6 ((w64 (v6 + 1)))).bind fun v39 => (endCut v39 (((((Int.toNat v6) + (v11.length - (Int.toNat ((w64 (v6 + 1)))))) : Nat) : Int)) ((v11.length : Int))).bind fun v41 => some ((List.take ((Int.toNat v6) + (v11.length - (Int.toNat ((w64 (v6 + 1)))))) ((clr0 v39 (Int.toNat (((((Int.toNat v6) + (v11.length - (Int.toNat ((w64 (v6 + 1)))))) : Nat) : Int))) (([] : Str))))))) : Option (List Str)).bind fun (j31 : List Str) => (basic_None).bind fun v43 => some (((TList.mk a0.Address a0.Owner a0.Open j31 v13 b18 a0.Next), v43))))
noncomputable def R_membersFault_l1 (a0 : List Str) (a1 : Int) (s4 : Int) : Option (Step Int (Unit ⊕ TFault)) :=
  (bif decide (s4 < (a0.length : Int)) then (idx a0 s4).bind fun v10 => (R_AddressOk v10).bind fun v12 => (bif (!v12) then (R_At 10 ((w64 (a1 + s4)))).bind fun v15 => some (.out (.inr v15)) else (cut a0 0 s4).bind fun v17 => (idx a0 s4).bind fun v19 => (R_Has v17 v19).bind fun v21 => (bif v21 then (R_At 7 ((w64 (a1 + s4)))).bind fun v24 => some (.out (.inr v24)) else some (.cont (w64 (s4 + 1))))) else some (.out (.inl (()))))
noncomputable def R_membersFault (a0 : List Str) (a1 : Int) : Option TFault :=
  (bif decide (60 < (a0.length : Int)) then (R_At 2 ((-12))).bind fun v2 => some v2 else (iter (R_membersFault_l1 a0 a1) 0).bind (Sum.elim (fun b5 => some ((TFault.mk 0 0))) (fun b6 => some b6)))
noncomputable def R_ListFault_l1 (a0 : TList) (s26 : Int × Int) : Option (Step (Int × Int) (Unit ⊕ TFault)) :=
  (bif decide (s26.2 < (a0.Held.length : Int)) then (idx a0.Held s26.2).bind fun v32 => (R_In v32.Number ((w64 (s26.1 + 1))) ((w64 (a0.Next - 1)))).bind fun v34 => (bif (!v34) then (R_At 19 ((w64 (200 + s26.2)))).bind fun v37 => some (.out (.inr v37)) else (idx a0.Held s26.2).bind fun v39 => (idx a0.Held s26.2).bind fun v41 => (R_MailFault v41.Mail).bind fun v43 => (bif (v43.Code != 0) then (idx a0.Held s26.2).bind fun v46 => (R_MailFault v46.Mail).bind fun v48 => (R_At v48.Code ((w64 (200 + s26.2)))).bind fun v50 => some (.out (.inr v50)) else some (.cont (v39.Number, (w64 (s26.2 + 1)))))) else some (.out (.inl (()))))
noncomputable def R_ListFault (a0 : TList) : Option TFault :=
  (R_AddressOk a0.Address).bind fun v1 => (bif (!v1) then (R_At 10 ((-10))).bind fun v4 => some v4 else (R_AddressOk a0.Owner).bind fun v6 => (bif (!v6) then (R_At 10 ((-11))).bind fun v9 => some v9 else (R_membersFault a0.Subscribers 0).bind fun v11 => ((bif (v11.Code == 0) then (R_membersFault a0.Moderators 100).bind fun v15 => some ((v15.Code, v15.Index)) else some ((v11.Code, v11.Index))) : Option (Int × Int)).bind fun (j13 : Int × Int) => (bif (j13.1 != 0) then some ((TFault.mk j13.1 j13.2)) else (bif decide (20 < (a0.Held.length : Int)) then (R_At 2 ((-13))).bind fun v19 => some v19 else (R_In a0.Next 0 1000000).bind fun v21 => (bif (!v21) then (R_At 3 ((-14))).bind fun v24 => some v24 else (iter (R_ListFault_l1 a0) (((-1), 0))).bind (Sum.elim (fun b27 => some ((TFault.mk j13.1 j13.2))) (fun b28 => some b28)))))))
noncomputable def R_SameList_l1 (a0 : TList) (a1 : TList) (s13 : Int) : Option (Step Int (Unit ⊕ Bool)) :=
  (bif decide (s13 < (a0.Held.length : Int)) then ((idx a0.Held s13).bind fun v20 => (idx a1.Held s13).bind fun v22 => (bif (v20.Number != v22.Number) then some true else (idx a0.Held s13).bind fun v25 => (idx a1.Held s13).bind fun v27 => (R_SameMail v25.Mail v27.Mail).bind fun v29 => some ((!v29))) : Option Bool).bind fun (j19 : Bool) => (bif j19 then some (.out (.inr false)) else some (.cont (w64 (s13 + 1)))) else some (.out (.inl (()))))
noncomputable def R_SameList (a0 : TList) (a1 : TList) : Option Bool :=
  ((bif (a0.Address != a1.Address) then some true else (bif (a0.Owner != a1.Owner) then some true else (bif (a0.Open != a1.Open) then some true else (bif (a0.Next != a1.Next) then some true else (R_Strings a0.Subscribers a1.Subscribers).bind fun v6 => (bif (!v6) then some true else (R_Strings a0.Moderators a1.Moderators).bind fun v9 => (bif (!v9) then some true else some (((a0.Held.length : Int) != (a1.Held.length : Int))))))))) : Option Bool).bind fun (j1 : Bool) => (bif j1 then some false else (iter (R_SameList_l1 a0 a1) 0).bind (Sum.elim (fun b14 => some true) (fun b15 => some b15)))
def L_ListsMembersMatchSpec_l1 (a0 : TList) (a1 : Str) (s43 : Int × (List Str)) : Option (Step (Int × (List Str)) (List Str)) :=
  (bif decide (s43.1 < (a0.Subscribers.length : Int)) then ((idx a0.Subscribers s43.1).bind fun v48 => (bif (v48 != a1) then (idx a0.Subscribers s43.1).bind fun v51 => (app 8796093022208 s43.2 (([v51] : List Str))).bind fun v53 => some v53 else some s43.2) : Option (List Str)).bind fun (j47 : List Str) => some (.cont ((w64 (s43.1 + 1)), j47)) else some (.out s43.2))
def L_ListsMembersMatchSpec_l2 (a0 : TList) (a1 : Str) (s78 : Int × (List Str)) : Option (Step (Int × (List Str)) (List Str)) :=
  (bif decide (s78.1 < (a0.Subscribers.length : Int)) then ((idx a0.Subscribers s78.1).bind fun v83 => (bif (v83 != a1) then (idx a0.Subscribers s78.1).bind fun v86 => (app 8796093022208 s78.2 (([v86] : List Str))).bind fun v88 => some v88 else some s78.2) : Option (List Str)).bind fun (j82 : List Str) => some (.cont ((w64 (s78.1 + 1)), j82)) else some (.out s78.2))
noncomputable def L_ListsMembersMatchSpec (a0 : TList) (a1 : Str) : Option Bool :=
  (lists_Subscribe a0 a1).bind fun v1 => (lists_Unsubscribe a0 a1).bind fun v3 => (R_ListFault a0).bind fun v5 => (((bif (v5.Code == 0) then (R_AddressOk a1).bind fun v10 => some ((!v10)) else some false) : Option Bool).bind fun (j8 : Bool) => (bif j8 then (R_At 10 ((-21))).bind fun v13 => some ((v13.Code, v13.Index)) else some ((v5.Code, v5.Index))) : Option (Int × Int)).bind fun (j7 : Int × Int) => (((bif (j7.1 == 0) then (R_Has a0.Subscribers a1).bind fun v18 => some v18 else some false) : Option Bool).bind fun (j16 : Bool) => (bif j16 then (R_At 7 ((-21))).bind fun v21 => some ((v21.Code, v21.Index)) else some ((j7.1, j7.2))) : Option (Int × Int)).bind fun (j15 : Int × Int) => (((bif (j15.1 == 0) then some (((a0.Subscribers.length : Int) == 60)) else some false) : Option Bool).bind fun (j24 : Bool) => (bif j24 then (R_At 2 ((-12))).bind fun v27 => some ((v27.Code, v27.Index)) else some ((j15.1, j15.2))) : Option (Int × Int)).bind fun (j23 : Int × Int) => (((bif (v5.Code == 0) then (R_Has a0.Subscribers a1).bind fun v32 => some ((!v32)) else some false) : Option Bool).bind fun (j30 : Bool) => (bif j30 then (R_At 6 ((-22))).bind fun v35 => some ((v35.Code, v35.Index)) else some ((v5.Code, v5.Index))) : Option (Int × Int)).bind fun (j29 : Int × Int) => (bif (j23.1 == 0) then (app 8796093022208 ([] : List Str) a0.Subscribers).bind fun v38 => (app 8796093022208 v38 (([a1] : List Str))).bind fun v40 => (bif (j29.1 == 0) then (iter (L_ListsMembersMatchSpec_l1 a0 a1) ((0, ([] : List Str)))).bind fun b44 => ((L_posts).bind fun v56 => (bif v56 then (bif (allEq [(v1.2.Code == j23.1), (v1.2.Index == j23.2)]) then (bif (allEq [(v3.2.Code == j29.1), (v3.2.Index == j29.2)]) then (R_SameList v1.1 ((TList.mk a0.Address a0.Owner a0.Open v40 a0.Moderators a0.Held a0.Next))).bind fun v61 => (bif v61 then (R_SameList v3.1 ((TList.mk a0.Address a0.Owner a0.Open b44 a0.Moderators a0.Held a0.Next))).bind fun v64 => some v64 else some false) else some false) else some false) else some false) : Option Bool).bind fun (j55 : Bool) => some j55 else ((L_posts).bind fun v67 => (bif v67 then (bif (allEq [(v1.2.Code == j23.1), (v1.2.Index == j23.2)]) then (bif (allEq [(v3.2.Code == j29.1), (v3.2.Index == j29.2)]) then (R_SameList v1.1 ((TList.mk a0.Address a0.Owner a0.Open v40 a0.Moderators a0.Held a0.Next))).bind fun v72 => (bif v72 then (R_SameList v3.1 ((TList.mk (([] : Str)) (([] : Str)) false (([] : List Str)) ([]) ([]) 0))).bind fun v75 => some v75 else some false) else some false) else some false) else some false) : Option Bool).bind fun (j66 : Bool) => some j66) else (bif (j29.1 == 0) then (iter (L_ListsMembersMatchSpec_l2 a0 a1) ((0, ([] : List Str)))).bind fun b79 => ((L_posts).bind fun v91 => (bif v91 then (bif (allEq [(v1.2.Code == j23.1), (v1.2.Index == j23.2)]) then (bif (allEq [(v3.2.Code == j29.1), (v3.2.Index == j29.2)]) then (R_SameList v1.1 ((TList.mk (([] : Str)) (([] : Str)) false (([] : List Str)) ([]) ([]) 0))).bind fun v96 => (bif v96 then (R_SameList v3.1 ((TList.mk a0.Address a0.Owner a0.Open b79 a0.Moderators a0.Held a0.Next))).bind fun v99 => some v99 else some false) else some false) else some false) else some false) : Option Bool).bind fun (j90 : Bool) => some j90 else ((L_posts).bind fun v102 => (bif v102 then (bif (allEq [(v1.2.Code == j23.1), (v1.2.Index == j23.2)]) then (bif (allEq [(v3.2.Code == j29.1), (v3.2.Index == j29.2)]) then (R_SameList v1.1 ((TList.mk (([] : Str)) (([] : Str)) false (([] : List Str)) ([]) ([]) 0))).bind fun v107 => (bif v107 then (R_SameList v3.1 ((TList.mk (([] : Str)) (([] : Str)) false (([] : List Str)) ([]) ([]) 0))).bind fun v110 => some v110 else some false) else some false) else some false) else some false) : Option Bool).bind fun (j101 : Bool) => some j101))
end Go.Proofs.YtkoijpogjobgjaaGreat

/- Plain lemmas on the operations of typed functions: no program is named. -/
namespace Go.Proofs.YtkoijpogjobgjaaGreat
open Go.RowKit

theorem w64_ns (a b : Nat) (h : b ≤ a) (ha : a ≤ 9223372036854775807) : w64 ((a : Int) - (b : Int)) = ((a - b : Nat) : Int) := by
  rw [w64_id (by omega) (by omega)]; omega
theorem w64_n (a : Nat) (h : a ≤ 9223372036854775807) : w64 (a : Int) = (a : Int) := w64_id (by omega) (by omega)

theorem u8_eq (c : UInt8) (k : Nat) (hk : OfNat.ofNat k < 256) : ((c.toNat : Int) == no_index (OfNat.ofNat k : Int)) = (c == OfNat.ofNat k) := by
  have e : (OfNat.ofNat k : Int) = ((OfNat.ofNat k : Nat) : Int) := rfl
  have h2 : (OfNat.ofNat k : UInt8).toNat = (OfNat.ofNat k : Nat) := by
    show (UInt8.ofNat k).toNat = k
    rw [UInt8.toNat_ofNat']; exact Nat.mod_eq_of_lt hk
  rw [Bool.eq_iff_iff, beq_iff_eq, beq_iff_eq, ← UInt8.toNat_inj, h2, e]
  omega
theorem u8_ne (c : UInt8) (k : Nat) (hk : OfNat.ofNat k < 256) : ((c.toNat : Int) != no_index (OfNat.ofNat k : Int)) = (c != OfNat.ofNat k) := by
  unfold bne; rw [u8_eq c k hk]
section
variable {α : Type}
theorem idx_nat (l : List α) (i : Nat) : idx l (i : Int) = l[i]? := by unfold idx; rw [if_pos (by omega)]; simp
theorem idx_lt {l : List α} {i : Nat} (h : i < l.length) : idx l (i : Int) = some l[i] := by rw [idx_nat]; exact List.getElem?_eq_getElem h
theorem cut_nn {l : List α} {a b : Nat} (h1 : a ≤ b) (h2 : b ≤ l.length) : cut l (a : Int) (b : Int) = some ((l.drop a).take (b - a)) := by
  unfold cut; rw [if_pos (by omega)]; simp
theorem cut_nl {l : List α} {a : Nat} (h1 : a ≤ l.length) : cut l (a : Int) (l.length : Int) = some (l.drop a) := by
  rw [cut_nn h1 (Nat.le_refl _)]; rw [List.take_of_length_le (by simp)]
theorem cut_0n {l : List α} {b : Nat} (h2 : b ≤ l.length) : cut l 0 (b : Int) = some (l.take b) := by
  have := cut_nn (l := l) (a := 0) (b := b) (by omega) h2
  simpa using this
theorem app_ok {lim : Nat} {l xs : List α} (h : l.length + xs.length ≤ lim) : app lim l xs = some (l ++ xs) := by unfold app; rw [if_pos h]
theorem cat_ok {a b : Str} (h : a.length + b.length ≤ 9223372036854775807) : cat a b = some (a ++ b) := by unfold cat; rw [if_pos h]
end

section
variable {A R : Type} {body : A → Option (Step A R)}
/-- a loop that ends, by an invariant and a measure -/
theorem iter_rec (Inv : A → Prop) (m : A → Nat) (Post : A → R → Prop)
    (h : ∀ s, Inv s → (∃ r, body s = some (.out r) ∧ Post s r) ∨ ∃ s', body s = some (.cont s') ∧ Inv s' ∧ m s' < m s ∧ ∀ r, Post s' r → Post s r) :
    ∀ s, Inv s → ∃ r, iter body s = some r ∧ Post s r := by
  intro s
  induction hn : m s using Nat.strongRecOn generalizing s with
  | _ n ih =>
    intro hi
    rcases h s hi with ⟨r, h1, h2⟩ | ⟨s', h1, h2, h3, h4⟩
    · exact ⟨r, iter_out h1, h2⟩
    · obtain ⟨r, h5, h6⟩ := ih (m s') (by omega) s' rfl h2
      exact ⟨r, (iter_cont h1).trans h5, h4 r h6⟩
/-- a loop that goes through a list, with an accumulator -/
theorem iter_list {α S : Type} (l : List α) (enc : Nat → S → A) (spec : Nat → List α → S → R)
    (h0 : ∀ s, body (enc l.length s) = some (.out (spec l.length [] s)))
    (h1 : ∀ p x r s, l = p ++ x :: r → (body (enc p.length s) = some (.out (spec p.length (x :: r) s))) ∨ ∃ s', body (enc p.length s) = some (.cont (enc (p.length + 1) s')) ∧ spec p.length (x :: r) s = spec (p.length + 1) r s') :
    ∀ {s0 : A} (s : S) (_ : s0 = enc 0 s), iter body s0 = some (spec 0 l s) := by
  have key : ∀ r p s, l = p ++ r → iter body (enc p.length s) = some (spec p.length r s) := by
    intro r
    induction r with
    | nil =>
      intro p s h
      have : p = l := by simp [h]
      subst this
      exact iter_out (h0 s)
    | cons x r ih =>
      intro p s h
      rcases h1 p x r s h with hb | ⟨s', hb, hs⟩
      · exact iter_out hb
      · rw [iter_cont hb, hs]
        have := ih (p ++ [x]) s' (by simp [h])
        simpa using this
  rintro _ s rfl
  exact key l [] s rfl
/-- the same, with an invariant -/
theorem iter_listI {α S : Type} (l : List α) (enc : Nat → S → A) (spec : Nat → List α → S → R) (Inv : Nat → List α → S → Prop)
    (h0 : ∀ s, Inv l.length [] s → body (enc l.length s) = some (.out (spec l.length [] s)))
    (h1 : ∀ p x r s, l = p ++ x :: r → Inv p.length (x :: r) s → (body (enc p.length s) = some (.out (spec p.length (x :: r) s))) ∨ ∃ s', body (enc p.length s) = some (.cont (enc (p.length + 1) s')) ∧ spec p.length (x :: r) s = spec (p.length + 1) r s' ∧ Inv (p.length + 1) r s') :
    ∀ {s0 : A} (s : S) (_ : s0 = enc 0 s) (_ : Inv 0 l s), iter body s0 = some (spec 0 l s) := by
  have key : ∀ r p s, l = p ++ r → Inv p.length r s → iter body (enc p.length s) = some (spec p.length r s) := by
    intro r
    induction r with
    | nil =>
      intro p s h hi
      have : p = l := by simp [h]
      subst this
      exact iter_out (h0 s hi)
    | cons x r ih =>
      intro p s h hi
      rcases h1 p x r s h hi with hb | ⟨s', hb, hs, hi'⟩
      · exact iter_out hb
      · rw [iter_cont hb, hs]
        have := ih (p ++ [x]) s' (by simp [h]) (by simpa using hi')
        simpa using this
  rintro _ s rfl hi
  exact key l [] s rfl hi
end
end Go.Proofs.YtkoijpogjobgjaaGreat

/- Plain lemmas on loops of typed functions: first hits, folds. No program is named. -/
namespace Go.Proofs.YtkoijpogjobgjaaGreat
open Go.RowKit
section
variable {α R O A S : Type}
/-- the first hit, with its number -/
def firstI (q : Nat → α → Option R) : Nat → List α → Option R
  | _, [] => none
  | i, x :: r => match q i x with | some y => some y | none => firstI q (i + 1) r
theorem iter_first (l : List α) (q : Nat → α → Option R) (oN : O) (oS : R → O) {body : Int → Option (Step Int O)} (hl : body (l.length : Int) = some (.out oN))
    (hs : ∀ (i : Nat) x, l[i]? = some x → body (i : Int) = some ((q i x).elim (.cont ((i + 1 : Nat) : Int)) fun r => .out (oS r))) :
    iter body 0 = some ((firstI q 0 l).elim oN oS) := by
  have key : ∀ r p, l = p ++ r → iter body (p.length : Int) = some ((firstI q p.length r).elim oN oS) := by
    intro r
    induction r with
    | nil => intro p h; have : p = l := by simp [h]
             subst this; exact iter_out hl
    | cons x r ih =>
      intro p h
      have hx := hs p.length x (by simp [h])
      unfold firstI
      cases hq : q p.length x with
      | some y => rw [hq] at hx; exact iter_out hx
      | none =>
        rw [hq] at hx
        rw [iter_cont hx]
        have := ih (p ++ [x]) (by simp [h])
        simpa using this
  exact key l [] rfl
/-- a loop with a counter and a state that goes on to its end -/
theorem iter_foldI (l : List α) (enc : Int → S → A) (f : Nat → S → α → S) (out : S → O) (Inv : Nat → S → Prop) {body : A → Option (Step A O)}
    (hl : ∀ s, Inv l.length s → body (enc l.length s) = some (.out (out s)))
    (hs : ∀ (i : Nat) x s, l[i]? = some x → Inv i s → body (enc i s) = some (.cont (enc ((i + 1 : Nat) : Int) (f i s x))) ∧ Inv (i + 1) (f i s x)) (s : S) (h0 : Inv 0 s) :
    ∃ t, iter body (enc 0 s) = some (out t) ∧ Inv l.length t ∧ t = (l.zipIdx.foldl (fun s p => f p.2 s p.1) s) := by
  have key : ∀ r p s, l = p ++ r → Inv p.length s → ∃ t, iter body (enc (p.length : Int) s) = some (out t) ∧ Inv l.length t ∧ t = ((r.zipIdx p.length).foldl (fun s p => f p.2 s p.1) s) := by
    intro r
    induction r with
    | nil => intro p s h hi; have : p = l := by simp [h]
             subst this; exact ⟨s, iter_out (hl s hi), hi, rfl⟩
    | cons x r ih =>
      intro p s h hi
      obtain ⟨h1, h2⟩ := hs p.length x s (by simp [h]) hi
      rw [iter_cont h1]
      obtain ⟨t, h3, h4, h5⟩ := ih (p ++ [x]) (f p.length s x) (by simp [h]) (by simpa using h2)
      refine ⟨t, by simpa using h3, h4, ?_⟩
      rw [h5]; simp
  exact key l [] s rfl h0
theorem foldl_zipIdx (f : S → α → S) (l : List α) : ∀ (n : Nat) (s : S), (l.zipIdx n).foldl (fun s p => f s p.1) s = l.foldl f s := by
  induction l with
  | nil => intro n s; rfl
  | cons x r ih => intro n s; simp [ih]
/-- the same, where the number does not matter -/
theorem iter_fold (l : List α) (enc : Int → S → A) (f : S → α → S) (out : S → O) (Inv : Nat → S → Prop) {body : A → Option (Step A O)}
    (hl : ∀ s, Inv l.length s → body (enc l.length s) = some (.out (out s)))
    (hs : ∀ (i : Nat) x s, l[i]? = some x → Inv i s → body (enc i s) = some (.cont (enc ((i + 1 : Nat) : Int) (f s x))) ∧ Inv (i + 1) (f s x)) (s : S) (h0 : Inv 0 s) :
    iter body (enc 0 s) = some (out (l.foldl f s)) ∧ Inv l.length (l.foldl f s) := by
  obtain ⟨t, h1, h2, h3⟩ := iter_foldI l enc (fun _ => f) out Inv hl hs s h0
  have : t = l.foldl f s := by rw [h3]; exact foldl_zipIdx f l 0 s
  subst this
  exact ⟨h1, h2⟩
theorem firstI_any (c : α → Bool) (r : R) (l : List α) (n : Nat) : firstI (fun _ x => if c x then some r else none) n l = if l.any c then some r else none := by
  induction l generalizing n with
  | nil => rfl
  | cons x l ih => unfold firstI; cases h : c x <;> simp [h, ih]
theorem firstI_none {q : Nat → α → Option R} {l : List α} {n : Nat} : firstI q n l = none ↔ ∀ (i : Nat) x, l[i]? = some x → q (n + i) x = none := by
  induction l generalizing n with
  | nil => simp [firstI]
  | cons x l ih =>
    unfold firstI
    cases h : q n x with
    | some y =>
      simp only [reduceCtorEq, false_iff]
      intro hh
      have := hh 0 x rfl
      rw [Nat.add_zero, h] at this; cases this
    | none =>
      rw [ih]
      constructor
      · intro hh i y hy
        cases i with
        | zero => simp at hy; subst hy; exact h
        | succ i => rw [show n + (i + 1) = n + 1 + i by omega]; exact hh i y (by simpa using hy)
      · intro hh i y hy
        rw [show n + 1 + i = n + (i + 1) by omega]; exact hh (i + 1) y (by simpa using hy)
theorem firstI_some {q : Nat → α → Option R} {l : List α} {n : Nat} {r : R} (h : firstI q n l = some r) : ∃ (i : Nat) (x : α), l[i]? = some x ∧ q (n + i) x = some r := by
  induction l generalizing n with
  | nil => cases h
  | cons x l ih =>
    unfold firstI at h
    cases hq : q n x with
    | some y => rw [hq] at h; cases h; exact ⟨0, x, rfl, hq⟩
    | none =>
      rw [hq] at h
      obtain ⟨i, y, h1, h2⟩ := ih h
      exact ⟨i + 1, y, by simpa using h1, by rw [show n + (i + 1) = n + 1 + i by omega]; exact h2⟩
theorem lt_get {l : List α} {i : Nat} {x : α} (h : l[i]? = some x) : i < l.length := (List.getElem?_eq_some_iff.1 h).1
theorem dec_lt {l : List α} {i : Nat} {x : α} (h : l[i]? = some x) : decide ((i : Int) < (l.length : Int)) = true := by have := lt_get h; simp; omega
theorem dec_len (l : List α) : decide ((l.length : Int) < (l.length : Int)) = false := by simp
theorem idx_get {l : List α} {i : Nat} {x : α} (h : l[i]? = some x) : idx l (i : Int) = some x := by rw [idx_nat]; exact h
end
end Go.Proofs.YtkoijpogjobgjaaGreat

/- Domains and addresses: the plain functions, and what the typed functions compute. -/
namespace Go.Proofs.YtkoijpogjobgjaaGreat
open Go.RowKit
set_option linter.unusedVariables false
set_option maxHeartbeats 1000000

def lettC (c : UInt8) : Bool := (decide (97 ≤ c) && decide (c ≤ 122)) || (decide (65 ≤ c) && decide (c ≤ 90)) || (decide (48 ≤ c) && decide (c ≤ 57))
def smallC (c : UInt8) : Bool := (decide (97 ≤ c) && decide (c ≤ 122)) || (decide (48 ≤ c) && decide (c ≤ 57)) || c == 45 || c == 46
def goodC (c : UInt8) : Bool := lettC c || c == 45 || c == 95 || c == 46 || c == 43 || c == 61
/-- no dot at the front or behind a dot (p: there is one, or the front), none at the end -/
def dotsOk : Bool → Str → Bool
  | p, [] => !p
  | p, c :: r => if c = 46 then !p && dotsOk true r else dotsOk false r
def domP (s : Str) : Bool := decide (s.length ≤ 60) && s.all smallC && dotsOk true s
def atP (s : Str) : Nat := s.findIdx (· == 64)
def addrP (s : Str) : Bool := decide (atP s < s.length) && decide (1 ≤ atP s) && decide (atP s ≤ 60) && (s.take (atP s)).all goodC && domP (s.drop (atP s + 1))

theorem u8_le1 (k : Nat) (c : UInt8) (hk : OfNat.ofNat k < 256) : decide ((no_index (OfNat.ofNat k : Int)) ≤ (c.toNat : Int)) = decide ((OfNat.ofNat k : UInt8) ≤ c) := by
  have e : (OfNat.ofNat k : Int) = ((OfNat.ofNat k : Nat) : Int) := rfl
  have h2 : (OfNat.ofNat k : UInt8).toNat = (OfNat.ofNat k : Nat) := by
    show (UInt8.ofNat k).toNat = k
    rw [UInt8.toNat_ofNat']; exact Nat.mod_eq_of_lt hk
  rw [Bool.eq_iff_iff, decide_eq_true_eq, decide_eq_true_eq, UInt8.le_iff_toNat_le, h2, e]; omega
theorem u8_le2 (k : Nat) (c : UInt8) (hk : OfNat.ofNat k < 256) : decide ((c.toNat : Int) ≤ (no_index (OfNat.ofNat k : Int))) = decide (c ≤ (OfNat.ofNat k : UInt8)) := by
  have e : (OfNat.ofNat k : Int) = ((OfNat.ofNat k : Nat) : Int) := rfl
  have h2 : (OfNat.ofNat k : UInt8).toNat = (OfNat.ofNat k : Nat) := by
    show (UInt8.ofNat k).toNat = k
    rw [UInt8.toNat_ofNat']; exact Nat.mod_eq_of_lt hk
  rw [Bool.eq_iff_iff, decide_eq_true_eq, decide_eq_true_eq, UInt8.le_iff_toNat_le, h2, e]; omega

theorem R_In_eq (a b c : Int) : R_In a b c = some (decide (b ≤ a) && decide (a ≤ c)) := by
  unfold R_In; cases decide (b ≤ a) <;> rfl
theorem R_letterOrDigit_eq (c : UInt8) : R_letterOrDigit c = some (lettC c) := by
  unfold R_letterOrDigit lettC
  simp only [R_In_eq, Option.bind_some, u8_le1 97 c (by decide), u8_le2 122 c (by decide), u8_le1 65 c (by decide), u8_le2 90 c (by decide), u8_le1 48 c (by decide), u8_le2 57 c (by decide)]
  generalize (decide ((97 : UInt8) ≤ c) && decide (c ≤ 122)) = x
  generalize (decide ((65 : UInt8) ≤ c) && decide (c ≤ 90)) = y
  cases x <;> cases y <;> simp
theorem basic_Letter_eq (c : UInt8) : basic_Letter c = some (lettC c) := by
  unfold basic_Letter lettC
  simp only [u8_le1 97 c (by decide), u8_le2 122 c (by decide), u8_le1 65 c (by decide), u8_le2 90 c (by decide), u8_le1 48 c (by decide), u8_le2 57 c (by decide)]
  cases decide ((97 : UInt8) ≤ c) <;> cases decide (c ≤ 122) <;> cases decide ((65 : UInt8) ≤ c) <;> cases decide (c ≤ 90) <;> cases decide ((48 : UInt8) ≤ c) <;> cases decide (c ≤ 57) <;> rfl


/-! ### the reference's domains -/
/-- is there a dot, or the front, before place i? -/
def prevDot (s : Str) (i : Nat) : Bool := if i = 0 then true else s[i - 1]? == some 46
def domLoop : Bool → Str → Bool
  | _, [] => true
  | p, c :: r => if c = 46 then !p && !r.isEmpty && domLoop true r else smallC c && domLoop false r
theorem domLoop_cons (p : Bool) (c : UInt8) (r : Str) : domLoop p (c :: r) = if c = 46 then !p && !r.isEmpty && domLoop true r else smallC c && domLoop false r := rfl
theorem domLoop_eq (s : Str) (p : Bool) (h : s ≠ [] ∨ p = false) : domLoop p s = (s.all smallC && dotsOk p s) := by
  induction s generalizing p with
  | nil => simp [domLoop, dotsOk]; rcases h with h | h <;> simp_all
  | cons c r ih =>
    unfold domLoop dotsOk
    by_cases hc : c = 46
    · subst hc
      simp only [if_true, List.all_cons, show smallC 46 = true by decide, Bool.true_and]
      cases r with
      | nil => simp [dotsOk]
      | cons d r =>
        rw [ih true (.inl (by simp))]
        cases p <;> simp
    · rw [if_neg hc, if_neg hc]
      rw [ih false (.inr rfl), List.all_cons, Bool.and_assoc]
theorem R_DomainOk_loop (s : Str) (hs : s.length ≤ 9223372036854775806) : iter (R_DomainOk_l1 s) 0 = some (if domLoop true s then .inl () else .inr false) := by
  have := iter_list (body := R_DomainOk_l1 s) s (fun i (_ : Unit) => (i : Int)) (fun i r _ => if domLoop (prevDot s i) r then .inl () else .inr false) (fun _ => by
      unfold R_DomainOk_l1
      rw [dec_len]; simp [domLoop]) (fun p c r _ h => ?_) (s0 := 0) () rfl
  · simpa [prevDot] using this
  · have hc : s[p.length]? = some c := by simp [h]
    have hidx := idx_get hc
    have hlen : s.length = p.length + r.length + 1 := by rw [h]; simp; omega
    have e1 : w64 ((s.length : Int) - 1) = ((s.length - 1 : Nat) : Int) := by rw [w64_id (by omega) (by omega)]; omega
    have e2 : w64 ((p.length : Int) + 1) = ((p.length + 1 : Nat) : Int) := by rw [show ((p.length : Int) + 1) = ((p.length + 1 : Nat) : Int) by omega, w64_n _ (by omega)]
    have hbody : R_DomainOk_l1 s (p.length : Int) = some (if c = 46 then (if prevDot s p.length || r.isEmpty then .out (.inr false) else .cont ((p.length + 1 : Nat) : Int)) else if smallC c then .cont ((p.length + 1 : Nat) : Int) else .out (.inr false)) := by
      unfold R_DomainOk_l1
      rw [dec_lt hc, hidx]
      simp only [cond_true, Option.bind_some, R_In_eq, u8_eq c 46 (by decide), u8_ne c 45 (by decide), u8_ne c 46 (by decide), u8_le1 97 c (by decide), u8_le2 122 c (by decide), u8_le1 48 c (by decide), u8_le2 57 c (by decide), e1, e2]
      by_cases h46 : c = 46
      · subst h46
        have hsm : (!(decide ((97 : UInt8) ≤ 46) && decide ((46 : UInt8) ≤ 122))) = true := by decide
        have hsm2 : (!(decide ((48 : UInt8) ≤ 46) && decide ((46 : UInt8) ≤ 57))) = true := by decide
        simp only [beq_self_eq_true, cond_true, hsm, hsm2, if_true, bne_self_eq_false]
        by_cases h0 : p.length = 0
        · simp [h0, prevDot]
        · have h0' : ((p.length : Int) == 0) = false := by rw [beq_eq_false_iff_ne]; omega
          by_cases hl : r = []
          · subst hl
            have : ((p.length : Int) == ((s.length - 1 : Nat) : Int)) = true := by rw [hlen]; simp
            simp [h0', this]
          · have hr : r.isEmpty = false := by simpa using hl
            have hrl : 0 < r.length := List.length_pos_iff.2 hl
            have : ((p.length : Int) == ((s.length - 1 : Nat) : Int)) = false := by rw [hlen]; simp; omega
            have e3 : w64 ((p.length : Int) - 1) = ((p.length - 1 : Nat) : Int) := by rw [w64_id (by omega) (by omega)]; omega
            have hlt : p.length - 1 < s.length := by omega
            simp only [h0', this, cond_false, e3, idx_lt hlt, Option.bind_some, hr, Bool.or_false, prevDot, if_neg h0, List.getElem?_eq_getElem hlt]
            rw [u8_eq _ 46 (by decide)]
            by_cases hd : s[p.length - 1] = 46
            · simp [hd]
            · have : (s[p.length - 1] == 46) = false := by simpa using hd
              simp [this, hd]
      · have h1 : (c == 46) = false := by simpa using h46
        have h2 : (c != 46) = true := by simpa using h46
        simp only [h1, cond_false, if_neg h46, Option.bind_some, smallC, h2]
        by_cases ha : (decide ((97 : UInt8) ≤ c) && decide (c ≤ 122)) = true
        · simp [ha]
        · have ha : (decide ((97 : UInt8) ≤ c) && decide (c ≤ 122)) = false := by simpa using ha
          by_cases hb : (decide ((48 : UInt8) ≤ c) && decide (c ≤ 57)) = true
          · simp [ha, hb]
          · have hb : (decide ((48 : UInt8) ≤ c) && decide (c ≤ 57)) = false := by simpa using hb
            by_cases h45 : c = 45
            · subst h45; simp [ha, hb]
            · have : (c == 45) = false := by simpa using h45
              simp [ha, hb, this, bne]
    have hp1 : prevDot s (p.length + 1) = decide (c = 46) := by
      unfold prevDot
      simp only [Nat.add_sub_cancel, Nat.add_one_ne_zero, if_false, hc]
      rw [Bool.eq_iff_iff]; simp
    rw [hbody]
    rw [domLoop_cons]
    by_cases h46 : c = 46
    · subst h46
      simp only [if_true]
      cases hq : (prevDot s p.length || r.isEmpty) with
      | true =>
        left
        simp only [if_true]
        have : (!prevDot s p.length && !r.isEmpty && domLoop true r) = false := by
          cases hp : prevDot s p.length <;> simp_all
        rw [this]; rfl
      | false =>
        right
        refine ⟨(), rfl, ?_⟩
        have h3 : prevDot s p.length = false := by cases hp : prevDot s p.length <;> simp_all
        have h4 : r.isEmpty = false := by cases hp : r.isEmpty <;> simp_all
        rw [h3, h4, hp1]; simp
    · simp only [if_neg h46]
      cases hq : smallC c with
      | true => right; exact ⟨(), rfl, by rw [hp1]; simp [h46]⟩
      | false => left; simp
theorem R_DomainOk_eq (s : Str) (hs : s.length ≤ 9223372036854775806) : R_DomainOk s = some (domP s) := by
  unfold R_DomainOk
  rw [R_DomainOk_loop s hs]
  by_cases hn : s = []
  · subst hn; simp [domLoop, R_In_eq, domP, dotsOk]
  · rw [domLoop_eq s true (.inl hn)]
    have hpos : 0 < s.length := List.length_pos_iff.2 hn
    unfold domP
    cases h : (s.all smallC && dotsOk true s) with
    | false =>
      rw [Bool.and_assoc, h]; simp
    | true =>
      rw [Bool.and_assoc, h]
      simp only [if_true, Option.bind_some, R_In_eq, Bool.and_true, Sum.elim_inl, Option.some.injEq]
      rw [Bool.eq_iff_iff]; simp; omega
/-! ### the reference's addresses -/
theorem R_sign_eq (s : Str) (hs : s.length ≤ 9223372036854775806) : R_sign s = some ((atP s : Nat) : Int) := by
  unfold R_sign
  rw [iter_first s (fun i c => if c == 64 then some (i : Int) else none) (.inl ()) .inr]
  · simp only [Option.bind_some]
    have key : ∀ (r : Str) (n : Nat), (firstI (fun i (c : UInt8) => if c == 64 then some (i : Int) else none) n r).getD ((n + r.length : Nat) : Int) = ((n + r.findIdx (· == 64) : Nat) : Int) := by
      intro r
      induction r with
      | nil => intro n; simp [firstI]
      | cons c r ih =>
        intro n
        unfold firstI
        rw [List.findIdx_cons]
        cases hc : (c == 64) with
        | true => simp
        | false =>
          simp only [Bool.false_eq_true, if_false, cond_false]
          have := ih (n + 1)
          rw [show n + (c :: r).length = n + 1 + r.length by simp; omega, show n + (r.findIdx (· == 64) + 1) = n + 1 + r.findIdx (· == 64) by omega]
          exact this
    have := key s 0
    rw [Nat.zero_add, Nat.zero_add] at this
    unfold atP
    rw [← this]
    cases firstI (fun i (c : UInt8) => if c == 64 then some (i : Int) else none) 0 s <;> rfl
  · unfold R_sign_l1; rw [dec_len]; rfl
  · intro i c hc
    unfold R_sign_l1
    have hi := lt_get hc
    rw [dec_lt hc, idx_get hc]
    simp only [cond_true, Option.bind_some, u8_eq c 64 (by decide)]
    cases c == 64 with
    | true => rfl
    | false =>
      simp only [cond_false, Bool.false_eq_true, if_false]
      rw [show ((i : Int) + 1) = ((i + 1 : Nat) : Int) by omega, w64_n _ (by omega)]; rfl
theorem R_AddressOk_eq (s : Str) (hs : s.length ≤ 9223372036854775806) : R_AddressOk s = some (addrP s) := by
  have hat : atP s ≤ s.length := List.findIdx_le_length
  unfold R_AddressOk
  rw [R_sign_eq s hs]
  simp only [Option.bind_some]
  have hloop : iter (R_AddressOk_l1 s (atP s : Int)) 0 = some ((firstI (fun _ c => if !goodC c then some false else none) 0 (s.take (atP s))).elim (.inl ()) .inr) := by
    refine iter_first (s.take (atP s)) _ (Sum.inl ()) Sum.inr ?_ ?_
    · have : ((s.take (atP s)).length : Int) = (atP s : Int) := by simp; omega
      unfold R_AddressOk_l1; rw [this]; simp
    · intro i c hc
      have hi := lt_get hc
      simp at hi
      have hc2 : s[i]? = some c := by rw [List.getElem?_take_of_lt (by omega)] at hc; exact hc
      unfold R_AddressOk_l1
      have : decide ((i : Int) < (atP s : Int)) = true := by simp; omega
      rw [this, idx_get hc2]
      simp only [cond_true, Option.bind_some, R_letterOrDigit_eq, u8_ne c 45 (by decide), u8_ne c 95 (by decide), u8_ne c 46 (by decide), u8_ne c 43 (by decide), u8_ne c 61 (by decide)]
      rw [show ((i : Int) + 1) = ((i + 1 : Nat) : Int) by omega, w64_n _ (by omega)]
      unfold goodC
      cases lettC c <;> cases h1 : (c == 45) <;> cases h2 : (c == 95) <;> cases h3 : (c == 46) <;> cases h4 : (c == 43) <;> cases h5 : (c == 61) <;> simp [bne, h1, h2, h3, h4, h5]
  rw [hloop, firstI_any]
  unfold addrP
  have hall : (s.take (atP s)).any (fun c => !goodC c) = !((s.take (atP s)).all goodC) := by simp [List.not_all_eq_any_not]
  rw [hall]
  cases hg : (s.take (atP s)).all goodC with
  | false => simp
  | true =>
    simp only [Bool.not_true, Bool.false_eq_true, if_false, Option.bind_some, R_In_eq, Bool.and_true]
    by_cases h1 : 1 ≤ atP s ∧ atP s ≤ 60
    · have e1 : (decide ((1 : Int) ≤ (atP s : Int)) && decide ((atP s : Int) ≤ 60)) = true := by simp; omega
      rw [e1]
      by_cases h2 : atP s < s.length
      · have e2 : decide ((atP s : Int) < (s.length : Int)) = true := by simp; omega
        rw [e2]
        simp only [cond_true]
        rw [show ((atP s : Int) + 1) = ((atP s + 1 : Nat) : Int) by omega, w64_n _ (by omega), cut_nl (by omega)]
        simp only [Option.bind_some]
        rw [R_DomainOk_eq _ (by simp; omega)]
        simp [h1, h2]
      · have e2 : decide ((atP s : Int) < (s.length : Int)) = false := by simp; omega
        rw [e2]; simp [h2]
    · have e1 : (decide ((1 : Int) ≤ (atP s : Int)) && decide ((atP s : Int) ≤ 60)) = false := by
        rw [Bool.eq_false_iff]; simp; omega
      rw [e1]
      simp only [cond_false, Option.bind_some]
      congr 1
      symm
      rcases Nat.lt_or_ge (atP s) 1 with h | h
      · have : decide (1 ≤ atP s) = false := by simp; omega
        rw [this]; simp
      · have : decide (atP s ≤ 60) = false := by simp; omega
        rw [this]; simp

/-! ### the program's domains and addresses -/
theorem dots_contains (s : Str) : ∀ p, dotsOk p s = (!(p && (s.isEmpty || s.head? == some 46)) && !(s.getLast? == some 46) && !Lib.contains s [46, 46]) := by
  induction s with
  | nil => intro p; cases p <;> simp [dotsOk, Lib.contains, Lib.index]
  | cons c r ih =>
    intro p
    have hcont : Lib.contains (c :: r) [46, 46] = ((c == 46 && r.head? == some 46) || Lib.contains r [46, 46]) := by
      unfold Lib.contains
      rw [Lib.index]
      have hpre : ([46, 46] : List UInt8).isPrefixOf (c :: r) = (c == 46 && r.head? == some 46) := by
        cases r with
        | nil => simp [List.isPrefixOf]
        | cons d r => simp only [List.isPrefixOf, List.head?_cons, Bool.and_true]; rw [Bool.eq_iff_iff]; simp; constructor <;> rintro ⟨rfl, rfl⟩ <;> exact ⟨rfl, rfl⟩
      rw [hpre]
      have hg := Lib.index_ge r [46, 46]
      cases c == 46 && r.head? == some 46 with
      | true => simp
      | false =>
        simp only [Bool.false_eq_true, if_false, Bool.false_or]
        by_cases h : Lib.index r [46, 46] = -1
        · simp [h]
        · have : (Lib.index r [46, 46] == -1) = false := by simpa using h
          rw [this]
          simp only [Bool.false_eq_true, if_false]
          rw [Bool.eq_iff_iff]; simp; omega
    rw [hcont, dotsOk]
    have hlast : (c :: r).getLast? = if r.isEmpty then some c else r.getLast? := by cases r <;> simp
    rw [hlast]
    by_cases hc : c = 46
    · subst hc
      rw [if_pos rfl, ih true]
      cases r with
      | nil => simp
      | cons d r => cases p <;> cases hd : (d == 46) <;> simp_all [Bool.and_comm, Bool.and_assoc, Bool.and_left_comm]
    · have h1 : (c == 46) = false := by simpa using hc
      have h2 : (some c == some (46 : UInt8)) = false := by simpa using hc
      rw [if_neg hc, ih false]
      cases r with
      | nil => simp [h1, h2, Lib.contains, Lib.index, hc]
      | cons d r => simp [h1, h2, hc]
theorem strings_HasPrefix_eq (s t : Str) : strings_HasPrefix s t = some (t.isPrefixOf s) := by
  unfold strings_HasPrefix internal_stringslite_HasPrefix
  by_cases h : t.length ≤ s.length
  · have : decide ((t.length : Int) ≤ (s.length : Int)) = true := by simp; omega
    rw [this, cut_0n h]
    simp only [cond_true, Option.bind_some, Option.some.injEq]
    rw [Bool.eq_iff_iff, beq_iff_eq, List.isPrefixOf_iff_prefix, List.prefix_iff_eq_take]
    constructor <;> exact fun h => h.symm
  · have : decide ((t.length : Int) ≤ (s.length : Int)) = false := by simp; omega
    rw [this]
    simp only [cond_false, Option.bind_some, Option.some.injEq]
    symm
    rw [Bool.eq_false_iff]
    intro hp
    exact h (List.isPrefixOf_iff_prefix.1 hp).length_le
theorem strings_HasSuffix_eq (s t : Str) (hs : s.length ≤ 9223372036854775806) : strings_HasSuffix s t = some (t.isSuffixOf s) := by
  unfold strings_HasSuffix internal_stringslite_HasSuffix
  by_cases h : t.length ≤ s.length
  · have : decide ((t.length : Int) ≤ (s.length : Int)) = true := by simp; omega
    rw [this, w64_ns _ _ h (by omega), cut_nl (by omega)]
    simp only [cond_true, Option.bind_some, Option.some.injEq]
    rw [Bool.eq_iff_iff, beq_iff_eq, List.isSuffixOf_iff_suffix, List.suffix_iff_eq_drop]
    constructor <;> exact fun h => h.symm
  · have : decide ((t.length : Int) ≤ (s.length : Int)) = false := by simp; omega
    rw [this]
    simp only [cond_false, Option.bind_some, Option.some.injEq]
    symm
    rw [Bool.eq_false_iff]
    intro hp
    exact h (List.isSuffixOf_iff_suffix.1 hp).length_le
theorem dom_char (c : UInt8) : ((bif decide ((97 : UInt8) ≤ c) then (bif decide (c ≤ 122) then some true else (bif decide ((48 : UInt8) ≤ c) then (bif decide (c ≤ 57) then some true else (bif (c == 45) then some true else some (c == 46))) else (bif (c == 45) then some true else some (c == 46)))) else (bif decide ((48 : UInt8) ≤ c) then (bif decide (c ≤ 57) then some true else (bif (c == 45) then some true else some (c == 46))) else (bif (c == 45) then some true else some (c == 46)))) : Option Bool) = some (smallC c) := by
  unfold smallC
  cases decide ((97 : UInt8) ≤ c) <;> cases decide (c ≤ 122) <;> cases decide ((48 : UInt8) ≤ c) <;> cases decide (c ≤ 57) <;> cases (c == 45) <;> rfl
theorem envelope_Domain_eq (s : Str) (hs : s.length < 4294967281) : envelope_Domain s = some (domP s) := by
  have hloop : iter (envelope_Domain_l1 s) 0 = some ((firstI (fun _ c => if !smallC c then some () else none) 0 s).elim (.inl ()) .inr) := by
    refine iter_first s _ (Sum.inl ()) Sum.inr ?_ ?_
    · unfold envelope_Domain_l1; rw [dec_len]; rfl
    · intro i c hc
      have hi := lt_get hc
      unfold envelope_Domain_l1
      rw [dec_lt hc, idx_get hc]
      simp only [cond_true, Option.bind_some, u8_eq c 45 (by decide), u8_eq c 46 (by decide), u8_le1 97 c (by decide), u8_le2 122 c (by decide), u8_le1 48 c (by decide), u8_le2 57 c (by decide), dom_char]
      rw [show ((i : Int) + 1) = ((i + 1 : Nat) : Int) by omega, w64_n _ (by omega)]
      cases smallC c <;> rfl
  unfold envelope_Domain domP
  rw [hloop, firstI_any, dots_contains]
  by_cases hn : s = []
  · subst hn; simp
  · have h1 : (s != ([] : Str)) = true := by simpa using hn
    rw [h1]
    simp only [cond_true]
    by_cases hl : s.length ≤ 60
    · have h2 : decide ((s.length : Int) ≤ 60) = true := by simp; omega
      rw [h2]
      have hall : s.any (fun c => !smallC c) = !(s.all smallC) := by simp [List.not_all_eq_any_not]
      rw [hall]
      cases hg : s.all smallC with
      | false => simp [hl]
      | true =>
        simp only [Bool.not_true, Bool.false_eq_true, if_false, Option.elim, Option.bind_some, cond_true, strings_HasPrefix_eq, strings_HasSuffix_eq s [46] (by omega), strings_Contains, if_pos hs]
        have hp : ([46] : Str).isPrefixOf s = (s.head? == some 46) := by
          cases s with
          | nil => rfl
          | cons d r => simp only [List.isPrefixOf, List.head?_cons, Bool.and_true]; rw [Bool.eq_iff_iff]; simp; exact ⟨fun h => h.symm, fun h => h.symm⟩
        have hsf : ([46] : Str).isSuffixOf s = (s.getLast? == some 46) := by
          rw [Bool.eq_iff_iff, List.isSuffixOf_iff_suffix, beq_iff_eq]
          constructor
          · rintro ⟨t, rfl⟩; simp
          · intro h
            obtain ⟨ys, rfl⟩ := List.getLast?_eq_some_iff.1 h
            exact ⟨ys, rfl⟩
        have he : s.isEmpty = false := by simpa using hn
        rw [hp, hsf, he]
        cases s.head? == some 46 <;> cases s.getLast? == some 46 <;> cases Lib.contains s [46, 46] <;> simp [hl]
    · have h2 : decide ((s.length : Int) ≤ 60) = false := by simp; omega
      rw [h2]; simp [hl]
theorem indexByte_atP (s : Str) : Lib.index s [64] = if atP s < s.length then (atP s : Int) else -1 := by
  rw [Lib.index_one]
  unfold atP
  induction s with
  | nil => rfl
  | cons c r ih =>
    rw [Lib.indexByte, List.findIdx_cons]
    cases hc : (c == 64) with
    | true => simp
    | false =>
      simp only [Bool.false_eq_true, if_false, cond_false, List.length_cons]
      rw [ih]
      by_cases h : r.findIdx (· == 64) < r.length
      · simp only [if_pos h, if_pos (show r.findIdx (· == 64) + 1 < r.length + 1 by omega)]
        have : (((r.findIdx (· == 64) : Nat) : Int) == -1) = false := by rw [beq_eq_false_iff_ne]; omega
        rw [this]; simp
      · simp only [if_neg h, if_neg (show ¬ (r.findIdx (· == 64) + 1 < r.length + 1) by omega)]; simp
theorem cut_at (s : Str) : Lib.cut s [64] = if atP s < s.length then (s.take (atP s), s.drop (atP s + 1), true) else (s, [], false) := by
  unfold Lib.cut
  rw [indexByte_atP]
  by_cases h : atP s < s.length
  · rw [if_pos h, if_pos h, if_pos (by omega)]; simp
  · rw [if_neg h, if_neg h, if_neg (by omega)]
def splitP (s : Str) : Str × Str × Bool := if atP s < s.length then (s.take (atP s), s.drop (atP s + 1), addrP s) else (s, [], false)
theorem good_char (c : UInt8) : (lettC c || decide (0 ≤ Lib.indexByte [45, 95, 46, 43, 61] c)) = goodC c := by
  unfold goodC
  by_cases h1 : c = 45
  · subst h1; decide
  by_cases h2 : c = 95
  · subst h2; decide
  by_cases h3 : c = 46
  · subst h3; decide
  by_cases h4 : c = 43
  · subst h4; decide
  by_cases h5 : c = 61
  · subst h5; decide
  rw [beq_eq_false_iff_ne.2 h1, beq_eq_false_iff_ne.2 h2, beq_eq_false_iff_ne.2 h3, beq_eq_false_iff_ne.2 h4, beq_eq_false_iff_ne.2 h5]
  simp [Lib.indexByte, Ne.symm h1, Ne.symm h2, Ne.symm h3, Ne.symm h4, Ne.symm h5]
theorem envelope_Split_eq (s : Str) (hs : s.length < 4294967281) : envelope_Split s = some (splitP s) := by
  have hloop : ∀ v : Str × Str × Bool, v.1.length < 4294967281 → iter (envelope_Split_l1 v) 0 = some ((firstI (fun _ c => if !goodC c then some () else none) 0 v.1).elim (.inl ()) .inr) := by
    intro v hv
    refine iter_first v.1 _ (Sum.inl ()) Sum.inr ?_ ?_
    · unfold envelope_Split_l1; rw [dec_len]; rfl
    · intro i c hc
      have hi := lt_get hc
      unfold envelope_Split_l1
      rw [dec_lt hc, idx_get hc]
      simp only [cond_true, Option.bind_some, basic_Letter_eq, strings_IndexByte]
      rw [show ((i : Int) + 1) = ((i + 1 : Nat) : Int) by omega, w64_n _ (by omega)]
      have hg := good_char c
      cases hl : lettC c with
      | true => rw [hl] at hg; simp only [Bool.true_or] at hg; rw [← hg]; rfl
      | false => rw [hl] at hg; simp only [Bool.false_or] at hg; rw [← hg]; cases decide (0 ≤ Lib.indexByte [45, 95, 46, 43, 61] c) <;> rfl
  unfold envelope_Split strings_Cut
  rw [if_pos hs, cut_at]
  simp only [Option.bind_some]
  unfold splitP
  by_cases h : atP s < s.length
  · simp only [if_pos h, cond_true]
    rw [hloop _ (by simp; omega), firstI_any]
    have hall : (s.take (atP s)).any (fun c => !goodC c) = !((s.take (atP s)).all goodC) := by simp [List.not_all_eq_any_not]
    simp only [hall]
    have hlen : (s.take (atP s)).length = atP s := by simp; omega
    rw [hlen, envelope_Domain_eq _ (by simp; omega)]
    unfold addrP
    by_cases h0 : atP s = 0
    · simp [h0]
    · have hne : (s.take (atP s) != ([] : Str)) = true := by
        simp only [bne_iff_ne, ne_eq]
        intro hx
        have := congrArg List.length hx
        rw [hlen] at this; simp at this; omega
      rw [hne]
      by_cases h60 : atP s ≤ 60
      · have e : decide ((atP s : Int) ≤ 60) = true := by simp; omega
        rw [e]
        cases (s.take (atP s)).all goodC <;> simp [h, h60] <;> omega
      · have e : decide ((atP s : Int) ≤ 60) = false := by simp; omega
        rw [e]; simp [h60]
  · simp [if_neg h]
theorem addrP_split (s : Str) : (splitP s).2.2 = addrP s := by
  unfold splitP
  by_cases h : atP s < s.length
  · rw [if_pos h]
  · rw [if_neg h]; unfold addrP; simp [h]
theorem envelope_Address_eq (s : Str) (hs : s.length < 4294967281) : envelope_Address s = some (addrP s) := by
  unfold envelope_Address; rw [envelope_Split_eq s hs]; simp [addrP_split]

/-! ### small things -/
theorem R_Has_eq (l : List Str) (s : Str) (hl : l.length ≤ 9223372036854775806) : R_Has l s = some (l.contains s) := by
  unfold R_Has
  rw [iter_first l (fun _ x => if x == s then some true else none) (.inl ()) .inr, firstI_any]
  · simp only [Option.bind_some]
    have : l.any (fun x => x == s) = l.contains s := by
      rw [Bool.eq_iff_iff]; simp
    rw [this]
    cases l.contains s <;> rfl
  · unfold R_Has_l1; rw [dec_len]; rfl
  · intro i x hx
    have hi := lt_get hx
    unfold R_Has_l1
    rw [dec_lt hx, idx_get hx]
    simp only [cond_true, Option.bind_some]
    rw [show ((i : Int) + 1) = ((i + 1 : Nat) : Int) by omega, w64_n _ (by omega)]
    cases x == s <;> rfl
theorem R_Strings_eq (a b : List Str) (ha : a.length ≤ 9223372036854775806) : R_Strings a b = some (a == b) := by
  unfold R_Strings
  by_cases hlen : a.length = b.length
  · have h1 : ((a.length : Int) != (b.length : Int)) = false := by rw [hlen]; simp
    rw [h1]
    simp only [cond_false]
    rw [iter_first a (fun i x => if b[i]? != some x then some false else none) (.inl ()) .inr]
    · simp only [Option.bind_some]
      cases hf : firstI (fun i x => if b[i]? != some x then some false else none) 0 a with
      | none =>
        rw [firstI_none] at hf
        have : a = b := by
          apply List.ext_getElem?
          intro i
          by_cases hi : i < a.length
          · have := hf i a[i] (List.getElem?_eq_getElem hi)
            rw [Nat.zero_add] at this
            rw [List.getElem?_eq_getElem hi]
            simp at this; exact this.symm
          · rw [List.getElem?_eq_none (by omega), List.getElem?_eq_none (by omega)]
        subst this; simp
      | some r =>
        obtain ⟨i, x, hx, hq⟩ := firstI_some hf
        rw [Nat.zero_add] at hq
        split at hq
        · cases hq
          rename_i hne
          have : (a == b) = false := by
            rw [beq_eq_false_iff_ne]
            rintro rfl
            rw [hx] at hne; simp at hne
          rw [this]; rfl
        · cases hq
    · unfold R_Strings_l1; rw [dec_len]; rfl
    · intro i x hx
      have hi := lt_get hx
      unfold R_Strings_l1
      have hib : i < b.length := by omega
      rw [dec_lt hx, idx_get hx, idx_lt hib, List.getElem?_eq_getElem hib]
      simp only [cond_true, Option.bind_some]
      rw [show ((i : Int) + 1) = ((i + 1 : Nat) : Int) by omega, w64_n _ (by omega)]
      by_cases hxb : x = b[i]
      · subst hxb; simp
      · have e1 : (x != b[i]) = true := by simpa using hxb
        have e2 : (some b[i] != some x) = true := by simp; exact fun h => hxb h.symm
        rw [e1, e2]; rfl
  · have h1 : ((a.length : Int) != (b.length : Int)) = true := by simp; omega
    rw [h1]
    simp only [cond_true]
    have : (a == b) = false := by rw [beq_eq_false_iff_ne]; rintro rfl; exact hlen rfl
    rw [this]
end Go.Proofs.YtkoijpogjobgjaaGreat

/- Plain lemmas: bulk, counters, copying down in a list. No program is named. -/
namespace Go.Proofs.YtkoijpogjobgjaaGreat
open Go.RowKit
theorem first_idx {α : Type} (c : α → Bool) (l : List α) : ∀ n : Nat, decide ((0 : Int) ≤ (firstI (fun i x => if c x then some ((i : Nat) : Int) else none) n l).getD (-1)) = l.any c := by
  induction l with
  | nil => intro n; rfl
  | cons x l ih =>
    intro n
    unfold firstI
    cases hc : c x with
    | true => simp [hc]
    | false => simp only [Bool.false_eq_true, if_false, List.any_cons, hc, Bool.false_or]; exact ih (n + 1)
theorem elim_idx (o : Option Int) : Sum.elim (fun _ => some (-1)) (fun b => some b) (o.elim (Sum.inl ()) Sum.inr : Unit ⊕ Int) = some (o.getD (-1)) := by cases o <;> rfl
theorem sc (i : Nat) (h : i < 9223372036854775807) : w64 ((i : Int) + 1) = ((i + 1 : Nat) : Int) := by rw [show ((i : Int) + 1) = ((i + 1 : Nat) : Int) by omega, w64_n _ (by omega)]

theorem bkL_pos {T : Type} (bk : T → Nat) (l : List T) : 1 ≤ bkL bk l := by
  induction l with
  | nil => simp [bkL]
  | cons y l ih => unfold bkL; omega
theorem bkL_mem {T : Type} {bk : T → Nat} {l : List T} {x : T} (h : x ∈ l) : bk x + 1 ≤ bkL bk l := by
  induction l with
  | nil => cases h
  | cons y l ih =>
    unfold bkL
    have hp := bkL_pos bk l
    rcases List.mem_cons.1 h with rfl | h
    · omega
    · have := ih h; omega
theorem bkL_len {T : Type} {bk : T → Nat} (hb : ∀ x, 1 ≤ bk x) (l : List T) : l.length + 1 ≤ bkL bk l := by
  induction l with
  | nil => simp [bkL]
  | cons y l ih => unfold bkL; have := hb y; simp; omega

section
variable {α : Type}
/-- elements that do not go are copied down (slices.DeleteFunc) -/
theorem down_loop (q : α → Bool) (L0 : List α) (Pq : α → Prop) {body : Int × Int × List α → Option (Step (Int × Int × List α) (Int × List α))}
    (hend : ∀ i L, L.length = L0.length → body (i, (L0.length : Int), L) = some (.out (i, L)))
    (hstep : ∀ (i k : Nat) (L : List α) x, L.length = L0.length → L[k]? = some x → i ≤ k → Pq x → body ((i : Int), (k : Int), L) = some (.cont (if q x then ((i : Int), ((k + 1 : Nat) : Int), L) else (((i + 1 : Nat) : Int), ((k + 1 : Nat) : Int), L.set i x)))) :
    ∀ (r : List α) (i k : Nat) (L : List α), L.length = L0.length → L.drop k = r → i ≤ k → k ≤ L.length → (∀ x ∈ L, Pq x) → ∃ L', iter body ((i : Int), (k : Int), L) = some (((i + (r.filter fun x => !q x).length : Nat) : Int), L') ∧ L'.length = L0.length ∧ L'.take (i + (r.filter fun x => !q x).length) = L.take i ++ r.filter fun x => !q x := by
  intro r
  induction r with
  | nil =>
    intro i k L hl hd hik hk _
    have hkl : k = L.length := by
      have := congrArg List.length hd
      simp at this; omega
    subst hkl
    refine ⟨L, ?_, hl, by simp⟩
    rw [hl]
    simpa using iter_out (hend i L hl)
  | cons x r ih =>
    intro i k L hl hd hik hk hP
    have hlt : k < L.length := by
      have := congrArg List.length hd
      simp at this; omega
    have hx : L[k]? = some x := by
      have := List.getElem?_drop (xs := L) (i := k) (j := 0)
      rw [hd] at this
      simpa using this.symm
    have hd' : L.drop (k + 1) = r := by
      have := congrArg (List.drop 1) hd
      simpa [List.drop_drop, Nat.add_comm] using this
    have hs := hstep i k L x hl hx hik (hP x (List.mem_of_getElem? hx))
    cases hq : q x with
    | true =>
      rw [hq, if_pos rfl] at hs
      obtain ⟨L', h1, h2, h3⟩ := ih i (k + 1) L hl hd' (by omega) (by omega) hP
      refine ⟨L', (iter_cont hs).trans ?_, h2, ?_⟩
      · simpa [hq] using h1
      · simpa [hq] using h3
    | false =>
      rw [hq, if_neg (by simp)] at hs
      have hdr : (L.set i x).drop (k + 1) = r := by
        rw [List.drop_set_of_lt (by omega)]; exact hd'
      obtain ⟨L', h1, h2, h3⟩ := ih (i + 1) (k + 1) (L.set i x) (by simpa using hl) hdr (by omega) (by simp; omega) (fun y hy => by
        rcases List.mem_or_eq_of_mem_set hy with h | rfl
        · exact hP y h
        · exact hP _ (List.mem_of_getElem? hx))
      have hf : ((x :: r).filter fun x => !q x) = x :: r.filter fun x => !q x := by simp [hq]
      refine ⟨L', (iter_cont hs).trans ?_, h2, ?_⟩
      · rw [hf, h1]; simp only [List.length_cons]; congr 2; omega
      · rw [hf]
        have e : i + (x :: r.filter fun x => !q x).length = i + 1 + (r.filter fun x => !q x).length := by simp; omega
        rw [e, h3]
        have : (L.set i x).take (i + 1) = L.take i ++ [x] := by
          rw [List.take_add_one]
          have h5 : (L.set i x)[i]? = some x := List.getElem?_set_self (by omega)
          rw [h5, List.take_set_of_le (Nat.le_refl _)]; rfl
        rw [this]; simp
end
theorem mget_mputG {V : Type} (m : List (Str × V)) (k : Str) (v : V) (x : Str) : mget (mput m k v) x = if k == x then some v else mget m x := by
  induction m with
  | nil => rfl
  | cons p m ih =>
    obtain ⟨k', v'⟩ := p
    unfold mput
    by_cases h : k' = k
    · subst h
      simp only [beq_self_eq_true, if_true, mget]
      cases k' == x <;> simp
    · have h1 : (k' == k) = false := by simpa using h
      rw [h1]
      simp only [Bool.false_eq_true, if_false, mget]
      rw [ih]
      by_cases h2 : k' = x
      · subst h2
        have : (k == k') = false := by simpa using fun h' => h h'.symm
        simp [this]
      · have : (k' == x) = false := by simpa using h2
        rw [this]; simp

section
variable {α A S O : Type}
end
end Go.Proofs.YtkoijpogjobgjaaGreat

/- Aliases: the plain functions, and what the typed functions compute. -/
namespace Go.Proofs.YtkoijpogjobgjaaGreat
open Go.RowKit
set_option linter.unusedVariables false
set_option maxHeartbeats 1000000

/-! ### validation -/
end Go.Proofs.YtkoijpogjobgjaaGreat

/- Aliases: the search, and what the typed functions compute. -/
namespace Go.Proofs.YtkoijpogjobgjaaGreat
open Go.RowKit
set_option linter.unusedVariables false
set_option maxHeartbeats 1000000

/-! ### lists without repetition -/
def add1 (o : List Str) (x : Str) : List Str := if o.contains x then o else o ++ [x]
def addNew (o xs : List Str) : List Str := xs.foldl add1 o
theorem add1_mem (o : List Str) (x y : Str) : y ∈ add1 o x ↔ y ∈ o ∨ y = x := by
  unfold add1
  split
  · rename_i h
    simp at h
    constructor
    · exact .inl
    · rintro (h1 | rfl)
      · exact h1
      · exact h
  · simp
theorem add1_prefix (o : List Str) (x : Str) : o <+: add1 o x := by
  unfold add1; split
  · exact List.prefix_refl _
  · exact List.prefix_append _ _
theorem add1_nodup {o : List Str} (h : o.Nodup) (x : Str) : (add1 o x).Nodup := by
  unfold add1; split
  · exact h
  · rename_i hx
    simp at hx
    rw [List.nodup_append]
    exact ⟨h, by simp, fun a ha b hb hab => by simp at hb; subst hb; subst hab; exact hx ha⟩
theorem addNew_mem (xs : List Str) : ∀ (o : List Str) (y : Str), y ∈ addNew o xs ↔ y ∈ o ∨ y ∈ xs := by
  induction xs with
  | nil => intro o y; simp [addNew]
  | cons x xs ih => intro o y; show y ∈ addNew (add1 o x) xs ↔ _; rw [ih, add1_mem]; simp [or_assoc]
theorem addNew_prefix (xs : List Str) : ∀ o : List Str, o <+: addNew o xs := by
  induction xs with
  | nil => intro o; exact List.prefix_refl _
  | cons x xs ih => intro o; exact (add1_prefix o x).trans (ih _)
theorem addNew_nodup (xs : List Str) : ∀ {o : List Str}, o.Nodup → (addNew o xs).Nodup := by
  induction xs with
  | nil => intro o h; exact h
  | cons x xs ih => intro o h; exact ih (add1_nodup h x)
theorem nodup_le {l m : List Str} (hl : l.Nodup) (h : ∀ x ∈ l, x ∈ m) : l.length ≤ m.length := by
  induction l generalizing m with
  | nil => simp
  | cons x l ih =>
    have hx : x ∈ m := h x (by simp)
    obtain ⟨hxl, hl'⟩ := List.nodup_cons.1 hl
    have := ih (m := m.erase x) hl' (fun y hy => by
      have hne : y ≠ x := by rintro rfl; exact hxl hy
      exact (List.mem_erase_of_ne hne).2 (h y (by simp [hy])))
    rw [List.length_erase_of_mem hx] at this
    have : 0 < m.length := List.length_pos_of_mem hx
    simp; omega

/-! ### the search -/
def tgtO (l : List TAlias) (s : Str) : Option (List Str) := (l.find? (fun a => a.Address == s)).map (·.To)
def tgt (l : List TAlias) (s : Str) : List Str := (tgtO l s).getD []
def univ (l : List TAlias) (from_ : List Str) : List Str := from_ ++ l.flatMap (·.To)
theorem tgt_sub (l : List TAlias) (s x : Str) (h : x ∈ tgt l s) : ∃ a ∈ l, a.Address = s ∧ x ∈ a.To := by
  unfold tgt tgtO at h
  cases hf : l.find? (fun a => a.Address == s) with
  | none => rw [hf] at h; simp at h
  | some a =>
    rw [hf] at h
    have := List.find?_some hf
    exact ⟨a, List.mem_of_find?_eq_some hf, by simpa using this, by simpa using h⟩
/-- what holds of the list during the search -/
structure Inv (l : List TAlias) (U : List Str) (k : Nat) (out : List Str) : Prop where
  nd : out.Nodup
  sub : ∀ x ∈ out, x ∈ U
  le : k ≤ out.length
theorem Inv.len {l : List TAlias} {U : List Str} {k : Nat} {out : List Str} (h : Inv l U k out) : out.length ≤ U.length := nodup_le h.nd h.sub
theorem Inv.step {l : List TAlias} {from_ : List Str} {k : Nat} {out : List Str} (h : Inv l (univ l from_) k out) {s : Str} (hs : out[k]? = some s) : Inv l (univ l from_) (k + 1) (addNew out (tgt l s)) := by
  refine ⟨addNew_nodup _ h.nd, fun x hx => ?_, ?_⟩
  · rcases (addNew_mem _ _ _).1 hx with h1 | h1
    · exact h.sub x h1
    · obtain ⟨a, ha, _, hxa⟩ := tgt_sub l s x h1
      exact List.mem_append.2 (.inr (List.mem_flatMap.2 ⟨a, ha, hxa⟩))
  · have := (addNew_prefix (tgt l s) out).length_le
    have := lt_get hs
    omega
/-! ### the reference -/
end Go.Proofs.YtkoijpogjobgjaaGreat

/- Aliases: what the program's expansion and loops compute. -/
namespace Go.Proofs.YtkoijpogjobgjaaGreat
open Go.RowKit
set_option linter.unusedVariables false
set_option maxHeartbeats 1000000

/-! ### the table -/
end Go.Proofs.YtkoijpogjobgjaaGreat

/- Aliases: loops; the closed example; sizes. -/
namespace Go.Proofs.YtkoijpogjobgjaaGreat
open Go.RowKit
set_option linter.unusedVariables false
set_option maxHeartbeats 1000000

/-! ### the closed example -/
end Go.Proofs.YtkoijpogjobgjaaGreat

/- Envelopes: the plain functions, and what the typed functions compute. -/
namespace Go.Proofs.YtkoijpogjobgjaaGreat
open Go.RowKit
set_option linter.unusedVariables false
set_option maxHeartbeats 1000000

def nameC (c : UInt8) : Bool := lettC c || c == 45 || c == 95 || c == 46
def nameP (s : Str) : Bool := decide (1 ≤ s.length) && decide (s.length ≤ 60) && s.all nameC
theorem elim_unit_bool (o : Option Unit) (a b : Bool) : Sum.elim (fun _ => some a) (fun _ => some b) (o.elim (Sum.inl ()) Sum.inr : Unit ⊕ Unit) = some (bif o.isSome then b else a) := by cases o <;> rfl
theorem firstI_isSome {α R : Type} (c : α → Bool) (r : R) (l : List α) (n : Nat) : (firstI (fun _ x => if c x then some r else none) n l).isSome = l.any c := by
  rw [firstI_any]; cases l.any c <;> rfl
theorem not_all {α : Type} (l : List α) (p : α → Bool) : l.any (fun x => !p x) = !l.all p := by simp [List.not_all_eq_any_not]
theorem R_NameOk_eq (s : Str) (hs : s.length ≤ 1048576) : R_NameOk s = some (nameP s) := by
  unfold R_NameOk
  rw [iter_first s (fun _ c => if !nameC c then some false else none) (.inl ()) .inr, firstI_any, not_all]
  · simp only [Option.bind_some, R_In_eq]
    unfold nameP
    have e1 : decide ((1 : Int) ≤ (s.length : Int)) = decide (1 ≤ s.length) := by rw [Bool.eq_iff_iff]; simp; omega
    have e2 : decide ((s.length : Int) ≤ 60) = decide (s.length ≤ 60) := by rw [Bool.eq_iff_iff]; simp; omega
    rw [← e1, ← e2]
    cases s.all nameC <;> simp
  · unfold R_NameOk_l1; rw [dec_len]; rfl
  · intro i c hc
    have hi := lt_get hc
    unfold R_NameOk_l1
    rw [dec_lt hc, idx_get hc]
    simp only [cond_true, Option.bind_some, R_letterOrDigit_eq, u8_ne c 45 (by decide), u8_ne c 95 (by decide), u8_ne c 46 (by decide), sc i (by omega)]
    unfold nameC bne
    cases lettC c <;> cases (c == 45) <;> cases (c == 95) <;> cases (c == 46) <;> rfl
theorem basic_Name_eq (s : Str) (hs : s.length ≤ 1048576) : basic_Name s = some (nameP s) := by
  have hloop : iter (basic_Name_l1 s) 0 = some ((firstI (fun _ c => if !nameC c then some () else none) 0 s).elim (.inl ()) .inr) := by
    refine iter_first s _ (Sum.inl ()) Sum.inr ?_ ?_
    · unfold basic_Name_l1; rw [dec_len]; rfl
    · intro i c hc
      have hi := lt_get hc
      unfold basic_Name_l1
      rw [dec_lt hc, idx_get hc]
      simp only [cond_true, Option.bind_some, basic_Letter_eq, u8_eq c 45 (by decide), u8_eq c 95 (by decide), u8_eq c 46 (by decide), sc i (by omega)]
      unfold nameC
      cases lettC c <;> cases (c == 45) <;> cases (c == 95) <;> cases (c == 46) <;> rfl
  unfold basic_Name nameP
  rw [hloop]
  simp only [Option.bind_some, elim_unit_bool, firstI_isSome, not_all]
  by_cases hn : s = []
  · subst hn; rfl
  · have h1 : (s != ([] : Str)) = true := by simpa using hn
    have h2 : decide (1 ≤ s.length) = true := by have := List.length_pos_iff.2 hn; simp; omega
    have e2 : decide ((s.length : Int) ≤ 60) = decide (s.length ≤ 60) := by rw [Bool.eq_iff_iff]; simp; omega
    rw [h1, h2, e2]
    cases decide (s.length ≤ 60) <;> cases s.all nameC <;> rfl

/-! ### recipients, envelopes -/
def noteP (n : Int) : Bool := decide (0 ≤ n) && decide (n ≤ 7)
def recQ (l : List TRecipient) (i : Nat) (r : TRecipient) : Option TFault :=
  if !addrP r.Address then some ⟨10, i⟩ else if !noteP r.Notify then some ⟨3, i⟩ else if (l.take i).any (fun x => x.Address == r.Address) then some ⟨7, i⟩ else none
def recF (l : List TRecipient) : TFault := (firstI (recQ l) 0 l).getD ⟨0, 0⟩
def fromB (s : Str) : Bool := s != ([] : Str) && !addrP s
def envF (e : TEnvelope) : TFault := if fromB e.From then ⟨10, -10⟩ else if decide (e.To.length < 1) || decide (60 < e.To.length) then ⟨2, -11⟩ else if e.Id != ([] : Str) && !nameP e.Id then ⟨10, -12⟩ else recF e.To
def smallR (l : List TRecipient) : Prop := l.length ≤ 1048576 ∧ ∀ a ∈ l, a.Address.length ≤ 1048576
def smallE (e : TEnvelope) : Prop := e.From.length ≤ 1048576 ∧ e.Id.length ≤ 1048576 ∧ smallR e.To
theorem R_Known_eq (l : List TRecipient) (s : Str) (hl : l.length ≤ 1048576) : R_Known l s = some ((firstI (fun i x => if x.Address == s then some ((i : Nat) : Int) else none) 0 l).getD (-1)) := by
  unfold R_Known
  rw [iter_first l (fun i x => if x.Address == s then some ((i : Nat) : Int) else none) (.inl ()) .inr]
  · simp only [Option.bind_some, elim_idx]
  · unfold R_Known_l1; rw [dec_len]; rfl
  · intro i x hx
    have hi := lt_get hx
    unfold R_Known_l1
    rw [dec_lt hx, idx_get hx]
    simp only [cond_true, Option.bind_some, sc i (by omega)]
    cases x.Address == s <;> rfl
theorem R_At_eq (a b : Int) : R_At a b = some ⟨a, b⟩ := rfl
theorem basic_Fault_eq (a b : Int) : basic_Fault a b = some ⟨a, b⟩ := rfl
theorem basic_None_eq : basic_None = some ⟨0, 0⟩ := rfl
theorem basic_Failed_eq (f : TFault) : basic_Failed f = some (f.Code != 0) := rfl
theorem envelope_Notify_eq (n : Int) : envelope_Notify n = some (noteP n) := by unfold envelope_Notify noteP; cases decide (0 ≤ n) <;> rfl
theorem elim_fault (o : Option TFault) (f : TFault) : Sum.elim (fun _ => some f) (fun b => some b) (o.elim (Sum.inl ()) Sum.inr : Unit ⊕ TFault) = some (o.getD f) := by cases o <;> rfl
theorem any_take (l : List TRecipient) (i : Nat) (s : Str) (hl : l.length ≤ 1048576) : decide ((0 : Int) ≤ (firstI (fun i x => if x.Address == s then some ((i : Nat) : Int) else none) 0 (l.take i)).getD (-1)) = (l.take i).any (fun x => x.Address == s) := first_idx (fun x => x.Address == s) (l.take i) 0
theorem R_EnvelopeFault_eq (e : TEnvelope) (h : smallE e) : R_EnvelopeFault e = some (envF e) := by
  obtain ⟨h1, h2, h3, h4⟩ := h
  unfold R_EnvelopeFault envF
  rw [R_AddressOk_eq _ (by omega), R_NameOk_eq _ h2]
  have hloop : iter (R_EnvelopeFault_l1 e) 0 = some ((firstI (recQ e.To) 0 e.To).elim (.inl ()) .inr) := by
    refine iter_first e.To _ (Sum.inl ()) Sum.inr ?_ ?_
    · unfold R_EnvelopeFault_l1; rw [dec_len]; rfl
    · intro i r hr
      have hi := lt_get hr
      have ha := h4 r (List.mem_of_getElem? hr)
      unfold R_EnvelopeFault_l1 recQ
      rw [dec_lt hr, idx_get hr]
      simp only [cond_true, Option.bind_some, R_AddressOk_eq _ (show r.Address.length ≤ 9223372036854775806 by omega), R_At_eq, R_In_eq, cut_0n (Nat.le_of_lt hi), R_Known_eq _ _ (show (e.To.take i).length ≤ 1048576 by simp; omega), any_take _ _ _ h3, sc i (by omega)]
      unfold noteP
      cases addrP r.Address <;> cases (decide (0 ≤ r.Notify) && decide (r.Notify ≤ 7)) <;> cases (e.To.take i).any (fun x => x.Address == r.Address) <;> rfl
  rw [hloop]
  simp only [Option.bind_some, elim_fault, R_In_eq, R_At_eq]
  have e1 : (!(decide ((1 : Int) ≤ (e.To.length : Int)) && decide ((e.To.length : Int) ≤ 60))) = (decide (e.To.length < 1) || decide (60 < e.To.length)) := by generalize e.To.length = n; rw [Bool.eq_iff_iff]; simp; omega
  rw [e1]
  unfold fromB recF
  cases e.From != ([] : Str) <;> cases addrP e.From <;> cases (decide (e.To.length < 1) || decide (60 < e.To.length)) <;> cases e.Id != ([] : Str) <;> cases nameP e.Id <;> rfl
theorem envelope_Recipients_eq (l : List TRecipient) (h : smallR l) : envelope_Recipients l = some (recF l) := by
  obtain ⟨h3, h4⟩ := h
  unfold envelope_Recipients recF
  rw [iter_first l (recQ l) (.inl ()) .inr]
  · simp only [Option.bind_some, basic_None_eq, elim_fault]
  · unfold envelope_Recipients_l1; rw [dec_len]; rfl
  · intro i r hr
    have hi := lt_get hr
    have ha := h4 r (List.mem_of_getElem? hr)
    have hl2 : iter (envelope_Recipients_l2 r (l.take i)) 0 = some ((firstI (fun i x => if x.Address == r.Address then some ((i : Nat) : Int) else none) 0 (l.take i)).elim (.inl ()) .inr) := by
      refine iter_first (l.take i) _ (Sum.inl ()) Sum.inr ?_ ?_
      · unfold envelope_Recipients_l2; rw [dec_len]; rfl
      · intro k x hx
        have hk := lt_get hx
        simp at hk
        unfold envelope_Recipients_l2
        rw [dec_lt hx, idx_get hx]
        simp only [cond_true, Option.bind_some, sc k (by omega)]
        cases x.Address == r.Address <;> rfl
    unfold envelope_Recipients_l1 recQ
    rw [dec_lt hr, idx_get hr]
    simp only [cond_true, Option.bind_some, envelope_Address_eq _ (show r.Address.length < 4294967281 by omega), basic_Fault_eq, envelope_Notify_eq, cut_0n (Nat.le_of_lt hi), hl2, elim_idx, any_take _ _ _ h3, sc i (by omega)]
    cases addrP r.Address <;> cases noteP r.Notify <;> cases (l.take i).any (fun x => x.Address == r.Address) <;> rfl
theorem envelope_Validate_eq (e : TEnvelope) (h : smallE e) : envelope_Validate e = some (envF e) := by
  obtain ⟨h1, h2, h3⟩ := h
  unfold envelope_Validate envF
  rw [envelope_Address_eq _ (by omega), basic_Name_eq _ h2, envelope_Recipients_eq _ h3]
  have e1 : decide ((e.To.length : Int) < 1) = decide (e.To.length < 1) := by generalize e.To.length = n; rw [Bool.eq_iff_iff]; simp; omega
  have e2 : decide ((60 : Int) < (e.To.length : Int)) = decide (60 < e.To.length) := by rw [Bool.eq_iff_iff]; simp; omega
  simp only [Option.bind_some, basic_Fault_eq, e1, e2]
  unfold fromB
  cases e.From != ([] : Str) <;> cases addrP e.From <;> cases decide (e.To.length < 1) <;> cases decide (60 < e.To.length) <;> cases e.Id != ([] : Str) <;> cases nameP e.Id <;> rfl
theorem smallE_of {e : TEnvelope} (h : TEnvelope.bk e ≤ 1048576) : smallE e := by
  unfold TEnvelope.bk at h
  dsimp only at h
  refine ⟨by omega, by omega, ?_, fun a ha => ?_⟩
  · have := bkL_len (bk := TRecipient.bk) (fun x => by unfold TRecipient.bk; omega) e.To; omega
  · have h5 := bkL_mem (bk := TRecipient.bk) ha; have h6 : TRecipient.bk a = a.Address.length + 1 + 1 + 1 := rfl; omega
end Go.Proofs.YtkoijpogjobgjaaGreat

/- strings.IndexAny on a short text: plain. -/
namespace Go.Proofs.YtkoijpogjobgjaaGreat
open Go.RowKit
set_option linter.unusedVariables false
theorem strB_get (s : Str) (i : Nat) (h : i < s.length) : (strB s)[i]'(by rw [strB_size]; exact h) = s[i] := rfl
theorem strB_get! (s : Str) (i : Nat) (h : i < s.length) : (strB s).get! i = s[i] := by
  have := get_at (strB s) i (by rw [strB_size]; exact h)
  rw [Nat.add_zero] at this
  rw [this]; rfl
theorem rune_ascii {s : Str} {i : Nat} {c : UInt8} (h : s[i]? = some c) (hc : c.toNat < 128) : runeAt s i = (c.toNat : Int) ∧ wideAt s i = 1 := by
  have hi := lt_get h
  have e : s[i] = c := by rw [List.getElem?_eq_getElem hi] at h; exact Option.some.inj h
  have hd := decode_ascii (strB s) i (by rw [strB_size]; exact hi) (by rw [strB_get s i hi, e]; exact hc)
  unfold runeAt wideAt
  rw [hd, strB_get s i hi, e]
  exact ⟨rfl, rfl⟩
theorem rune_high {s : Str} {i : Nat} {c : UInt8} (h : s[i]? = some c) (hc : 128 ≤ c.toNat) : 128 ≤ runeAt s i ∧ runeAt s i ≤ 2147483647 ∧ 1 ≤ wideAt s i := by
  have hi := lt_get h
  have e : s[i] = c := by rw [List.getElem?_eq_getElem hi] at h; exact Option.some.inj h
  have hd := decode_high (strB s) i (by rw [strB_size]; exact hi) (by rw [strB_get s i hi, e]; exact hc)
  have hl := decode_le (strB s) i
  unfold runeAt wideAt
  exact ⟨by omega, by omega, hd.2⟩
theorem decode_cont (s : ByteArray) (pos : Nat) : ∀ k, 1 ≤ k → k < (Utf8.decode s pos).2 → (s.get! (pos + k)).toNat / 64 = 2 := by
  intro k h1 h2
  simp only [Utf8.decode] at h2
  repeat' split at h2
  all_goals first
    | (exfalso; simp at h2; omega)
    | (rename_i hq _
       simp only [Bool.and_eq_true, decide_eq_true_eq, beq_iff_eq] at hq
       have h2 : k < 2 := h2
       obtain rfl : k = 1 := by omega
       exact hq.2.2)
    | (rename_i hq _
       simp only [Bool.and_eq_true, decide_eq_true_eq, beq_iff_eq] at hq
       have h2 : k < 3 := h2
       have : k = 1 ∨ k = 2 := by omega
       rcases this with rfl | rfl
       · exact hq.1.2.2
       · exact hq.2.2)
    | (rename_i hq _
       simp only [Bool.and_eq_true, decide_eq_true_eq, beq_iff_eq] at hq
       have h2 : k < 4 := h2
       have : k = 1 ∨ k = 2 ∨ k = 3 := by omega
       rcases this with rfl | rfl | rfl
       · exact hq.1.1.2.2
       · exact hq.1.2.2
       · exact hq.2.2)
theorem rune_cont {s : Str} {i j : Nat} {c d : UInt8} (h : s[i]? = some c) (hc : 128 ≤ c.toNat) (h1 : i ≤ j) (h2 : j < i + wideAt s i) (hj : s[j]? = some d) : 128 ≤ d.toNat := by
  by_cases e : j = i
  · subst e; rw [h] at hj; cases hj; exact hc
  · have hjl := lt_get hj
    have e2 : s[j] = d := by rw [List.getElem?_eq_getElem hjl] at hj; exact Option.some.inj hj
    have := decode_cont (strB s) i (j - i) (by omega) (by unfold wideAt at h2; omega)
    rw [show i + (j - i) = j by omega, strB_get! s j hjl, e2] at this
    omega
theorem toU8_nat (c : UInt8) : toU8 (c.toNat : Int) = c := by
  unfold toU8
  have := c.toNat_lt
  rw [show ((c.toNat : Int) % 256).toNat = c.toNat by omega]
  simp
theorem asciiL_mem {t : Str} (h : asciiL t = true) {c : UInt8} (hc : c ∈ t) : c.toNat < 128 := by
  unfold asciiL at h
  rw [List.all_eq_true] at h
  simpa using h c hc
/-- a rune beyond ASCII ends with a byte beyond ASCII, and is of two bytes at least -/
theorem runeS_last {r : Int} (h : 128 ≤ r) : ∃ m x, 1 ≤ m ∧ m ≤ 3 ∧ (runeS r).length = m + 1 ∧ (runeS r)[m]? = some x ∧ 128 ≤ x.toNat := by
  unfold runeS
  simp only [Utf8.encode]
  have hc : 128 ≤ (if Utf8.valid r = true then r.toNat else Utf8.runeError) := by
    split
    · omega
    · decide
  generalize (if Utf8.valid r = true then r.toNat else Utf8.runeError) = c at hc
  have hb : ∀ n : Nat, 128 ≤ (UInt8.ofNat (128 + n % 64)).toNat := by
    intro n
    rw [UInt8.toNat_ofNat']
    have : (128 + n % 64) % 2 ^ 8 = 128 + n % 64 := Nat.mod_eq_of_lt (by omega)
    rw [this]; omega
  rw [if_neg (by omega)]
  split
  · exact ⟨1, _, by omega, by omega, rfl, rfl, hb c⟩
  · split
    · exact ⟨2, _, by omega, by omega, rfl, rfl, hb c⟩
    · exact ⟨3, _, by omega, by omega, rfl, rfl, hb c⟩
theorem indexByte_high {t : Str} (h : ∀ c ∈ t, c.toNat < 128) {x : UInt8} (hx : 128 ≤ x.toNat) : Lib.indexByte t x = -1 := by
  have hc := Lib.contains_iff_indexByte t x
  have hn : t.contains x = false := by
    rw [Bool.eq_false_iff]
    intro hm
    have := h x (by simpa using hm)
    omega
  rw [hn] at hc
  have hge := Lib.indexByte_ge t x
  have := of_decide_eq_false hc.symm
  omega
theorem IndexRune_ascii (t : Str) (c : UInt8) (hc : c.toNat < 128) : strings_IndexRune t (c.toNat : Int) = some (Lib.indexByte t c) := by
  unfold strings_IndexRune
  have h1 : decide ((0 : Int) ≤ (c.toNat : Int)) = true := by simp
  have h2 : decide ((c.toNat : Int) < 128) = true := by simp; omega
  rw [h1, h2]
  simp only [cond_true, Option.bind_some, toU8_nat]
  rfl
theorem IndexRune_high (t : Str) (r : Int) (hr : 128 ≤ r) (ht : ∀ c ∈ t, c.toNat < 128) (hl : t.length ≤ 4294967281) : strings_IndexRune t r = some (-1) := by
  unfold strings_IndexRune
  have h1 : decide ((0 : Int) ≤ r) = true := by simp; omega
  have h2 : decide (r < 128) = false := by simp; omega
  rw [h1, h2]
  simp only [cond_true, cond_false, Option.bind_some]
  cases hq : r == 65533 with
  | true =>
    simp only [cond_true]
    obtain ⟨o, ho, rfl⟩ := iter_rec (body := strings_IndexRune_l1 t) (fun i => i ≤ t.length) (fun i => t.length - i) (fun _ o => o = .inl ()) (fun i hi => by
      unfold strings_IndexRune_l1
      by_cases hlt : i < t.length
      · right
        have hg : t[i]? = some t[i] := List.getElem?_eq_getElem hlt
        have hc := ht t[i] (List.getElem_mem hlt)
        obtain ⟨e1, e2⟩ := rune_ascii hg hc
        rw [e1, e2, decide_eq_true hlt]
        have hne : ((t[i].toNat : Int) == 65533) = false := by rw [beq_eq_false_iff_ne]; omega
        rw [hne]
        exact ⟨i + 1, rfl, by omega, by omega, fun _ h => h⟩
      · left
        rw [decide_eq_false hlt]
        exact ⟨.inl (), rfl, rfl⟩) 0 (Nat.zero_le _)
    rw [ho]; rfl
  | false =>
    simp only [cond_false]
    have hv : ∃ b, unicode_utf8_ValidRune r = some b := by
      unfold unicode_utf8_ValidRune
      cases decide (0 ≤ r) <;> cases decide (r < 55296) <;> cases decide (57343 < r) <;> cases decide (r ≤ 1114111) <;> exact ⟨_, rfl⟩
    obtain ⟨b, hb⟩ := hv
    rw [hb]
    simp only [Option.bind_some]
    cases b with
    | false => rfl
    | true =>
      simp only [Bool.not_true, cond_false]
      obtain ⟨m, x, hm1, hm3, hlen, hx, hx128⟩ := runeS_last hr
      have hst : w64 (((runeS r).length : Int) - 1) = (m : Int) := by rw [hlen, w64_id (by omega) (by omega)]; omega
      rw [hst]
      have hbody : ∃ o, strings_IndexRune_l2 t r (m : Int) = some (.out o) ∧ (o = .inl () ∨ o = .inr (-1)) := by
        unfold strings_IndexRune_l2
        by_cases hlt : m < t.length
        · have hd : decide ((m : Int) < (t.length : Int)) = true := by simp; omega
          have hc := ht t[m] (List.getElem_mem hlt)
          rw [hd, hst, idx_lt hlt, idx_get hx]
          have hne : ((t[m].toNat : Int) != (x.toNat : Int)) = true := by simp; omega
          simp only [cond_true, Option.bind_some, hne]
          rw [show (m : Int) + 1 = ((m + 1 : Nat) : Int) by omega, w64_n _ (by omega), cut_nl (by omega)]
          simp only [Option.bind_some]
          have hib : strings_IndexByte (t.drop (m + 1)) x = some (-1) := by
            show some (Lib.indexByte (t.drop (m + 1)) x) = _
            rw [indexByte_high (fun c hc => ht c (List.mem_of_mem_drop hc)) hx128]
          rw [hib]
          exact ⟨.inr (-1), rfl, .inr rfl⟩
        · have hd : decide ((m : Int) < (t.length : Int)) = false := by simp; omega
          rw [hd]
          exact ⟨.inl (), rfl, .inl rfl⟩
      obtain ⟨o, ho, ho2⟩ := hbody
      rw [iter_out ho]
      rcases ho2 with rfl | rfl <;> rfl
theorem IndexAnyP_eq (s t : Str) (h8 : s.length ≤ 8) (h2 : 2 ≤ t.length) (hl : t.length < 4294967281) (ht : asciiL t = true) : strings_IndexAnyP s t = some (Lib.indexAny s t) := by
  have htc : ∀ c ∈ t, c.toNat < 128 := fun c hc => asciiL_mem ht hc
  unfold strings_IndexAnyP
  have e1 : (t == ([] : Str)) = false := by rw [beq_eq_false_iff_ne]; rintro rfl; simp at h2
  have e2 : ((t.length : Int) == 1) = false := by rw [beq_eq_false_iff_ne]; omega
  have e3 : strings_shouldUseASCIISet (s.length : Int) = some false := by unfold strings_shouldUseASCIISet; simp; omega
  rw [e1, e2, e3]
  simp only [cond_false, Option.bind_some]
  obtain ⟨o, ho, ho2⟩ := iter_rec (body := strings_IndexAnyP_l1 s t) (fun i => Lib.NoAny s t i) (fun i => s.length - i) (fun _ o => Sum.elim (fun _ => some (-1)) (fun b => some b) o = some (Lib.indexAny s t)) (fun i hi => by
    unfold strings_IndexAnyP_l1
    by_cases hlt : i < s.length
    · have hg : s[i]? = some s[i] := List.getElem?_eq_getElem hlt
      rw [decide_eq_true hlt]
      simp only [cond_true]
      by_cases hc : s[i].toNat < 128
      · obtain ⟨q1, q2⟩ := rune_ascii hg hc
        rw [q1, q2, IndexRune_ascii t _ hc]
        simp only [Option.bind_some]
        have hcon := Lib.contains_iff_indexByte t s[i]
        rw [← hcon]
        cases hin : t.contains s[i] with
        | true =>
          left
          exact ⟨.inr (i : Int), rfl, by rw [Lib.indexAny_hit hi hg hin]; rfl⟩
        | false =>
          right
          exact ⟨i + 1, rfl, hi.succ hg hin, by omega, fun _ h => h⟩
      · have hc : 128 ≤ s[i].toNat := by omega
        obtain ⟨q1, q2, q3⟩ := rune_high hg hc
        rw [IndexRune_high t _ q1 htc (by omega)]
        right
        refine ⟨i + wideAt s i, rfl, fun j b hj hb => ?_, by omega, fun _ h => h⟩
        by_cases hji : j < i
        · exact hi j b hji hb
        · have := rune_cont hg hc (by omega) hj hb
          rw [Bool.eq_false_iff]
          intro hm
          have := htc b (by simpa using hm)
          omega
    · left
      rw [decide_eq_false hlt]
      refine ⟨.inl (), rfl, ?_⟩
      have hn : Lib.NoAny s t s.length := fun j b hj hb => hi j b (by omega) hb
      rw [Lib.indexAny_none hn]; rfl) 0 (Lib.NoAny.zero s t)
  rw [ho]; exact ho2
end Go.Proofs.YtkoijpogjobgjaaGreat

/- Header fields in lines: the plain functions, and what the typed functions compute. -/
namespace Go.Proofs.YtkoijpogjobgjaaGreat
open Go.RowKit
set_option linter.unusedVariables false
set_option maxHeartbeats 1000000

def blankC (c : UInt8) : Bool := c == 32 || c == 9
theorem R_blank_eq (c : UInt8) : R_blank c = some (blankC c) := by
  unfold R_blank blankC
  rw [u8_eq c 32 (by decide), u8_eq c 9 (by decide)]
  cases c == 32 <;> rfl
theorem basic_Blank_eq (c : UInt8) : basic_Blank c = some (blankC c) := by
  unfold basic_Blank blankC
  rw [u8_eq c 32 (by decide), u8_eq c 9 (by decide)]
  cases c == 32 <;> rfl
def fnC (c : UInt8) : Bool := decide (33 ≤ c) && decide (c ≤ 126) && c != 58
def fnP (s : Str) : Bool := s != ([] : Str) && decide (s.length ≤ 60) && s.all fnC
theorem dec60 (s : Str) : decide ((s.length : Int) ≤ 60) = decide (s.length ≤ 60) := by generalize s.length = n; rw [Bool.eq_iff_iff]; simp; omega
theorem fold_name_eq (s : Str) (hs : s.length ≤ 1048576) : fold_name s = some (fnP s) := by
  have hloop : iter (fold_name_l1 s) 0 = some ((firstI (fun _ c => if !fnC c then some () else none) 0 s).elim (.inl ()) .inr) := by
    refine iter_first s _ (Sum.inl ()) Sum.inr ?_ ?_
    · unfold fold_name_l1; rw [dec_len]; rfl
    · intro i c hc
      have hi := lt_get hc
      unfold fold_name_l1
      rw [dec_lt hc, idx_get hc]
      simp only [cond_true, Option.bind_some, u8_ne c 58 (by decide), u8_le1 33 c (by decide), u8_le2 126 c (by decide), sc i (by omega)]
      unfold fnC
      cases decide ((33 : UInt8) ≤ c) <;> cases decide (c ≤ 126) <;> cases c != 58 <;> rfl
  unfold fold_name fnP
  rw [hloop]
  simp only [Option.bind_some, elim_unit_bool, firstI_isSome, not_all, dec60]
  cases s != ([] : Str) <;> cases decide (s.length ≤ 60) <;> cases s.all fnC <;> rfl
def endC (c : UInt8) : Bool := c == 13 || c == 10 || c == 0
theorem indexAny_any (t : Str) : ∀ s : Str, decide (0 ≤ Lib.indexAny s t) = s.any fun c => t.contains c := by
  intro s
  induction s with
  | nil => rfl
  | cons c s ih =>
    have hge := Lib.indexAny_ge t s
    rw [List.any_cons, ← ih, Lib.indexAny]
    cases t.contains c with
    | true => simp
    | false =>
      simp only [Bool.false_eq_true, if_false, Bool.false_or]
      by_cases h : Lib.indexAny s t = -1
      · simp [h]
      · have : (Lib.indexAny s t == -1) = false := by simpa using h
        rw [this]
        simp only [Bool.false_eq_true, if_false]
        rw [Bool.eq_iff_iff]; simp; omega
theorem strings_ContainsAny_eq (s t : Str) (hs : s.length ≤ 1048576) (h2 : 2 ≤ t.length) (hl : t.length ≤ 1048576) (ht : asciiL t = true) : strings_ContainsAny s t = some (s.any fun c => t.contains c) := by
  unfold strings_ContainsAny strings_IndexAny
  rw [if_pos ⟨by omega, by omega, h2, ht⟩]
  simp only [Option.bind_some, indexAny_any]
theorem fold_ends_eq (s : Str) (hs : s.length ≤ 1048576) : fold_ends s = some (s.any endC) := by
  unfold fold_ends
  rw [strings_ContainsAny_eq s _ hs (by decide) (by decide) (by decide)]
  simp only [Option.bind_some, Option.some.injEq]
  congr 1
  funext c
  rw [Bool.eq_iff_iff]
  simp [endC, or_assoc]
def edgeP (s : Str) : Bool := match s.head?, s.getLast? with | some a, some b => blankC a || blankC b | _, _ => false
def valP (s : Str) : Bool := !(s.any endC) && !(edgeP s)
theorem idx_last (s : Str) (h : s ≠ []) (hs : s.length ≤ 1048576) : ∃ a b, idx s 0 = some a ∧ idx s (w64 ((s.length : Int) - 1)) = some b ∧ s.head? = some a ∧ s.getLast? = some b := by
  have hpos := List.length_pos_iff.2 h
  obtain ⟨a, r, rfl⟩ := List.exists_cons_of_ne_nil h
  have e : w64 (((a :: r).length : Int) - 1) = ((r.length : Nat) : Int) := by
    have hl : (a :: r).length = r.length + 1 := rfl
    rw [w64_id (by omega) (by omega)]; omega
  refine ⟨a, (a :: r).getLast h, rfl, ?_, rfl, List.getLast?_eq_some_getLast h⟩
  rw [e, idx_nat, List.getLast_eq_getElem h, List.getElem?_eq_getElem (by simp)]
  congr 2
theorem fold_value_eq (s : Str) (hs : s.length ≤ 1048576) : fold_value s = some (valP s) := by
  unfold fold_value valP
  rw [fold_ends_eq s hs]
  simp only [Option.bind_some]
  by_cases hn : s = []
  · subst hn; rfl
  · obtain ⟨a, b, h1, h2, h3, h4⟩ := idx_last s hn hs
    have e : (s == ([] : Str)) = false := by simpa using hn
    unfold edgeP
    rw [h1, h2, h3, h4, e]
    simp only [Option.bind_some, basic_Blank_eq, cond_false]
    cases s.any endC <;> cases blankC a <;> cases blankC b <;> rfl

/-! ### where a line is cut -/
/-- may a line be cut here? -/
def br (t : Str) (f i : Nat) : Bool := decide (1 ≤ i) && decide (f ≤ i) && (match t[i]?, t[i - 1]? with | some a, some b => blankC a && !blankC b | _, _ => false)
def cutDn (t : Str) (f : Nat) : Nat → Nat
  | 0 => 0
  | i + 1 => if br t f (i + 1) then i + 1 else cutDn t f i
def cutUp (t : Str) (f : Nat) : Nat → Nat → Nat
  | 0, _ => 0
  | n + 1, i => if br t f i then i else cutUp t f n (i + 1)
def cutP (t : Str) (f : Nat) : Nat := if cutDn t f 78 = 0 then cutUp t f (t.length - 79) 79 else cutDn t f 78
/-- what the cut is -/
def CutIs (t : Str) (f c : Nat) : Prop := (c = 0 ∧ ∀ j, br t f j = false) ∨ (br t f c = true ∧ ((c ≤ 78 ∧ ∀ j, c < j → j ≤ 78 → br t f j = false) ∨ (78 < c ∧ ∀ j, j < c → br t f j = false)))
theorem br_zero (t : Str) (f : Nat) : br t f 0 = false := rfl
theorem br_lt {t : Str} {f i : Nat} (h : br t f i = true) : i < t.length ∧ 1 ≤ i ∧ f ≤ i := by
  unfold br at h
  simp only [Bool.and_eq_true, decide_eq_true_eq] at h
  obtain ⟨⟨h1, h2⟩, h3⟩ := h
  refine ⟨?_, h1, h2⟩
  cases hi : t[i]? with
  | none => rw [hi] at h3; simp at h3
  | some a => exact lt_get hi
theorem cutIs_unique {t : Str} {f c d : Nat} (h : CutIs t f c) (k : CutIs t f d) : c = d := by
  rcases h with ⟨rfl, h⟩ | ⟨hc, h⟩ <;> rcases k with ⟨rfl, k⟩ | ⟨hd, k⟩
  · rfl
  · rw [h] at hd; cases hd
  · rw [k] at hc; cases hc
  · rcases Nat.lt_trichotomy c d with hlt | heq | hgt
    · exfalso
      rcases h with ⟨h1, h2⟩ | ⟨h1, h2⟩ <;> rcases k with ⟨k1, k2⟩ | ⟨k1, k2⟩
      · rw [h2 d hlt k1] at hd; cases hd
      · rw [k2 c hlt] at hc; cases hc
      · omega
      · rw [k2 c hlt] at hc; cases hc
    · exact heq
    · exfalso
      rcases h with ⟨h1, h2⟩ | ⟨h1, h2⟩ <;> rcases k with ⟨k1, k2⟩ | ⟨k1, k2⟩
      · rw [k2 c hgt h1] at hc; cases hc
      · omega
      · rw [h2 d hgt] at hd; cases hd
      · rw [h2 d hgt] at hd; cases hd
theorem cutDn_spec (t : Str) (f : Nat) : ∀ n, (cutDn t f n = 0 ∧ ∀ j, j ≤ n → br t f j = false) ∨ (br t f (cutDn t f n) = true ∧ cutDn t f n ≤ n ∧ ∀ j, cutDn t f n < j → j ≤ n → br t f j = false) := by
  intro n
  induction n with
  | zero => left; exact ⟨rfl, fun j hj => by obtain rfl : j = 0 := by omega
                                             exact br_zero t f⟩
  | succ n ih =>
    unfold cutDn
    by_cases h : br t f (n + 1) = true
    · rw [if_pos h]; right; exact ⟨h, Nat.le_refl _, fun j h1 h2 => by omega⟩
    · rw [if_neg h]
      rcases ih with ⟨h1, h2⟩ | ⟨h1, h2, h3⟩
      · left
        refine ⟨h1, fun j hj => ?_⟩
        by_cases e : j = n + 1
        · subst e; simpa using h
        · exact h2 j (by omega)
      · right
        refine ⟨h1, by omega, fun j hj hjn => ?_⟩
        by_cases e : j = n + 1
        · subst e; simpa using h
        · exact h3 j hj (by omega)
theorem cutUp_spec (t : Str) (f : Nat) : ∀ n i, (cutUp t f n i = 0 ∧ ∀ j, i ≤ j → j < i + n → br t f j = false) ∨ (br t f (cutUp t f n i) = true ∧ i ≤ cutUp t f n i ∧ ∀ j, i ≤ j → j < cutUp t f n i → br t f j = false) := by
  intro n
  induction n with
  | zero => intro i; left; exact ⟨rfl, fun j h1 h2 => by omega⟩
  | succ n ih =>
    intro i
    unfold cutUp
    by_cases h : br t f i = true
    · rw [if_pos h]; right; exact ⟨h, Nat.le_refl _, fun j h1 h2 => by omega⟩
    · rw [if_neg h]
      have hb : br t f i = false := by simpa using h
      rcases ih (i + 1) with ⟨h1, h2⟩ | ⟨h1, h2, h3⟩
      · left
        refine ⟨h1, fun j hj hjn => ?_⟩
        by_cases e : j = i
        · subst e; exact hb
        · exact h2 j (by omega) (by omega)
      · right
        refine ⟨h1, by omega, fun j hj hjn => ?_⟩
        by_cases e : j = i
        · subst e; exact hb
        · exact h3 j (by omega) hjn
theorem cutP_is (t : Str) (f : Nat) : CutIs t f (cutP t f) := by
  unfold cutP
  rcases cutDn_spec t f 78 with ⟨h1, h2⟩ | ⟨h1, h2, h3⟩
  · rw [if_pos h1]
    rcases cutUp_spec t f (t.length - 79) 79 with ⟨k1, k2⟩ | ⟨k1, k2, k3⟩
    · left
      refine ⟨k1, fun j => ?_⟩
      by_cases hj : j ≤ 78
      · exact h2 j hj
      · cases hb : br t f j with
        | false => rfl
        | true => have := (br_lt hb).1; rw [k2 j (by omega) (by omega)] at hb; cases hb
    · right
      refine ⟨k1, .inr ⟨by omega, fun j hj => ?_⟩⟩
      by_cases hj2 : j ≤ 78
      · exact h2 j hj2
      · exact k3 j (by omega) hj
  · have hne : cutDn t f 78 ≠ 0 := by intro h; rw [h, br_zero] at h1; cases h1
    rw [if_neg hne]
    exact .inr ⟨h1, .inl ⟨h2, h3⟩⟩
theorem cutP_pos {t : Str} {f : Nat} (h : cutP t f ≠ 0) : 1 ≤ cutP t f ∧ cutP t f < t.length := by
  rcases cutP_is t f with ⟨h1, _⟩ | ⟨h1, _⟩
  · exact absurd h1 h
  · exact ⟨(br_lt h1).2.1, (br_lt h1).1⟩
/-- the typed test at a place inside -/
theorem br_at {t : Str} {f i : Nat} (h1 : 1 ≤ i) (hi : i < t.length) : br t f i = (decide (f ≤ i) && (blankC t[i] && !blankC (t[i - 1]'(by omega)))) := by
  unfold br
  rw [List.getElem?_eq_getElem hi, List.getElem?_eq_getElem (show i - 1 < t.length by omega)]
  simp [h1]
def PInv (t : Str) (f b i : Nat) : Prop := f ≤ i ∧ 1 ≤ i ∧ ((b = 0 ∧ ∀ j, j < i → br t f j = false) ∨ (br t f b = true ∧ b < i ∧ ((b ≤ 78 ∧ ∀ j, b < j → j < i → br t f j = false) ∨ (78 < b ∧ ∀ j, j < b → br t f j = false))))
theorem PInv.done {t : Str} {f b i : Nat} (h : PInv t f b i) (hi : 0 < b ∧ 78 < i ∨ t.length ≤ i) : CutIs t f b := by
  obtain ⟨hf, h1, h2⟩ := h
  rcases h2 with ⟨rfl, h3⟩ | ⟨h3, h4, h5⟩
  · left
    refine ⟨rfl, fun j => ?_⟩
    cases hb : br t f j with
    | false => rfl
    | true =>
      have := (br_lt hb).1
      rw [h3 j (by omega)] at hb; cases hb
  · right
    refine ⟨h3, ?_⟩
    rcases h5 with ⟨h6, h7⟩ | h6
    · left
      refine ⟨h6, fun j hj hj2 => ?_⟩
      cases hb : br t f j with
      | false => rfl
      | true =>
        have := (br_lt hb).1
        rw [h7 j hj (by omega)] at hb; cases hb
    · exact .inr h6
theorem fold_point_eq (t : Str) (f : Nat) (ht : t.length ≤ 4194304) (hf : f ≤ 4194304) : fold_point t (f : Int) = some ((cutP t (max f 1) : Nat) : Int) := by
  unfold fold_point
  have hstart : max (f : Int) 1 = ((max f 1 : Nat) : Int) := by omega
  rw [hstart]
  obtain ⟨r, h1, b, rfl, h2⟩ := iter_rec (body := fold_point_l1 t) (fun s => ∃ b i : Nat, s = ((b : Int), (i : Int)) ∧ PInv t (max f 1) b i ∧ i ≤ 4194305) (fun s => (4194306 - s.2).toNat) (fun _ r => ∃ c : Nat, r = (c : Int) ∧ CutIs t (max f 1) c) (by
    rintro _ ⟨b, i, rfl, hI, hil⟩
    have hi1 := hI.2.1
    unfold fold_point_l1
    dsimp only
    by_cases hlt : i < t.length
    · have hd : decide ((i : Int) < (t.length : Int)) = true := by simp; omega
      have hpre : w64 ((i : Int) - 1) = ((i - 1 : Nat) : Int) := by rw [w64_id (by omega) (by omega)]; omega
      rw [hd, idx_lt hlt, hpre, idx_lt (show i - 1 < t.length by omega)]
      have hb := br_at (f := max f 1) hi1 hlt
      have hfi : decide (max f 1 ≤ i) = true := by simp only [decide_eq_true_eq]; exact hI.1
      rw [hfi, Bool.true_and] at hb
      simp only [cond_true, Option.bind_some, basic_Blank_eq]
      have next : ∀ b' : Nat, PInv t (max f 1) b' (i + 1) → fold_point_k2 ((b : Int), (i : Int)) (b' : Int) = some (.cont ((b' : Int), ((i + 1 : Nat) : Int))) := by
        intro b' _
        unfold fold_point_k2
        dsimp only
        rw [sc i (by omega)]
      have hno : br t (max f 1) i = false → PInv t (max f 1) b (i + 1) := by
        intro hnb
        refine ⟨by have := hI.1; omega, by omega, ?_⟩
        rcases hI.2.2 with ⟨q1, q2⟩ | ⟨q1, q2, q3⟩
        · left
          refine ⟨q1, fun j hj => ?_⟩
          by_cases e : j = i
          · subst e; exact hnb
          · exact q2 j (by omega)
        · right
          refine ⟨q1, by omega, ?_⟩
          rcases q3 with ⟨q4, q5⟩ | q4
          · left
            refine ⟨q4, fun j hj hj2 => ?_⟩
            by_cases e : j = i
            · subst e; exact hnb
            · exact q5 j hj (by omega)
          · exact .inr q4
      have goNo : br t (max f 1) i = false → (∃ s', fold_point_k2 ((b : Int), (i : Int)) (b : Int) = some (.cont s') ∧ (∃ b i : Nat, s' = ((b : Int), (i : Int)) ∧ PInv t (max f 1) b i ∧ i ≤ 4194305) ∧ (4194306 - s'.2).toNat < (4194306 - ((i : Int))).toNat ∧ ∀ r : Int, (∃ c : Nat, r = (c : Int) ∧ CutIs t (max f 1) c) → ∃ c : Nat, r = (c : Int) ∧ CutIs t (max f 1) c) := by
        intro hnb
        exact ⟨_, next b (hno hnb), ⟨b, i + 1, rfl, hno hnb, by omega⟩, by dsimp only; omega, fun _ h => h⟩
      cases ha : blankC t[i] with
      | false =>
        rw [ha] at hb
        simp only [Bool.not_false, cond_true, Option.bind_some]
        exact .inr (goNo hb)
      | true =>
        rw [ha] at hb
        simp only [Bool.not_true, cond_false, Option.bind_some]
        cases hp : blankC t[i - 1] with
        | true =>
          rw [hp] at hb
          simp only [cond_true]
          exact .inr (goNo hb)
        | false =>
          rw [hp] at hb
          have hb : br t (max f 1) i = true := hb
          simp only [cond_false]
          by_cases hb0 : 0 < b ∧ 78 < i
          · left
            have e1 : decide ((0 : Int) < (b : Int)) = true := by simp; omega
            have e2 : decide ((78 : Int) < (i : Int)) = true := by simp; omega
            rw [e1, e2]
            exact ⟨(b : Int), rfl, b, rfl, hI.done (.inl hb0)⟩
          · right
            have e : (bif decide ((0 : Int) < (b : Int)) then some (decide ((78 : Int) < (i : Int))) else some false) = some false := by
              by_cases h0 : 0 < b
              · have e1 : decide ((0 : Int) < (b : Int)) = true := by simp; omega
                have e2 : decide ((78 : Int) < (i : Int)) = false := by simp; omega
                rw [e1, e2]; rfl
              · have e1 : decide ((0 : Int) < (b : Int)) = false := by simp; omega
                rw [e1]; rfl
            rw [e]
            simp only [Option.bind_some, cond_false]
            have hnew : PInv t (max f 1) i (i + 1) := by
              refine ⟨by have := hI.1; omega, by omega, .inr ⟨hb, by omega, ?_⟩⟩
              by_cases h78 : i ≤ 78
              · exact .inl ⟨h78, fun j h1 h2 => by omega⟩
              · right
                refine ⟨by omega, ?_⟩
                rcases hI.2.2 with ⟨q1, q2⟩ | ⟨q1, q2, q3⟩
                · exact q2
                · exfalso
                  have := (br_lt q1).2.1
                  omega
            exact ⟨_, next i hnew, ⟨i, i + 1, rfl, hnew, by omega⟩, by dsimp only; omega, fun _ h => h⟩
    · left
      have hd : decide ((i : Int) < (t.length : Int)) = false := by simp; omega
      rw [hd]
      exact ⟨(b : Int), rfl, b, rfl, hI.done (.inr (by omega))⟩) ((0 : Int), ((max f 1 : Nat) : Int)) ⟨0, max f 1, rfl, ⟨Nat.le_refl _, by omega, .inl ⟨rfl, fun j hj => by
      cases hb : br t (max f 1) j with
      | false => rfl
      | true => have := (br_lt hb).2.2; omega⟩⟩, by omega⟩
  rw [h1]
  simp only [Option.bind_some]
  rw [cutIs_unique h2 (cutP_is t (max f 1))]
/-- the reference's search -/
theorem R_cut_eq (t : Str) (f : Nat) (out : List Str) (ht : t.length ≤ 4194304) (h78 : 78 < t.length) (hf : f ≤ 4194304) (h1f : 1 ≤ f) : ((iter (R_FieldLines_l2 (t, (f : Int), out)) (0, 78)).bind fun b10 => iter (R_FieldLines_l3 (t, (f : Int), out)) (b10, 79)) = some ((cutP t f : Nat) : Int) := by
  have test : ∀ i : Nat, 1 ≤ i → i < t.length → ((bif decide ((f : Int) ≤ (i : Int)) then (idx t (i : Int)).bind fun v18 => (R_blank v18).bind fun v20 => (bif v20 then (idx t ((w64 ((i : Int) - 1)))).bind fun v23 => (R_blank v23).bind fun v25 => some ((!v25)) else some false) else some false) : Option Bool) = some (br t f i) := by
    intro i h1 h2
    have hpre : w64 ((i : Int) - 1) = ((i - 1 : Nat) : Int) := by rw [w64_id (by omega) (by omega)]; omega
    rw [br_at h1 h2, idx_lt h2, hpre, idx_lt (show i - 1 < t.length by omega)]
    have e : decide ((f : Int) ≤ (i : Int)) = decide (f ≤ i) := by rw [Bool.eq_iff_iff]; simp
    rw [e]
    simp only [Option.bind_some, R_blank_eq]
    cases decide (f ≤ i) <;> cases blankC t[i] <;> rfl
  have hdn : ∀ i : Nat, i ≤ 78 → iter (R_FieldLines_l2 (t, (f : Int), out)) (0, (i : Int)) = some ((cutDn t f i : Nat) : Int) := by
    intro i
    induction i with
    | zero => intro _; exact iter_out (by unfold R_FieldLines_l2; rfl)
    | succ i ih =>
      intro hi
      have hb : R_FieldLines_l2 (t, (f : Int), out) (0, ((i + 1 : Nat) : Int)) = some (.cont ((bif br t f (i + 1) then ((i + 1 : Nat) : Int) else 0), (i : Int))) := by
        unfold R_FieldLines_l2
        dsimp only
        have e1 : decide ((0 : Int) < ((i + 1 : Nat) : Int)) = true := by rw [decide_eq_true_eq]; omega
        have e2 : w64 (((i + 1 : Nat) : Int) - 1) = (i : Int) := by rw [w64_id (by omega) (by omega)]; omega
        rw [test (i + 1) (by omega) (by omega), e1, e2]
        simp only [beq_self_eq_true, cond_true, Option.bind_some]
        cases br t f (i + 1) <;> rfl
      rw [iter_cont hb]
      unfold cutDn
      cases hq : br t f (i + 1) with
      | false => simpa using ih (by omega)
      | true =>
        simp only [cond_true, if_true]
        refine iter_out ?_
        unfold R_FieldLines_l2
        dsimp only
        have e3 : ((((i + 1 : Nat) : Int)) == 0) = false := by rw [beq_eq_false_iff_ne]; omega
        rw [e3]
        cases decide ((0 : Int) < (i : Int)) <;> rfl
  have h1 := hdn 78 (by omega)
  have e78 : ((78 : Nat) : Int) = 78 := rfl
  rw [e78] at h1
  rw [h1]
  simp only [Option.bind_some]
  have hout : ∀ (c i : Nat), c ≠ 0 → iter (R_FieldLines_l3 (t, (f : Int), out)) ((c : Int), (i : Int)) = some ((c : Nat) : Int) := by
    intro c i hc
    refine iter_out ?_
    unfold R_FieldLines_l3
    dsimp only
    have e3 : ((c : Int) == 0) = false := by rw [beq_eq_false_iff_ne]; omega
    rw [e3]
    cases decide ((i : Int) < (t.length : Int)) <;> rfl
  have hup : ∀ n i : Nat, i + n = t.length → 1 ≤ i → iter (R_FieldLines_l3 (t, (f : Int), out)) (0, (i : Int)) = some ((cutUp t f n i : Nat) : Int) := by
    intro n
    induction n with
    | zero =>
      intro i hi _
      refine iter_out ?_
      unfold R_FieldLines_l3
      dsimp only
      have : decide ((i : Int) < (t.length : Int)) = false := by rw [decide_eq_false_iff_not]; omega
      rw [this]; rfl
    | succ n ih =>
      intro i hi h1i
      have hb : R_FieldLines_l3 (t, (f : Int), out) (0, (i : Int)) = some (.cont ((bif br t f i then (i : Int) else 0), ((i + 1 : Nat) : Int))) := by
        unfold R_FieldLines_l3
        dsimp only
        have e1 : decide ((i : Int) < (t.length : Int)) = true := by simp; omega
        rw [test i h1i (by omega), e1, sc i (by omega)]
        simp only [beq_self_eq_true, cond_true, Option.bind_some]
        cases br t f i <;> rfl
      rw [iter_cont hb]
      unfold cutUp
      cases hq : br t f i with
      | false => simpa using ih (i + 1) (by omega) (by omega)
      | true =>
        simp only [cond_true, if_true]
        exact hout i (i + 1) (by omega)
  unfold cutP
  have e79 : ((79 : Nat) : Int) = 79 := rfl
  by_cases h0 : cutDn t f 78 = 0
  · rw [if_pos h0, h0]
    have := hup (t.length - 79) 79 (by omega) (by omega)
    rw [e79] at this
    exact this
  · rw [if_neg h0]
    have := hout (cutDn t f 78) 79 h0
    rw [e79] at this
    exact this
end Go.Proofs.YtkoijpogjobgjaaGreat

/- Fields and messages: the plain functions, and what the typed functions compute. -/
namespace Go.Proofs.YtkoijpogjobgjaaGreat
open Go.RowKit
set_option linter.unusedVariables false
set_option maxHeartbeats 1000000

/-- the lines of a text -/
def linesP : Nat → Str → Nat → List Str
  | 0, t, _ => [t]
  | n + 1, t, f => if 78 < t.length then (if cutP t f = 0 then [t] else t.take (cutP t f) :: linesP n (t.drop (cutP t f)) 1) else [t]
theorem linesP_enough : ∀ (n m : Nat) (t : Str) (f : Nat), t.length ≤ n → t.length ≤ m → linesP n t f = linesP m t f := by
  intro n
  induction n with
  | zero =>
    intro m t f h1 h2
    cases m with
    | zero => rfl
    | succ m => unfold linesP; rw [if_neg (by omega)]
  | succ n ih =>
    intro m t f h1 h2
    cases m with
    | zero => unfold linesP; rw [if_neg (by omega)]
    | succ m =>
      unfold linesP
      split
      · split
        · rfl
        · rename_i hc
          have := cutP_pos hc
          rw [ih m _ 1 (by simp; omega) (by simp; omega)]
      · rfl
def linesOf (t : Str) (f : Nat) : List Str := linesP t.length t f
theorem linesOf_long {t : Str} {f : Nat} (h : 78 < t.length) (hc : cutP t f ≠ 0) : linesOf t f = t.take (cutP t f) :: linesOf (t.drop (cutP t f)) 1 := by
  unfold linesOf
  obtain ⟨n, hn⟩ : ∃ n, t.length = n + 1 := ⟨t.length - 1, by omega⟩
  have hp := cutP_pos hc
  rw [hn, linesP, if_pos h, if_neg hc]
  rw [linesP_enough n (t.drop (cutP t f)).length _ 1 (by simp; omega) (Nat.le_refl _)]
theorem linesOf_end {t : Str} {f : Nat} (h : ¬ 78 < t.length ∨ cutP t f = 0) : linesOf t f = [t] := by
  unfold linesOf
  cases hn : t.length with
  | zero => rfl
  | succ n =>
    rw [linesP]
    rcases h with h | h
    · rw [if_neg h]
    · split
      · rfl
      · rfl
theorem linesOf_join : ∀ (n : Nat) (t : Str) (f : Nat), t.length ≤ n → (linesOf t f).flatten = t ∧ (linesOf t f).length ≤ t.length + 1 := by
  intro n
  induction n with
  | zero => intro t f h; rw [linesOf_end (.inl (by omega))]; simp
  | succ n ih =>
    intro t f h
    by_cases h78 : 78 < t.length
    · by_cases hc : cutP t f = 0
      · rw [linesOf_end (.inr hc)]; simp
      · have hp := cutP_pos hc
        rw [linesOf_long h78 hc]
        obtain ⟨h1, h2⟩ := ih (t.drop (cutP t f)) 1 (by simp; omega)
        rw [List.flatten_cons, h1]
        refine ⟨by simp, ?_⟩
        simp only [List.length_cons, List.length_drop] at h2 ⊢
        omega
    · rw [linesOf_end (.inl h78)]; simp
/-- both ways of making lines: they end with the rest, behind the lines before -/
theorem lines_loop {body : Str × Int × List Str → Option (Step (Str × Int × List Str) (Str × List Str))} (enc : Nat → Int) (g : Nat)
    (h : ∀ (t : Str) (f : Nat) (out : List Str), t.length ≤ 4194304 → out.length ≤ 4194305 → f ≤ 4194304 → body (t, enc f, out) = some (if 78 < t.length then (if cutP t (max f 1) = 0 then .out (t, out) else .cont (t.drop (cutP t (max f 1)), enc g, out ++ [t.take (cutP t (max f 1))])) else .out (t, out))) (h0 : max g 1 = 1) :
    ∀ (n : Nat) (t : Str) (f : Nat) (out : List Str), t.length ≤ n → t.length ≤ 4194304 → out.length + t.length ≤ 4194305 → f ≤ 4194304 → ∃ last init, iter body (t, enc f, out) = some (last, init) ∧ init ++ [last] = out ++ linesOf t (max f 1) := by
  intro n
  induction n with
  | zero =>
    intro t f out h1 h2 h3 h4
    have hb := h t f out h2 (by omega) h4
    rw [if_neg (by omega)] at hb
    exact ⟨t, out, iter_out hb, by rw [linesOf_end (.inl (by omega))]⟩
  | succ n ih =>
    intro t f out h1 h2 h3 h4
    have hb := h t f out h2 (by omega) h4
    by_cases h78 : 78 < t.length
    · rw [if_pos h78] at hb
      by_cases hc : cutP t (max f 1) = 0
      · rw [if_pos hc] at hb
        exact ⟨t, out, iter_out hb, by rw [linesOf_end (.inr hc)]⟩
      · rw [if_neg hc] at hb
        have hp := cutP_pos hc
        obtain ⟨last, init, q1, q2⟩ := ih (t.drop (cutP t (max f 1))) g (out ++ [t.take (cutP t (max f 1))]) (by simp; omega) (by simp; omega) (by simp; omega) (by omega)
        refine ⟨last, init, (iter_cont hb).trans q1, ?_⟩
        rw [q2, h0, linesOf_long h78 hc]; simp
    · rw [if_neg h78] at hb
      exact ⟨t, out, iter_out hb, by rw [linesOf_end (.inl h78)]⟩
def txt (n v : Str) : Str := n ++ [58, 32] ++ v
def flP (n v : Str) : List Str := linesOf (txt n v) (n.length + 2)
theorem fold_loop (t : Str) (f : Nat) (ht : t.length ≤ 4194304) (hf : f ≤ 4194304) : ∃ last init, iter fold_Fold_l1 (t, (f : Int), ([] : List Str)) = some (last, init) ∧ init ++ [last] = linesOf t (max f 1) := by
  have := lines_loop (body := fold_Fold_l1) (fun n => (n : Int)) 0 (fun t f out h1 h2 h3 => by
    unfold fold_Fold_l1
    dsimp only
    by_cases h78 : 78 < t.length
    · have hd : decide ((78 : Int) < (t.length : Int)) = true := by rw [decide_eq_true_eq]; omega
      rw [hd, if_pos h78, fold_point_eq t f h1 h3]
      simp only [cond_true, Option.bind_some]
      by_cases hc : cutP t (max f 1) = 0
      · rw [if_pos hc, hc]; rfl
      · have hp := cutP_pos hc
        have e : (((cutP t (max f 1) : Nat) : Int) == 0) = false := by rw [beq_eq_false_iff_ne]; omega
        rw [if_neg hc, e, cut_0n (by omega), cut_nl (by omega)]
        simp only [cond_false, Option.bind_some]
        rw [app_ok (by simp; omega)]; rfl
    · have hd : decide ((78 : Int) < (t.length : Int)) = false := by rw [decide_eq_false_iff_not]; omega
      rw [hd, if_neg h78]; rfl) (by decide) t.length t f [] (Nat.le_refl _) ht (by simp; omega) hf
  simpa using this
theorem ref_loop (t : Str) (f : Nat) (ht : t.length ≤ 4194304) (hf : f ≤ 4194304) (h1f : 1 ≤ f) : ∃ last init, iter R_FieldLines_l1 (t, (f : Int), ([] : List Str)) = some (last, init) ∧ init ++ [last] = linesOf t f := by
  have := lines_loop (body := R_FieldLines_l1) (fun n => ((max n 1 : Nat) : Int)) 1 (fun t f out h1 h2 h3 => by
    unfold R_FieldLines_l1
    dsimp only
    by_cases h78 : 78 < t.length
    · have hd : decide ((78 : Int) < (t.length : Int)) = true := by rw [decide_eq_true_eq]; omega
      have hc0 := R_cut_eq t (max f 1) out h1 h78 (by omega) (by omega)
      obtain ⟨b10, hb10, hc1⟩ := Option.bind_eq_some_iff.1 hc0
      rw [hd, if_pos h78, hb10]
      simp only [cond_true, Option.bind_some]
      rw [hc1]
      simp only [Option.bind_some]
      by_cases hc : cutP t (max f 1) = 0
      · rw [if_pos hc, hc]; rfl
      · have hp := cutP_pos hc
        have e : (((cutP t (max f 1) : Nat) : Int) == 0) = false := by rw [beq_eq_false_iff_ne]; omega
        rw [if_neg hc, e, cut_0n (by omega), cut_nl (by omega)]
        simp only [cond_false, Option.bind_some]
        rw [app_ok (by simp; omega)]; rfl
    · have hd : decide ((78 : Int) < (t.length : Int)) = false := by rw [decide_eq_false_iff_not]; omega
      rw [hd, if_neg h78]; rfl) (by decide) t.length t f [] (Nat.le_refl _) ht (by simp; omega) hf
  have e : max f 1 = f := by omega
  rw [e] at this
  simpa using this
theorem txt_cat (n v : Str) (hn : n.length ≤ 1048576) (hv : v.length ≤ 1048576) : cat n [58, 32] = some (n ++ [58, 32]) ∧ cat (n ++ [58, 32]) v = some (txt n v) ∧ w64 ((n.length : Int) + 2) = ((n.length + 2 : Nat) : Int) := by
  refine ⟨cat_ok (by simp; omega), cat_ok (by simp; omega), ?_⟩
  rw [w64_id (by omega) (by omega)]; omega
theorem txt_len (n v : Str) : (txt n v).length = n.length + 2 + v.length := by unfold txt; simp; omega
theorem R_FieldLines_eq (n v : Str) (hn : n.length ≤ 1048576) (hv : v.length ≤ 1048576) : R_FieldLines n v = some (flP n v) := by
  obtain ⟨h1, h2, h3⟩ := txt_cat n v hn hv
  have hl := txt_len n v
  obtain ⟨last, init, q1, q2⟩ := ref_loop (txt n v) (n.length + 2) (by omega) (by omega) (by omega)
  unfold R_FieldLines flP
  rw [h1]
  simp only [Option.bind_some]
  rw [h2]
  simp only [Option.bind_some]
  rw [h3, q1]
  simp only [Option.bind_some]
  have hj := (linesOf_join (txt n v).length (txt n v) (n.length + 2) (Nat.le_refl _)).2
  rw [← q2] at hj
  simp at hj
  rw [app_ok (by simp; omega), q2]; rfl
def longI (i : Nat) (l : Str) : Option Int := if 998 < l.length then some (i : Int) else none
def foldE (n v : Str) : List Str × TFault :=
  if !fnP n then ([], ⟨10, -1⟩) else if 4000 < v.length then ([], ⟨1, -1⟩) else if !valP v then ([], ⟨11, -1⟩) else match firstI longI 0 (flP n v) with | some i => ([], ⟨1, i⟩) | none => (flP n v, ⟨0, 0⟩)
theorem fl_len (n v : Str) : (flP n v).length ≤ n.length + v.length + 3 := by
  have := (linesOf_join (txt n v).length (txt n v) (n.length + 2) (Nat.le_refl _)).2
  have hl := txt_len n v
  unfold flP; omega
theorem dec998 (l : Str) : decide ((998 : Int) < (l.length : Int)) = decide (998 < l.length) := by generalize l.length = n; rw [Bool.eq_iff_iff]; simp; omega
theorem fold_Fold_eq (n v : Str) (hn : n.length ≤ 1048576) (hv : v.length ≤ 1048576) : fold_Fold n v = some (foldE n v) := by
  obtain ⟨h1, h2, h3⟩ := txt_cat n v hn hv
  have hl := txt_len n v
  obtain ⟨last, init, q1, q2⟩ := fold_loop (txt n v) (n.length + 2) (by omega) (by omega)
  rw [show max (n.length + 2) 1 = n.length + 2 by omega] at q2
  unfold fold_Fold foldE
  rw [fold_name_eq n hn, fold_value_eq v hv]
  simp only [Option.bind_some, basic_Fault_eq, basic_None_eq]
  cases fnP n with
  | false => rfl
  | true =>
    simp only [Bool.not_true, cond_false, Bool.false_eq_true, if_false]
    by_cases h4 : 4000 < v.length
    · have hd : decide ((4000 : Int) < (v.length : Int)) = true := by rw [decide_eq_true_eq]; omega
      rw [hd, if_pos h4]; rfl
    · have hd : decide ((4000 : Int) < (v.length : Int)) = false := by rw [decide_eq_false_iff_not]; omega
      rw [hd, if_neg h4]
      simp only [cond_false]
      cases valP v with
      | false => rfl
      | true =>
        simp only [Bool.not_true, cond_false, Bool.false_eq_true, if_false]
        rw [h1]
        simp only [Option.bind_some]
        rw [h2]
        simp only [Option.bind_some]
        rw [h3, q1]
        simp only [Option.bind_some]
        have hj := fl_len n v
        have hfl : flP n v = init ++ [last] := q2.symm
        have hj2 := hj
        rw [hfl] at hj2
        simp at hj2
        rw [app_ok (by simp; omega), ← hfl]
        simp only [Option.bind_some]
        rw [iter_first (flP n v) (fun i l => (longI i l).map fun k => (([] : List Str), (⟨1, k⟩ : TFault))) (.inl ()) .inr]
        · simp only [Option.bind_some]
          have hm : ∀ (l : List Str) (i : Nat), firstI (fun i l => (longI i l).map fun k => (([] : List Str), (⟨1, k⟩ : TFault))) i l = (firstI longI i l).map fun k => (([] : List Str), (⟨1, k⟩ : TFault)) := by
            intro l
            induction l with
            | nil => intro i; rfl
            | cons x l ih => intro i; unfold firstI; rw [ih]; cases longI i x <;> rfl
          rw [hm]
          cases firstI longI 0 (flP n v) <;> rfl
        · unfold fold_Fold_l2; rw [dec_len]; rfl
        · intro i l hli
          have hi := lt_get hli
          unfold fold_Fold_l2 longI
          rw [dec_lt hli, idx_get hli]
          simp only [cond_true, Option.bind_some, dec998, basic_Fault_eq, sc i (by omega)]
          by_cases h9 : 998 < l.length
          · simp [h9]
          · simp [h9]
end Go.Proofs.YtkoijpogjobgjaaGreat

/- Messages and mails: the plain functions, and what the typed functions compute. -/
namespace Go.Proofs.YtkoijpogjobgjaaGreat
open Go.RowKit
set_option linter.unusedVariables false
set_option maxHeartbeats 1000000

def codeP (f : TField) : Int := (foldE f.Name f.Value).2.Code
def longB (l : List Str) : Bool := l.any fun s => decide (998 < s.length)
theorem longI_some (l : List Str) : ∀ n, (firstI longI n l).isSome = longB l := by
  induction l with
  | nil => intro n; rfl
  | cons x l ih =>
    intro n
    unfold firstI longB longI
    by_cases h : 998 < x.length
    · simp [h]
    · simp only [h, if_false, List.any_cons, decide_false, Bool.false_or]
      exact ih (n + 1)
def codeQ (n v : Str) : Int := if !fnP n then 10 else if 4000 < v.length then 1 else if !valP v then 11 else if longB (flP n v) then 1 else 0
theorem codeP_eq (f : TField) : codeP f = codeQ f.Name f.Value := by
  unfold codeP foldE codeQ
  rw [← longI_some (flP f.Name f.Value) 0]
  split
  · rfl
  · split
    · rfl
    · split
      · rfl
      · cases firstI longI 0 (flP f.Name f.Value) <;> rfl
theorem R_In_60 (s : Str) : R_In (s.length : Int) 1 60 = some (s != ([] : Str) && decide (s.length ≤ 60)) := by
  rw [R_In_eq]
  cases s with
  | nil => rfl
  | cons c s =>
    have h : decide ((1 : Int) ≤ ((c :: s).length : Int)) = true := by rw [decide_eq_true_eq]; simp; omega
    rw [h, dec60]; rfl
theorem elim_int (c : Int) (o : Option Unit) (f : Unit → Option Int) : Sum.elim f (fun b => some b) (o.elim (Sum.inl ()) (fun _ => Sum.inr c) : Unit ⊕ Int) = bif o.isSome then some c else f () := by cases o <;> rfl
theorem R_FieldCode_eq (f : TField) (hn : f.Name.length ≤ 1048576) (hv : f.Value.length ≤ 1048576) : R_FieldCode f = some (codeP f) := by
  rw [codeP_eq]
  unfold R_FieldCode
  have hl1 : iter (R_FieldCode_l1 f) 0 = some ((firstI (fun _ c => if !fnC c then some () else none) 0 f.Name).elim (.inl ()) fun _ => .inr 10) := by
    refine iter_first f.Name _ (Sum.inl ()) (fun _ => Sum.inr 10) ?_ ?_
    · unfold R_FieldCode_l1; rw [dec_len]; rfl
    · intro i c hc
      have hi := lt_get hc
      unfold R_FieldCode_l1
      rw [dec_lt hc, idx_get hc]
      simp only [cond_true, Option.bind_some, R_In_eq, u8_eq c 58 (by decide), u8_le1 33 c (by decide), u8_le2 126 c (by decide), sc i (by omega)]
      unfold fnC bne
      cases decide ((33 : UInt8) ≤ c) <;> cases decide (c ≤ 126) <;> cases c == 58 <;> rfl
  have hl2 : iter (R_FieldCode_l2 f) 0 = some ((firstI (fun _ c => if endC c then some () else none) 0 f.Value).elim (.inl ()) fun _ => .inr 11) := by
    refine iter_first f.Value _ (Sum.inl ()) (fun _ => Sum.inr 11) ?_ ?_
    · unfold R_FieldCode_l2; rw [dec_len]; rfl
    · intro i c hc
      have hi := lt_get hc
      unfold R_FieldCode_l2
      rw [dec_lt hc, idx_get hc]
      simp only [cond_true, Option.bind_some, u8_eq c 0 (by decide), u8_eq c 10 (by decide), u8_eq c 13 (by decide), sc i (by omega)]
      unfold endC
      cases c == 0 <;> cases c == 10 <;> cases c == 13 <;> rfl
  have hl3 : ∀ l : List Str, l.length ≤ 4194304 → iter (R_FieldCode_l3 l) 0 = some ((firstI (fun _ c => if decide (998 < c.length) then some () else none) 0 l).elim (.inl ()) fun _ => .inr 1) := by
    intro l hl
    refine iter_first l _ (Sum.inl ()) (fun _ => Sum.inr 1) ?_ ?_
    · unfold R_FieldCode_l3; rw [dec_len]; rfl
    · intro i c hc
      have hi := lt_get hc
      unfold R_FieldCode_l3
      rw [dec_lt hc, idx_get hc]
      simp only [cond_true, Option.bind_some, dec998, sc i (by omega)]
      cases decide (998 < c.length) <;> rfl
  have hfl := fl_len f.Name f.Value
  rw [hl1]
  simp only [Option.bind_some, elim_int, firstI_isSome, not_all, R_In_60, hl2, R_FieldLines_eq _ _ hn hv, hl3 _ (show (flP f.Name f.Value).length ≤ 4194304 by omega)]
  have h4 : decide ((4000 : Int) < (f.Value.length : Int)) = decide (4000 < f.Value.length) := by generalize f.Value.length = n; rw [Bool.eq_iff_iff]; simp; omega
  have he : (bif decide ((0 : Int) < (f.Value.length : Int)) then (idx f.Value 0).bind fun v38 => (R_blank v38).bind fun v40 => (bif v40 then some true else (idx f.Value ((w64 ((f.Value.length : Int) - 1)))).bind fun v43 => (R_blank v43).bind fun v45 => some v45) else some false) = some (edgeP f.Value) := by
    by_cases hn0 : f.Value = []
    · rw [hn0]; rfl
    · obtain ⟨a, b, h1, h2, h3, h4⟩ := idx_last f.Value hn0 hv
      have hp := List.length_pos_iff.2 hn0
      have hd : decide ((0 : Int) < (f.Value.length : Int)) = true := by rw [decide_eq_true_eq]; omega
      unfold edgeP
      rw [h1, h2, h3, h4, hd]
      simp only [Option.bind_some, R_blank_eq, cond_true]
      cases blankC a <;> rfl
  rw [he, h4]
  simp only [Option.bind_some]
  unfold codeQ fnP valP longB
  cases f.Name.all fnC <;> cases (f.Name != ([] : Str)) <;> cases decide (f.Name.length ≤ 60) <;> (try rfl)
  simp only [Bool.and_true, Bool.not_true, Bool.false_eq_true, if_false, cond_false]
  by_cases h4000 : 4000 < f.Value.length
  · simp [h4000]
  · simp only [h4000, decide_false, cond_false, if_false]
    cases f.Value.any endC <;> cases edgeP f.Value <;> (try rfl)
    simp only [Bool.not_false, Bool.and_true, Bool.not_true, Bool.false_eq_true, if_false, cond_false]
    cases (flP f.Name f.Value).any fun s => decide (998 < s.length) <;> rfl

/-! ### a head -/
def smallF (l : List TField) : Prop := l.length ≤ 1048576 ∧ ∀ f ∈ l, f.Name.length ≤ 1048576 ∧ f.Value.length ≤ 1048576
def fieldQ (i : Nat) (f : TField) : Option TFault := if codeP f != 0 then some ⟨codeP f, i⟩ else none
def headF (l : List TField) : TFault := if 60 < l.length then ⟨2, -1⟩ else (firstI fieldQ 0 l).getD ⟨0, 0⟩
theorem dec60f (l : List TField) : decide ((60 : Int) < (l.length : Int)) = decide (60 < l.length) := by generalize l.length = n; rw [Bool.eq_iff_iff]; simp; omega
theorem header_Validate_eq (l : List TField) (h : smallF l) : header_Validate l = some (headF l) := by
  obtain ⟨h1, h2⟩ := h
  unfold header_Validate headF
  rw [iter_first l fieldQ (.inl ()) .inr]
  · simp only [Option.bind_some, basic_Fault_eq, basic_None_eq, elim_fault, dec60f]
    by_cases h6 : 60 < l.length <;> simp [h6]
  · unfold header_Validate_l1; rw [dec_len]; rfl
  · intro i f hf
    have hi := lt_get hf
    obtain ⟨hn, hv⟩ := h2 f (List.mem_of_getElem? hf)
    unfold header_Validate_l1 fieldQ
    rw [dec_lt hf, idx_get hf]
    simp only [cond_true, Option.bind_some, fold_Fold_eq _ _ hn hv, basic_Failed_eq, basic_Fault_eq, sc i (by omega)]
    show (bif codeP f != 0 then _ else _) = _
    cases codeP f != 0 <;> rfl
theorem headF_code (l : List TField) (h : (headF l).Code = 0) : ¬ 60 < l.length ∧ firstI fieldQ 0 l = none ∧ ∀ f ∈ l, codeP f = 0 := by
  unfold headF at h
  by_cases h6 : 60 < l.length
  · rw [if_pos h6] at h; simp at h
  · rw [if_neg h6] at h
    cases hq : firstI fieldQ 0 l with
    | some y =>
      rw [hq] at h
      obtain ⟨i, f, h1, h2⟩ := firstI_some hq
      unfold fieldQ at h2
      exfalso
      by_cases hc : codeP f = 0
      · simp [hc] at h2
      · have : (codeP f != 0) = true := by simpa using hc
        rw [this] at h2
        simp at h2
        subst h2
        exact hc h
    | none =>
      refine ⟨h6, rfl, fun f hf => ?_⟩
      obtain ⟨i, hi⟩ := List.getElem?_of_mem hf
      have := firstI_none.1 hq i f hi
      unfold fieldQ at this
      simpa using this

/-! ### the bytes of a message -/
theorem codeP_ok {f : TField} (h : codeP f = 0) : f.Name.length ≤ 60 ∧ f.Value.length ≤ 4000 ∧ foldE f.Name f.Value = (flP f.Name f.Value, ⟨0, 0⟩) ∧ ∀ l ∈ flP f.Name f.Value, l.length ≤ 998 := by
  have h0 := h
  rw [codeP_eq] at h
  unfold codeQ at h
  have h1 : fnP f.Name = true := by cases hx : fnP f.Name with
    | true => rfl
    | false => rw [hx] at h; simp at h
  rw [h1] at h
  simp only [Bool.not_true, Bool.false_eq_true, if_false] at h
  have h2 : ¬ 4000 < f.Value.length := by intro hx; rw [if_pos hx] at h; simp at h
  rw [if_neg h2] at h
  have h3 : valP f.Value = true := by cases hx : valP f.Value with
    | true => rfl
    | false => rw [hx] at h; simp at h
  rw [h3] at h
  simp only [Bool.not_true, Bool.false_eq_true, if_false] at h
  have h4 : longB (flP f.Name f.Value) = false := by cases hx : longB (flP f.Name f.Value) with
    | false => rfl
    | true => rw [hx] at h; simp at h
  refine ⟨?_, by omega, ?_, ?_⟩
  · unfold fnP at h1; simp only [Bool.and_eq_true, decide_eq_true_eq] at h1; exact h1.1.2
  · unfold foldE
    rw [h1, h3]
    simp only [Bool.not_true, Bool.false_eq_true, if_false, if_neg h2]
    have := longI_some (flP f.Name f.Value) 0
    rw [h4] at this
    cases hx : firstI longI 0 (flP f.Name f.Value) with
    | none => rfl
    | some y => rw [hx] at this; cases this
  · intro l hl
    unfold longB at h4
    rw [List.any_eq_false] at h4
    have := h4 l hl
    simp at this; omega
def addL (a : List UInt8) (l : Str) : List UInt8 := a ++ l ++ [13, 10]
def addF (a : List UInt8) (f : TField) : List UInt8 := (flP f.Name f.Value).foldl addL a
def bytesP (m : TMessage) : List UInt8 := m.Fields.foldl addF [] ++ [13, 10] ++ m.Body
theorem lines_wr (l : List Str) (acc : List UInt8) (hl : l.length ≤ 5000) (h9 : ∀ s ∈ l, s.length ≤ 998) (ha : acc.length ≤ 1000000000) {body : Int × List UInt8 → Option (Step (Int × List UInt8) (List UInt8))}
    (h0 : ∀ s, body ((l.length : Int), s) = some (.out s)) (h1 : ∀ (i : Nat) x s, l[i]? = some x → s.length ≤ 1006000000 → body ((i : Int), s) = some (.cont (((i + 1 : Nat) : Int), addL s x))) : iter body (0, acc) = some (l.foldl addL acc) ∧ (l.foldl addL acc).length ≤ acc.length + 1000 * l.length :=
  iter_fold l (fun i s => (i, s)) addL id (fun i s => s.length ≤ acc.length + 1000 * i) (body := body) (fun s _ => h0 s) (fun i x s hx hi => by
    have hlt := lt_get hx
    have h9x := h9 x (List.mem_of_getElem? hx)
    refine ⟨h1 i x s hx (by omega), ?_⟩
    unfold addL; simp; omega) acc (by simp)
theorem fields_wr (l : List TField) (hl : l.length ≤ 60) (hc : ∀ f ∈ l, codeP f = 0) {body : Int × List UInt8 → Option (Step (Int × List UInt8) (List UInt8))}
    (h0 : ∀ s, body ((l.length : Int), s) = some (.out s)) (h1 : ∀ (i : Nat) f s, l[i]? = some f → s.length ≤ 1000000000 → body ((i : Int), s) = some (.cont (((i + 1 : Nat) : Int), addF s f)) ∧ (addF s f).length ≤ s.length + 5000000) : iter body (0, ([] : List UInt8)) = some (l.foldl addF []) ∧ (l.foldl addF []).length ≤ 5000000 * l.length :=
  iter_fold l (fun i s => (i, s)) addF id (fun i s => s.length ≤ 5000000 * i) (body := body) (fun s _ => h0 s) (fun i f s hf hi => by
    have hlt := lt_get hf
    obtain ⟨q1, q2⟩ := h1 i f s hf (by omega)
    exact ⟨q1, by omega⟩) [] (by simp)
theorem message_write_eq (m : TMessage) (hb : m.Body.length ≤ 1048576) (h60 : m.Fields.length ≤ 60) (hc : ∀ f ∈ m.Fields, codeP f = 0) : message_write m = some (bytesP m) := by
  unfold message_write bytesP
  obtain ⟨h1, h2⟩ := fields_wr m.Fields h60 hc (body := message_write_l1 m) (fun s => by unfold message_write_l1; rw [dec_len]; rfl) (fun i f s hf hs => by
    have hi := lt_get hf
    obtain ⟨c1, c2, c3, c4⟩ := codeP_ok (hc f (List.mem_of_getElem? hf))
    have hfl := fl_len f.Name f.Value
    obtain ⟨q1, q2⟩ := lines_wr (flP f.Name f.Value) s (by omega) c4 hs (body := message_write_l2 (foldE f.Name f.Value)) (fun s => by unfold message_write_l2; rw [c3, dec_len]; rfl) (fun k x s hx hs => by
      have hk := lt_get hx
      have := c4 x (List.mem_of_getElem? hx)
      unfold message_write_l2
      rw [c3, dec_lt hx, idx_get hx]
      simp only [cond_true, Option.bind_some, sc k (by omega)]
      rw [app_ok (by omega)]
      simp only [Option.bind_some]
      rw [app_ok (by simp; omega)]; rfl)
    unfold addF
    refine ⟨?_, by omega⟩
    unfold message_write_l1
    rw [dec_lt hf, idx_get hf]
    simp only [cond_true, Option.bind_some, fold_Fold_eq f.Name f.Value (by omega) (by omega), q1, sc i (by omega)])
  rw [h1]
  simp only [Option.bind_some]
  rw [app_ok (by simp; omega)]
  simp only [Option.bind_some]
  rw [app_ok (by simp; omega)]; rfl
theorem R_MessageBytes_eq (m : TMessage) (hb : m.Body.length ≤ 1048576) (h60 : m.Fields.length ≤ 60) (hc : ∀ f ∈ m.Fields, codeP f = 0) : R_MessageBytes m = some (bytesP m) := by
  unfold R_MessageBytes bytesP
  obtain ⟨h1, h2⟩ := fields_wr m.Fields h60 hc (body := R_MessageBytes_l1 m) (fun s => by unfold R_MessageBytes_l1; rw [dec_len]; rfl) (fun i f s hf hs => by
    have hi := lt_get hf
    obtain ⟨c1, c2, c3, c4⟩ := codeP_ok (hc f (List.mem_of_getElem? hf))
    have hfl := fl_len f.Name f.Value
    obtain ⟨q1, q2⟩ := lines_wr (flP f.Name f.Value) s (by omega) c4 hs (body := R_MessageBytes_l2 (flP f.Name f.Value)) (fun s => by unfold R_MessageBytes_l2; rw [dec_len]; rfl) (fun k x s hx hs => by
      have hk := lt_get hx
      have := c4 x (List.mem_of_getElem? hx)
      unfold R_MessageBytes_l2
      rw [dec_lt hx, idx_get hx]
      simp only [cond_true, Option.bind_some, sc k (by omega)]
      rw [app_ok (by omega)]
      simp only [Option.bind_some]
      rw [app_ok (by simp; omega)]; rfl)
    unfold addF
    refine ⟨?_, by omega⟩
    unfold R_MessageBytes_l1
    rw [dec_lt hf, idx_get hf]
    simp only [cond_true, Option.bind_some, R_FieldLines_eq f.Name f.Value (by omega) (by omega), q1, sc i (by omega)])
  rw [h1]
  simp only [Option.bind_some]
  rw [app_ok (by simp; omega)]
  simp only [Option.bind_some]
  rw [app_ok (by simp; omega)]; rfl
end Go.Proofs.YtkoijpogjobgjaaGreat

/- Bodies, messages and mails: the plain functions, and what the typed functions compute. -/
namespace Go.Proofs.YtkoijpogjobgjaaGreat
open Go.RowKit
set_option linter.unusedVariables false
set_option maxHeartbeats 1000000

/-- what is wrong with a body: true, a byte that ends no line; false, a long line -/
def bodyP : Nat → List UInt8 → Option Bool
  | _, [] => none
  | c, [x] => if x == 13 || x == 10 then some true else if 998 < c + 1 then some false else none
  | c, x :: y :: r => if x == 13 && y == 10 then bodyP 0 r else if x == 13 || x == 10 then some true else if 998 < c + 1 then some false else bodyP (c + 1) (y :: r)
def bodyStep {O : Type} (e : Bool → O) (c i : Nat) (x : UInt8) (r : List UInt8) : Step (Int × Int) (Unit ⊕ O) :=
  if x == 13 && r.head? == some 10 then .cont (0, ((i + 2 : Nat) : Int)) else if x == 13 || x == 10 then .out (.inr (e true)) else if 998 < c + 1 then .out (.inr (e false)) else .cont (((c + 1 : Nat) : Int), ((i + 1 : Nat) : Int))
theorem body_loop {O : Type} (e : Bool → O) (l : List UInt8) {body : Int × Int → Option (Step (Int × Int) (Unit ⊕ O))}
    (h0 : ∀ c, body (c, (l.length : Int)) = some (.out (.inl ())))
    (hs : ∀ (c : Nat) (p : List UInt8) x r, l = p ++ x :: r → c ≤ 998 → body ((c : Int), (p.length : Int)) = some (bodyStep e c p.length x r)) :
    ∀ (n : Nat) (r p : List UInt8) (c : Nat), r.length ≤ n → l = p ++ r → c ≤ 998 → iter body ((c : Int), (p.length : Int)) = some ((bodyP c r).elim (.inl ()) fun b => .inr (e b)) := by
  intro n
  induction n with
  | zero =>
    intro r p c hr hl hc
    obtain rfl : r = [] := List.length_eq_zero_iff.1 (by omega)
    have : p = l := by simp [hl]
    subst this
    exact iter_out (h0 _)
  | succ n ih =>
    intro r p c hr hl hc
    match r, hr, hl with
    | [], _, hl =>
      have : p = l := by simp [hl]
      subst this
      exact iter_out (h0 _)
    | [x], hr, hl =>
      have hb := hs c p x [] hl hc
      unfold bodyStep at hb
      have e1 : (x == 13 && ([] : List UInt8).head? == some 10) = false := by simp
      rw [e1] at hb
      simp only [Bool.false_eq_true, if_false] at hb
      unfold bodyP
      cases hx : (x == 13 || x == 10) with
      | true => rw [hx] at hb; exact iter_out hb
      | false =>
        rw [hx] at hb
        simp only [Bool.false_eq_true, if_false] at hb ⊢
        by_cases h9 : 998 < c + 1
        · rw [if_pos h9] at hb ⊢; exact iter_out hb
        · rw [if_neg h9] at hb ⊢
          rw [iter_cont hb]
          have := ih [] (p ++ [x]) (c + 1) (by simp) (by simp [hl]) (by omega)
          rw [List.length_append] at this
          exact this
    | x :: y :: r, hr, hl =>
      have hb := hs c p x (y :: r) hl hc
      unfold bodyStep at hb
      have e1 : ((y :: r).head? == some (10 : UInt8)) = (y == 10) := by simp
      rw [e1] at hb
      unfold bodyP
      cases hxy : (x == 13 && y == 10) with
      | true =>
        rw [hxy] at hb
        simp only [if_true] at hb ⊢
        rw [iter_cont hb]
        have := ih r (p ++ [x, y]) 0 (by simp at hr; omega) (by simp [hl]) (by omega)
        rw [List.length_append] at this
        exact this
      | false =>
        rw [hxy] at hb
        simp only [Bool.false_eq_true, if_false] at hb ⊢
        cases hx : (x == 13 || x == 10) with
        | true => rw [hx] at hb; exact iter_out hb
        | false =>
          rw [hx] at hb
          simp only [Bool.false_eq_true, if_false] at hb ⊢
          by_cases h9 : 998 < c + 1
          · rw [if_pos h9] at hb ⊢; exact iter_out hb
          · rw [if_neg h9] at hb ⊢
            rw [iter_cont hb]
            have := ih (y :: r) (p ++ [x]) (c + 1) (by simp at hr ⊢; omega) (by simp [hl]) (by omega)
            rw [List.length_append] at this
            exact this
theorem next_is {l p r : List UInt8} {x : UInt8} (h : l = p ++ x :: r) (hl : l.length ≤ 1048576) : (bif decide (((p.length + 1 : Nat) : Int) < (l.length : Int)) then (idx l ((p.length + 1 : Nat) : Int)).bind fun v13 => some (((v13.toNat : Int) == 10)) else some false) = some (r.head? == some 10) := by
  subst h
  simp at hl
  cases r with
  | nil =>
    have : decide (((p.length + 1 : Nat) : Int) < ((p ++ [x]).length : Int)) = false := by simp
    rw [this]; rfl
  | cons y r =>
    have : decide (((p.length + 1 : Nat) : Int) < ((p ++ x :: y :: r).length : Int)) = true := by simp; omega
    rw [this, idx_nat]
    have : (p ++ x :: y :: r)[p.length + 1]? = some y := by simp [List.getElem?_append_right]
    rw [this]
    simp only [cond_true, Option.bind_some, u8_eq y 10 (by decide)]
    simp
theorem basic_Body_eq (l : List UInt8) (hl : l.length ≤ 1048576) : basic_Body l = some ((bodyP 0 l).elim 0 fun b => bif b then 11 else 1) := by
  unfold basic_Body
  have := body_loop (fun b : Bool => bif b then (11 : Int) else 1) l (body := basic_Body_l1 l) (fun c => by unfold basic_Body_l1; rw [dec_len]; rfl) (fun c p x r h hc => by
    have hx : l[p.length]? = some x := by simp [h]
    have hi := lt_get hx
    unfold basic_Body_l1 basic_Body_k2 bodyStep
    dsimp only
    rw [dec_lt hx, idx_get hx]
    simp only [cond_true, Option.bind_some, u8_eq x 13 (by decide), u8_eq x 10 (by decide), sc p.length (by omega), sc (p.length + 1) (by omega), sc c (by omega)]
    rw [next_is h hl]
    have h9 : decide ((998 : Int) < ((c + 1 : Nat) : Int)) = decide (998 < c + 1) := by rw [Bool.eq_iff_iff]; simp; omega
    rw [h9]
    by_cases h98 : 998 < c + 1 <;> simp only [h98, decide_true, decide_false, if_true, if_false] <;> cases x == 13 <;> cases x == 10 <;> cases r.head? == some 10 <;> rfl) l.length l [] 0 (Nat.le_refl _) rfl (by omega)
  have h2 : iter (basic_Body_l1 l) (0, 0) = _ := this
  rw [h2]
  cases bodyP 0 l with
  | none => rfl
  | some b => cases b <;> rfl
def bodyF (l : List UInt8) : TFault := (bodyP 0 l).elim ⟨0, 0⟩ fun b => bif b then ⟨11, -5⟩ else ⟨1, -6⟩
theorem message_body_eq (l : List UInt8) (hl : l.length ≤ 1048576) : message_body l = some (bodyF l) := by
  unfold message_body bodyF
  rw [basic_Body_eq l hl]
  cases bodyP 0 l with
  | none => rfl
  | some b => cases b <;> rfl
def msgF (m : TMessage) : TFault := if (headF m.Fields).Code != 0 then headF m.Fields else if 12000 < (bytesP m).length then ⟨1, -4⟩ else bodyF m.Body
def smallM (m : TMessage) : Prop := smallF m.Fields ∧ m.Body.length ≤ 1048576
theorem message_Validate_eq (m : TMessage) (h : smallM m) : message_Validate m = some (msgF m) := by
  obtain ⟨h1, h2⟩ := h
  unfold message_Validate msgF
  rw [header_Validate_eq _ h1]
  simp only [Option.bind_some, basic_Failed_eq, basic_Fault_eq, message_body_eq _ h2]
  cases hc : (headF m.Fields).Code != 0 with
  | true => rfl
  | false =>
    obtain ⟨q1, q2, q3⟩ := headF_code m.Fields (by simpa using hc)
    rw [message_write_eq m h2 (by omega) q3]
    simp only [Option.bind_some, cond_false, Bool.false_eq_true, if_false]
    have : decide ((12000 : Int) < ((bytesP m).length : Int)) = decide (12000 < (bytesP m).length) := by generalize (bytesP m).length = n; rw [Bool.eq_iff_iff]; simp; omega
    rw [this]
    by_cases hb : 12000 < (bytesP m).length <;> simp [hb]
theorem R_MessageFault_eq (m : TMessage) (h : smallM m) : R_MessageFault m = some (msgF m) := by
  obtain ⟨⟨h1, h3⟩, h2⟩ := h
  unfold R_MessageFault msgF
  rw [iter_first m.Fields fieldQ (.inl ()) .inr]
  · have hbl : iter (R_MessageFault_l2 m) (0, 0) = _ := body_loop (fun b : Bool => bif b then (⟨11, -5⟩ : TFault) else ⟨1, -6⟩) m.Body (body := R_MessageFault_l2 m) (fun c => by unfold R_MessageFault_l2; rw [dec_len]; rfl) (fun c p x r h hc => by
      have hx : m.Body[p.length]? = some x := by simp [h]
      have hi := lt_get hx
      unfold R_MessageFault_l2 R_MessageFault_k3 bodyStep
      dsimp only
      rw [dec_lt hx, idx_get hx]
      simp only [cond_true, Option.bind_some, u8_eq x 13 (by decide), u8_eq x 10 (by decide), sc p.length (by omega), sc (p.length + 1) (by omega), sc c (by omega), R_At_eq]
      rw [next_is h h2]
      have h9 : decide ((998 : Int) < ((c + 1 : Nat) : Int)) = decide (998 < c + 1) := by rw [Bool.eq_iff_iff]; simp; omega
      rw [h9]
      by_cases h98 : 998 < c + 1 <;> simp only [h98, decide_true, decide_false, if_true, if_false] <;> cases x == 13 <;> cases x == 10 <;> cases r.head? == some 10 <;> rfl) m.Body.length m.Body [] 0 (Nat.le_refl _) rfl (by omega)
    rw [hbl, dec60f]
    simp only [Option.bind_some, R_At_eq]
    by_cases h6 : 60 < m.Fields.length
    · have : headF m.Fields = ⟨2, -1⟩ := by unfold headF; rw [if_pos h6]
      rw [this]; simp [h6]
    · simp only [h6, decide_false, cond_false]
      have hh : headF m.Fields = (firstI fieldQ 0 m.Fields).getD ⟨0, 0⟩ := by unfold headF; rw [if_neg h6]
      cases hq : firstI fieldQ 0 m.Fields with
      | some y =>
        rw [hq] at hh
        have hc : ((headF m.Fields).Code != 0) = true := by
          cases hc : (headF m.Fields).Code != 0 with
          | true => rfl
          | false =>
            obtain ⟨_, q2, _⟩ := headF_code m.Fields (by simpa using hc)
            rw [hq] at q2; cases q2
        rw [hc, hh]; rfl
      | none =>
        rw [hq] at hh
        have hz : headF m.Fields = ⟨0, 0⟩ := hh
        obtain ⟨q1, q2, q3⟩ := headF_code m.Fields (by rw [hz])
        rw [R_MessageBytes_eq m h2 (by omega) q3, hz]
        simp only [Option.bind_some, Option.elim_none, Sum.elim_inl]
        have hbb : m.Body.length ≤ (bytesP m).length := by unfold bytesP; simp; omega
        have e2 : (bif decide ((12000 : Int) < (m.Body.length : Int)) then some true else some (decide ((12000 : Int) < ((bytesP m).length : Int)))) = some (decide (12000 < (bytesP m).length)) := by
          generalize (bytesP m).length = n at *
          by_cases hx : 12000 < m.Body.length
          · have e3 : decide ((12000 : Int) < (m.Body.length : Int)) = true := by rw [decide_eq_true_eq]; omega
            have e4 : decide (12000 < n) = true := by rw [decide_eq_true_eq]; omega
            rw [e3, e4]; rfl
          · have e3 : decide ((12000 : Int) < (m.Body.length : Int)) = false := by rw [decide_eq_false_iff_not]; omega
            rw [e3]
            simp only [cond_false, Option.some.injEq]
            rw [Bool.eq_iff_iff]; simp; omega
        rw [e2]
        simp only [Option.bind_some]
        unfold bodyF
        by_cases hb : 12000 < (bytesP m).length
        · simp [hb]
        · simp only [hb, decide_false, cond_false, if_false]
          cases bodyP 0 m.Body <;> rfl
  · unfold R_MessageFault_l1; rw [dec_len]; rfl
  · intro i f hf
    have hi := lt_get hf
    obtain ⟨hn, hv⟩ := h3 f (List.mem_of_getElem? hf)
    unfold R_MessageFault_l1 fieldQ
    rw [dec_lt hf, idx_get hf]
    simp only [cond_true, Option.bind_some, R_FieldCode_eq _ hn hv, R_At_eq, sc i (by omega)]
    cases codeP f != 0 <;> rfl
end Go.Proofs.YtkoijpogjobgjaaGreat

/- Envelopes by domains: the plain functions, and what the typed functions compute. -/
namespace Go.Proofs.YtkoijpogjobgjaaGreat
open Go.RowKit
set_option linter.unusedVariables false
set_option maxHeartbeats 1000000

instance : DecidableEq TRecipient := fun a b => decidable_of_iff (a.Address = b.Address ∧ a.Notify = b.Notify) (by cases a; cases b; simp)
instance : DecidableEq TFault := fun a b => decidable_of_iff (a.Code = b.Code ∧ a.Index = b.Index) (by cases a; cases b; simp)
instance : DecidableEq TEnvelope := fun a b => decidable_of_iff (a.From = b.From ∧ a.To = b.To ∧ a.Id = b.Id) (by cases a; cases b; simp)
theorem rec_eq (a b : TRecipient) : allEq [(a.Address == b.Address), (a.Notify == b.Notify)] = (a == b) := by
  cases a; cases b
  rw [Bool.eq_iff_iff]
  simp [allEq]
theorem R_SameRecipients_eq (a b : List TRecipient) (ha : a.length ≤ 1048576) : R_SameRecipients a b = some (a == b) := by
  unfold R_SameRecipients
  by_cases hlen : a.length = b.length
  · have h1 : ((a.length : Int) != (b.length : Int)) = false := by rw [hlen]; simp
    rw [h1]
    simp only [cond_false]
    rw [iter_first a (fun i x => if b[i]? != some x then some false else none) (.inl ()) .inr]
    · simp only [Option.bind_some]
      cases hf : firstI (fun i x => if b[i]? != some x then some false else none) 0 a with
      | none =>
        rw [firstI_none] at hf
        have : a = b := by
          apply List.ext_getElem?
          intro i
          by_cases hi : i < a.length
          · have := hf i a[i] (List.getElem?_eq_getElem hi)
            rw [Nat.zero_add] at this
            rw [List.getElem?_eq_getElem hi]
            simp at this; exact this.symm
          · rw [List.getElem?_eq_none (by omega), List.getElem?_eq_none (by omega)]
        subst this; simp
      | some r =>
        obtain ⟨i, x, hx, hq⟩ := firstI_some hf
        rw [Nat.zero_add] at hq
        split at hq
        · cases hq
          rename_i hne
          have : (a == b) = false := by
            rw [beq_eq_false_iff_ne]
            rintro rfl
            rw [hx] at hne; simp at hne
          rw [this]; rfl
        · cases hq
    · unfold R_SameRecipients_l1; rw [dec_len]; rfl
    · intro i x hx
      have hi := lt_get hx
      unfold R_SameRecipients_l1
      have hib : i < b.length := by omega
      rw [dec_lt hx, idx_get hx, idx_lt hib, List.getElem?_eq_getElem hib]
      simp only [cond_true, Option.bind_some, sc i (by omega), rec_eq]
      by_cases hxb : x = b[i]
      · subst hxb; simp
      · have e1 : (x == b[i]) = false := by simpa using hxb
        have e2 : (some b[i] != some x) = true := by simp; exact fun h => hxb h.symm
        rw [e1, e2]; rfl
  · have h1 : ((a.length : Int) != (b.length : Int)) = true := by simp; omega
    rw [h1]
    simp only [cond_true]
    have : (a == b) = false := by rw [beq_eq_false_iff_ne]; rintro rfl; exact hlen rfl
    rw [this]
theorem slices_Contains_eq (l : List Str) (s : Str) (hl : l.length ≤ 1048576) : slices_Contains_string_string l s = some (l.contains s) := by
  unfold slices_Contains_string_string slices_Index_string_string
  rw [iter_first l (fun i x => if x == s then some ((i : Nat) : Int) else none) (.inl ()) .inr]
  · simp only [Option.bind_some, elim_idx, first_idx (fun x => x == s) l 0]
    congr 1
    rw [Bool.eq_iff_iff]; simp
  · unfold slices_Index_string_string_l1; rw [dec_len]; rfl
  · intro i x hx
    have hi := lt_get hx
    unfold slices_Index_string_string_l1
    rw [dec_lt hx, idx_get hx]
    have e : (s == x) = (x == s) := by rw [Bool.eq_iff_iff]; simp; exact ⟨fun h => h.symm, fun h => h.symm⟩
    simp only [cond_true, Option.bind_some, sc i (by omega), e]
    cases x == s <;> rfl
theorem clr0_take {α : Type} (l : List α) (i : Nat) (z : α) (h : i ≤ l.length) : (clr0 l i z).take i = l.take i := by
  unfold clr0; simp [List.take_append, h]
end Go.Proofs.YtkoijpogjobgjaaGreat

/- The union of recipients: the plain functions, and what the typed functions compute. -/
namespace Go.Proofs.YtkoijpogjobgjaaGreat
open Go.RowKit
set_option linter.unusedVariables false
set_option maxHeartbeats 1000000

/-! ### conditions -/
/-! ### one recipient for each address -/
def sameA (s : Str) (r : TRecipient) : Bool := r.Address == s
def hasA (out : List TRecipient) (s : Str) : Bool := out.any (sameA s)
def putR (out : List TRecipient) (r : TRecipient) : List TRecipient := if hasA out r.Address then out.map (fun x => if sameA r.Address x then ⟨x.Address, iOr x.Notify r.Notify⟩ else x) else out ++ [r]
end Go.Proofs.YtkoijpogjobgjaaGreat

/- The union of recipients: what the typed functions compute; the closed example. -/
namespace Go.Proofs.YtkoijpogjobgjaaGreat
open Go.RowKit
set_option linter.unusedVariables false
set_option maxHeartbeats 1000000

def posA (out : List TRecipient) (s : Str) : Option Nat := out.findIdx? (sameA s)
theorem posA_has (out : List TRecipient) (s : Str) : (posA out s).isSome = hasA out s := by unfold posA hasA; exact List.findIdx?_isSome
theorem posA_app (out : List TRecipient) (r : TRecipient) (s : Str) (h : hasA out r.Address = false) : posA (out ++ [r]) s = if r.Address == s then some out.length else posA out s := by
  unfold posA
  rw [List.findIdx?_append]
  by_cases hs : (r.Address == s) = true
  · rw [if_pos hs]
    have e : r.Address = s := beq_iff_eq.1 hs
    subst e
    have : out.findIdx? (sameA r.Address) = none := by
      have := posA_has out r.Address
      rw [h] at this
      unfold posA at this
      simpa using this
    rw [this]
    simp [sameA]
  · rw [if_neg hs]
    have : sameA s r = false := by unfold sameA; simpa using hs
    simp [List.findIdx?_cons, this]
theorem posA_map (out : List TRecipient) (f : TRecipient → TRecipient) (hf : ∀ x, (f x).Address = x.Address) (s : Str) : posA (out.map f) s = posA out s := by
  unfold posA
  rw [List.findIdx?_map]
  congr 1
  funext x
  simp [Function.comp, sameA, hf]
structure MInv (i : Nat) (out : List TRecipient) (m : List (Str × Int)) : Prop where
  len : out.length ≤ i
  nd : (out.map (·.Address)).Nodup
  mp : ∀ s, mget m s = (posA out s).map fun k => ((k : Nat) : Int)
theorem MInv.put {i : Nat} {out : List TRecipient} {m : List (Str × Int)} (h : MInv i out m) (r : TRecipient) : MInv (i + 1) (putR out r) (if hasA out r.Address then m else mput m r.Address (out.length : Int)) := by
  unfold putR
  cases hh : hasA out r.Address with
  | true =>
    simp only [if_true]
    have hf : ∀ x : TRecipient, (if sameA r.Address x then (⟨x.Address, iOr x.Notify r.Notify⟩ : TRecipient) else x).Address = x.Address := by intro x; split <;> rfl
    refine ⟨by simp; have := h.len; omega, ?_, fun s => ?_⟩
    · rw [List.map_map, show ((·.Address) ∘ fun x : TRecipient => if sameA r.Address x then (⟨x.Address, iOr x.Notify r.Notify⟩ : TRecipient) else x) = (·.Address) from funext hf]; exact h.nd
    · rw [posA_map _ _ hf]; exact h.mp s
  | false =>
    simp only [Bool.false_eq_true, if_false]
    refine ⟨by simp; exact h.len, ?_, fun s => ?_⟩
    · rw [List.map_append, List.nodup_append]
      refine ⟨h.nd, by simp, ?_⟩
      intro a ha b hb
      simp at hb; subst hb
      rintro rfl
      obtain ⟨x, hx, hxe⟩ := List.mem_map.1 ha
      unfold hasA at hh
      rw [List.any_eq_false] at hh
      exact hh x hx (by simp [sameA, hxe])
    · rw [mget_mputG, posA_app _ _ _ hh, h.mp s]
      by_cases hs : (r.Address == s) = true
      · rw [if_pos hs, if_pos hs]; rfl
      · rw [if_neg hs, if_neg hs]
end Go.Proofs.YtkoijpogjobgjaaGreat

/- The law EnvelopeDomainsMatchSpec, as a plain statement. -/
namespace Go.Proofs.YtkoijpogjobgjaaGreat
open Go.RowKit
set_option linter.unusedVariables false
theorem recF_ok (l : List TRecipient) (h : (recF l).Code = 0) : recF l = ⟨0, 0⟩ := by
  unfold recF at h ⊢
  cases hf : firstI (recQ l) 0 l with
  | none => rfl
  | some f =>
    exfalso
    obtain ⟨i, x, hx, hq⟩ := firstI_some hf
    rw [hf] at h
    unfold recQ at hq
    split at hq
    · cases hq; simp at h
    · split at hq
      · cases hq; simp at h
      · split at hq
        · cases hq; simp at h
        · cases hq
theorem envF_ok (e : TEnvelope) (h : (envF e).Code = 0) : envF e = ⟨0, 0⟩ := by
  unfold envF at h ⊢
  split
  · rename_i h1; rw [if_pos h1] at h; simp at h
  · rename_i h1
    rw [if_neg h1] at h
    split
    · rename_i h2; rw [if_pos h2] at h; simp at h
    · rename_i h2
      rw [if_neg h2] at h
      split
      · rename_i h3; rw [if_pos h3] at h; simp at h
      · rename_i h3
        rw [if_neg h3] at h
        exact recF_ok _ h
end Go.Proofs.YtkoijpogjobgjaaGreat

/- The law EnvelopeMatchesSpec in plain Lean. -/
namespace Go.Proofs.YtkoijpogjobgjaaGreat
open Go.RowKit
set_option linter.unusedVariables false
set_option maxHeartbeats 1000000

theorem smallM_of {m : TMessage} (h : TMessage.bk m ≤ 1048576) : smallM m := by
  unfold TMessage.bk at h
  have h1 := bkL_len (bk := TField.bk) (fun x => by unfold TField.bk; omega) m.Fields
  have h2 := bkL_len (bk := fun _ : UInt8 => 1) (fun x => by simp) m.Body
  refine ⟨⟨by omega, fun f hf => ?_⟩, by omega⟩
  have h5 := bkL_mem (bk := TField.bk) hf
  have h6 : TField.bk f = f.Name.length + 1 + (f.Value.length + 1) + 1 := rfl
  omega
def mailF (m : TMail) : TFault := if (envF m.Envelope).Code != 0 then envF m.Envelope else if (msgF m.Message).Code != 0 then ⟨(msgF m.Message).Code, -30⟩ else ⟨0, 0⟩
theorem envelope_Check_eq (m : TMail) (h1 : smallE m.Envelope) (h2 : smallM m.Message) : envelope_Check m = some (mailF m) := by
  unfold envelope_Check mailF
  rw [envelope_Validate_eq _ h1, message_Validate_eq _ h2]
  simp only [Option.bind_some, basic_Failed_eq, basic_Fault_eq, basic_None_eq]
  cases (envF m.Envelope).Code != 0 <;> cases (msgF m.Message).Code != 0 <;> rfl
theorem R_MailFault_eq (m : TMail) (h1 : smallE m.Envelope) (h2 : smallM m.Message) : R_MailFault m = some (mailF m) := by
  unfold R_MailFault mailF
  rw [R_EnvelopeFault_eq _ h1, R_MessageFault_eq _ h2]
  simp only [Option.bind_some, R_At_eq]
  by_cases hc : (envF m.Envelope).Code = 0
  · have hz := envF_ok _ hc
    rw [hz]
    cases h : (msgF m.Message).Code != 0 <;> simp [h]
  · have e1 : ((envF m.Envelope).Code != 0) = true := by simpa using hc
    have e2 : ((envF m.Envelope).Code == 0) = false := by simpa using hc
    rw [e1, e2]
    simp only [cond_false, Option.bind_some, if_true]
end Go.Proofs.YtkoijpogjobgjaaGreat
