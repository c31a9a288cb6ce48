/- Part 1 of the proof of the law EnvelopesOfDomainsJoin: what it needs. -/
import Derived.Test.YtfhfjckjmacekaaC3
import Derived.Test.YtfhfjckjmacekaaProg
import Derived.Lib.IndexMore
import Derived.Lib.IndexAny
set_option linter.unusedVariables false
set_option linter.unusedSimpArgs false
/- Go's structures as Lean's, and their cells. Written by program. -/
namespace Go.Proofs.Ytfhfjckjmacekaa
open Go.RowKit
structure TFault where
  Code : Int
  Index : Int
def TFault.pc (x : TFault) : List PV := [pI x.Code, pI x.Index]
structure TAlias where
  Address : Str
  To : List Str
def TAlias.pc (x : TAlias) : List PV := [pS x.Address, pL cS x.To]
structure TRecipient where
  Address : Str
  Notify : Int
def TRecipient.pc (x : TRecipient) : List PV := [pS x.Address, pI x.Notify]
structure TEnvelope where
  From : Str
  To : List TRecipient
  Id : Str
def TEnvelope.pc (x : TEnvelope) : List PV := [pS x.From, pL TRecipient.pc x.To, pS x.Id]
structure TField where
  Name : Str
  Value : Str
def TField.pc (x : TField) : List PV := [pS x.Name, pS x.Value]
structure TMessage where
  Fields : List TField
  Body : List UInt8
def TMessage.pc (x : TMessage) : List PV := [pL TField.pc x.Fields, pL cU x.Body]
structure TMail where
  Envelope : TEnvelope
  Message : TMessage
def TMail.pc (x : TMail) : List PV := [pS x.Envelope.From, pL TRecipient.pc x.Envelope.To, pS x.Envelope.Id, pL TField.pc x.Message.Fields, pL cU x.Message.Body]
structure TForward where
  Address : Str
  To : List Str
  Keep : Bool
def TForward.pc (x : TForward) : List PV := [pS x.Address, pL cS x.To, pB x.Keep]
end Go.Proofs.Ytfhfjckjmacekaa

/- Rows of the table of types. Written by program. -/
namespace Go.Proofs.Ytfhfjckjmacekaa
open Go.RowKit
set_option maxRecDepth 100000
set_option maxHeartbeats 40000000
set_option linter.unusedVariables false
theorem mixed : Try.prog.follows .mixedOrders = true := by kernel_rfl
theorem cmp_api_Fault : CmpOk Try.prog 26 := ⟨by kernel_rfl, by kernel_rfl⟩
theorem cmp_api_Field : CmpOk Try.prog 91 := ⟨by kernel_rfl, by kernel_rfl⟩
theorem cmp_api_Recipient : CmpOk Try.prog 36 := ⟨by kernel_rfl, by kernel_rfl⟩
theorem pl_api_Alias (w : World) : Sem.run Try.prog (Array.mapM (fun (f : Field) => do pure (f.offset, ← sizeOf f.type)) #[⟨"Address", 9, 0, false, "", "", 0⟩, ⟨"To", 28, 1, false, "", "", 16⟩]) w = .ok #[(0, 1), (1, 1)] w := by kernel_rfl
theorem pl_api_Envelope (w : World) : Sem.run Try.prog (Array.mapM (fun (f : Field) => do pure (f.offset, ← sizeOf f.type)) #[⟨"From", 9, 0, false, "", "", 0⟩, ⟨"To", 22, 1, false, "", "", 16⟩, ⟨"Id", 9, 2, false, "", "", 40⟩]) w = .ok #[(0, 1), (1, 1), (2, 1)] w := by kernel_rfl
theorem pl_api_Fault (w : World) : Sem.run Try.prog (Array.mapM (fun (f : Field) => do pure (f.offset, ← sizeOf f.type)) #[⟨"Code", 3, 0, false, "", "", 0⟩, ⟨"Index", 3, 1, false, "", "", 8⟩]) w = .ok #[(0, 1), (1, 1)] w := by kernel_rfl
theorem pl_api_Field (w : World) : Sem.run Try.prog (Array.mapM (fun (f : Field) => do pure (f.offset, ← sizeOf f.type)) #[⟨"Name", 9, 0, false, "", "", 0⟩, ⟨"Value", 9, 1, false, "", "", 16⟩]) w = .ok #[(0, 1), (1, 1)] w := by kernel_rfl
theorem pl_api_Forward (w : World) : Sem.run Try.prog (Array.mapM (fun (f : Field) => do pure (f.offset, ← sizeOf f.type)) #[⟨"Address", 9, 0, false, "", "", 0⟩, ⟨"To", 28, 1, false, "", "", 16⟩, ⟨"Keep", 4, 2, false, "", "", 40⟩]) w = .ok #[(0, 1), (1, 1), (2, 1)] w := by kernel_rfl
theorem pl_api_Mail (w : World) : Sem.run Try.prog (Array.mapM (fun (f : Field) => do pure (f.offset, ← sizeOf f.type)) #[⟨"Envelope", 24, 0, false, "", "", 0⟩, ⟨"Message", 53, 3, false, "", "", 56⟩]) w = .ok #[(0, 3), (3, 2)] w := by kernel_rfl
theorem pl_api_Message (w : World) : Sem.run Try.prog (Array.mapM (fun (f : Field) => do pure (f.offset, ← sizeOf f.type)) #[⟨"Fields", 50, 0, false, "", "", 0⟩, ⟨"Body", 51, 1, false, "", "", 24⟩]) w = .ok #[(0, 1), (1, 1)] w := by kernel_rfl
theorem pl_api_Recipient (w : World) : Sem.run Try.prog (Array.mapM (fun (f : Field) => do pure (f.offset, ← sizeOf f.type)) #[⟨"Address", 9, 0, false, "", "", 0⟩, ⟨"Notify", 3, 1, false, "", "", 16⟩]) w = .ok #[(0, 1), (1, 1)] w := by kernel_rfl
theorem ty_api_Alias : TyOk Try.prog 110 2 40 (.agg #[.string ⟨#[]⟩, .slice none 0 0]) (.struct #[⟨"Address", 9, 0, false, "", "", 0⟩, ⟨"To", 28, 1, false, "", "", 16⟩]) := ⟨by kernel_rfl, by kernel_rfl⟩
theorem ty_api_Envelope : TyOk Try.prog 24 3 56 (.agg #[.string ⟨#[]⟩, .slice none 0 0, .string ⟨#[]⟩]) (.struct #[⟨"From", 9, 0, false, "", "", 0⟩, ⟨"To", 22, 1, false, "", "", 16⟩, ⟨"Id", 9, 2, false, "", "", 40⟩]) := ⟨by kernel_rfl, by kernel_rfl⟩
theorem ty_api_Fault : TyOk Try.prog 26 2 16 (.agg #[.int .i64 0, .int .i64 0]) (.struct #[⟨"Code", 3, 0, false, "", "", 0⟩, ⟨"Index", 3, 1, false, "", "", 8⟩]) := ⟨by kernel_rfl, by kernel_rfl⟩
theorem ty_api_Field : TyOk Try.prog 91 2 32 (.agg #[.string ⟨#[]⟩, .string ⟨#[]⟩]) (.struct #[⟨"Name", 9, 0, false, "", "", 0⟩, ⟨"Value", 9, 1, false, "", "", 16⟩]) := ⟨by kernel_rfl, by kernel_rfl⟩
theorem ty_api_Forward : TyOk Try.prog 61 3 48 (.agg #[.string ⟨#[]⟩, .slice none 0 0, .bool false]) (.struct #[⟨"Address", 9, 0, false, "", "", 0⟩, ⟨"To", 28, 1, false, "", "", 16⟩, ⟨"Keep", 4, 2, false, "", "", 40⟩]) := ⟨by kernel_rfl, by kernel_rfl⟩
theorem ty_api_Mail : TyOk Try.prog 55 5 104 (.agg #[.string ⟨#[]⟩, .slice none 0 0, .string ⟨#[]⟩, .slice none 0 0, .slice none 0 0]) (.struct #[⟨"Envelope", 24, 0, false, "", "", 0⟩, ⟨"Message", 53, 3, false, "", "", 56⟩]) := ⟨by kernel_rfl, by kernel_rfl⟩
theorem ty_api_Message : TyOk Try.prog 53 2 48 (.agg #[.slice none 0 0, .slice none 0 0]) (.struct #[⟨"Fields", 50, 0, false, "", "", 0⟩, ⟨"Body", 51, 1, false, "", "", 24⟩]) := ⟨by kernel_rfl, by kernel_rfl⟩
theorem ty_api_Recipient : TyOk Try.prog 36 2 24 (.agg #[.string ⟨#[]⟩, .int .i64 0]) (.struct #[⟨"Address", 9, 0, false, "", "", 0⟩, ⟨"Notify", 3, 1, false, "", "", 16⟩]) := ⟨by kernel_rfl, by kernel_rfl⟩
theorem ty_bool : TyOk Try.prog 4 1 1 (.bool false) .bool := ⟨by kernel_rfl, by kernel_rfl⟩
theorem ty_int : TyOk Try.prog 3 1 8 (.int .i64 0) (.int .i64) := ⟨by kernel_rfl, by kernel_rfl⟩
theorem ty_int32 : TyOk Try.prog 21 1 4 (.int .i32 0) (.int .i32) := ⟨by kernel_rfl, by kernel_rfl⟩
theorem ty_map_string_bool : TyOk Try.prog 107 1 8 (.map none) (.map 9 4) := ⟨by kernel_rfl, by kernel_rfl⟩
theorem ty_map_string_int : TyOk Try.prog 76 1 8 (.map none) (.map 9 3) := ⟨by kernel_rfl, by kernel_rfl⟩
theorem ty_map_string_s_string : TyOk Try.prog 105 1 8 (.map none) (.map 9 28) := ⟨by kernel_rfl, by kernel_rfl⟩
theorem ty_s_api_Alias : TyOk Try.prog 87 1 24 (.slice none 0 0) (.slice 110) := ⟨by kernel_rfl, by kernel_rfl⟩
theorem ty_s_api_Field : TyOk Try.prog 50 1 24 (.slice none 0 0) (.slice 91) := ⟨by kernel_rfl, by kernel_rfl⟩
theorem ty_s_api_Forward : TyOk Try.prog 58 1 24 (.slice none 0 0) (.slice 61) := ⟨by kernel_rfl, by kernel_rfl⟩
theorem ty_s_api_Mail : TyOk Try.prog 63 1 24 (.slice none 0 0) (.slice 55) := ⟨by kernel_rfl, by kernel_rfl⟩
theorem ty_s_api_Recipient : TyOk Try.prog 22 1 24 (.slice none 0 0) (.slice 36) := ⟨by kernel_rfl, by kernel_rfl⟩
theorem ty_s_s_api_Field : TyOk Try.prog 128 1 24 (.slice none 0 0) (.slice 50) := ⟨by kernel_rfl, by kernel_rfl⟩
theorem ty_s_string : TyOk Try.prog 28 1 24 (.slice none 0 0) (.slice 9) := ⟨by kernel_rfl, by kernel_rfl⟩
theorem ty_s_uint8 : TyOk Try.prog 51 1 24 (.slice none 0 0) (.slice 5) := ⟨by kernel_rfl, by kernel_rfl⟩
theorem ty_string : TyOk Try.prog 9 1 16 (.string ⟨#[]⟩) .string := ⟨by kernel_rfl, by kernel_rfl⟩
theorem ty_uint8 : TyOk Try.prog 5 1 1 (.int .u8 0) (.int .u8) := ⟨by kernel_rfl, by kernel_rfl⟩
def tab : Tab := [(110, ⟨2, 40, (.agg #[.string ⟨#[]⟩, .slice none 0 0]), (.struct #[⟨"Address", 9, 0, false, "", "", 0⟩, ⟨"To", 28, 1, false, "", "", 16⟩]), (some #[(0, 1), (1, 1)])⟩), (24, ⟨3, 56, (.agg #[.string ⟨#[]⟩, .slice none 0 0, .string ⟨#[]⟩]), (.struct #[⟨"From", 9, 0, false, "", "", 0⟩, ⟨"To", 22, 1, false, "", "", 16⟩, ⟨"Id", 9, 2, false, "", "", 40⟩]), (some #[(0, 1), (1, 1), (2, 1)])⟩), (26, ⟨2, 16, (.agg #[.int .i64 0, .int .i64 0]), (.struct #[⟨"Code", 3, 0, false, "", "", 0⟩, ⟨"Index", 3, 1, false, "", "", 8⟩]), (some #[(0, 1), (1, 1)])⟩), (91, ⟨2, 32, (.agg #[.string ⟨#[]⟩, .string ⟨#[]⟩]), (.struct #[⟨"Name", 9, 0, false, "", "", 0⟩, ⟨"Value", 9, 1, false, "", "", 16⟩]), (some #[(0, 1), (1, 1)])⟩), (61, ⟨3, 48, (.agg #[.string ⟨#[]⟩, .slice none 0 0, .bool false]), (.struct #[⟨"Address", 9, 0, false, "", "", 0⟩, ⟨"To", 28, 1, false, "", "", 16⟩, ⟨"Keep", 4, 2, false, "", "", 40⟩]), (some #[(0, 1), (1, 1), (2, 1)])⟩), (55, ⟨5, 104, (.agg #[.string ⟨#[]⟩, .slice none 0 0, .string ⟨#[]⟩, .slice none 0 0, .slice none 0 0]), (.struct #[⟨"Envelope", 24, 0, false, "", "", 0⟩, ⟨"Message", 53, 3, false, "", "", 56⟩]), (some #[(0, 3), (3, 2)])⟩), (53, ⟨2, 48, (.agg #[.slice none 0 0, .slice none 0 0]), (.struct #[⟨"Fields", 50, 0, false, "", "", 0⟩, ⟨"Body", 51, 1, false, "", "", 24⟩]), (some #[(0, 1), (1, 1)])⟩), (36, ⟨2, 24, (.agg #[.string ⟨#[]⟩, .int .i64 0]), (.struct #[⟨"Address", 9, 0, false, "", "", 0⟩, ⟨"Notify", 3, 1, false, "", "", 16⟩]), (some #[(0, 1), (1, 1)])⟩), (4, ⟨1, 1, (.bool false), .bool, none⟩), (3, ⟨1, 8, (.int .i64 0), (.int .i64), none⟩), (21, ⟨1, 4, (.int .i32 0), (.int .i32), none⟩), (107, ⟨1, 8, (.map none), (.map 9 4), none⟩), (76, ⟨1, 8, (.map none), (.map 9 3), none⟩), (105, ⟨1, 8, (.map none), (.map 9 28), none⟩), (87, ⟨1, 24, (.slice none 0 0), (.slice 110), none⟩), (50, ⟨1, 24, (.slice none 0 0), (.slice 91), none⟩), (58, ⟨1, 24, (.slice none 0 0), (.slice 61), none⟩), (63, ⟨1, 24, (.slice none 0 0), (.slice 55), none⟩), (22, ⟨1, 24, (.slice none 0 0), (.slice 36), none⟩), (128, ⟨1, 24, (.slice none 0 0), (.slice 50), none⟩), (28, ⟨1, 24, (.slice none 0 0), (.slice 9), none⟩), (51, ⟨1, 24, (.slice none 0 0), (.slice 5), none⟩), (9, ⟨1, 16, (.string ⟨#[]⟩), .string, none⟩), (5, ⟨1, 1, (.int .u8 0), (.int .u8), none⟩)]
theorem tk : TabOk Try.prog tab := (tab_consP ty_api_Alias pl_api_Alias (tab_consP ty_api_Envelope pl_api_Envelope (tab_consP ty_api_Fault pl_api_Fault (tab_consP ty_api_Field pl_api_Field (tab_consP ty_api_Forward pl_api_Forward (tab_consP ty_api_Mail pl_api_Mail (tab_consP ty_api_Message pl_api_Message (tab_consP ty_api_Recipient pl_api_Recipient (tab_cons ty_bool (tab_cons ty_int (tab_cons ty_int32 (tab_cons ty_map_string_bool (tab_cons ty_map_string_int (tab_cons ty_map_string_s_string (tab_cons ty_s_api_Alias (tab_cons ty_s_api_Field (tab_cons ty_s_api_Forward (tab_cons ty_s_api_Mail (tab_cons ty_s_api_Recipient (tab_cons ty_s_s_api_Field (tab_cons ty_s_string (tab_cons ty_s_uint8 (tab_cons ty_string (tab_cons ty_uint8 tab_nil))))))))))))))))))))))))
end Go.Proofs.Ytfhfjckjmacekaa

/- How the laws' arguments are read. Written by program. -/
namespace Go.Proofs.Ytfhfjckjmacekaa
open Go.RowKit
set_option maxRecDepth 100000
set_option linter.unusedVariables false
theorem op_string : Opens Try.prog 9 1 cS okStr (fun s => s.length + 1) := opens_S ty_string.u (by kernel_rfl)
theorem op_int : Opens Try.prog 3 1 cI ok64 (fun _ => 1) := opens_I ty_int.u (by kernel_rfl)
def TRecipient.ok (x : TRecipient) : Prop := okStr x.Address ∧ ok64 x.Notify
def TRecipient.bk (x : TRecipient) : Nat := (fun s => s.length + 1) x.Address + (fun _ => 1) x.Notify + 1
instance : Inhabited TRecipient := ⟨⟨default, default⟩⟩
theorem op_api_Recipient : Opens Try.prog 36 2 TRecipient.pc TRecipient.ok TRecipient.bk := ⟨by kernel_rfl, fun _ => rfl, fun {H enc W fuel cs d} h => by
  obtain ⟨xs, n, _, rfl, hl, hlen, hf⟩ := DataW.trod_struct ty_api_Recipient.u h
  have hl2 : cs.length = 2 := hl.trans (by kernel_rfl)
  match xs, hlen with
  | [y0, y1], _ =>
    obtain ⟨x0, r0, o0, b0⟩ := op_string.op (show _ = some y0 from hf 0 _ rfl)
    replace r0 : RelC W _ (List.take (Try.prog.cellsOf 9) (List.drop 0 cs)) := r0
    rw [op_string.cells] at r0
    obtain ⟨x1, r1, o1, b1⟩ := op_int.op (show _ = some y1 from hf 1 _ rfl)
    replace r1 : RelC W _ (List.take (Try.prog.cellsOf 3) (List.drop 1 cs)) := r1
    rw [op_int.cells] at r1
    exact ⟨⟨x0, x1⟩, (relC_seg (off := 0) rfl r0 (relC_seg (off := 1) rfl r1 (relC_end hl2))), ⟨o0, o1⟩, by simp only [List.map, Rows.uptoBulk, Rows.uptoBulkAll, TRecipient.bk]; omega⟩⟩
theorem op_s_api_Recipient : Opens Try.prog 22 1 (cL TRecipient.pc) (okL TRecipient.ok) (bkL TRecipient.bk) := opens_L op_api_Recipient rfl ty_s_api_Recipient.u (by kernel_rfl)
def TEnvelope.ok (x : TEnvelope) : Prop := okStr x.From ∧ (okL TRecipient.ok) x.To ∧ okStr x.Id
def TEnvelope.bk (x : TEnvelope) : Nat := (fun s => s.length + 1) x.From + (bkL TRecipient.bk) x.To + (fun s => s.length + 1) x.Id + 1
instance : Inhabited TEnvelope := ⟨⟨default, default, default⟩⟩
theorem op_api_Envelope : Opens Try.prog 24 3 TEnvelope.pc TEnvelope.ok TEnvelope.bk := ⟨by kernel_rfl, fun _ => rfl, fun {H enc W fuel cs d} h => by
  obtain ⟨xs, n, _, rfl, hl, hlen, hf⟩ := DataW.trod_struct ty_api_Envelope.u h
  have hl2 : cs.length = 3 := hl.trans (by kernel_rfl)
  match xs, hlen with
  | [y0, y1, y2], _ =>
    obtain ⟨x0, r0, o0, b0⟩ := op_string.op (show _ = some y0 from hf 0 _ rfl)
    replace r0 : RelC W _ (List.take (Try.prog.cellsOf 9) (List.drop 0 cs)) := r0
    rw [op_string.cells] at r0
    obtain ⟨x1, r1, o1, b1⟩ := op_s_api_Recipient.op (show _ = some y1 from hf 1 _ rfl)
    replace r1 : RelC W _ (List.take (Try.prog.cellsOf 22) (List.drop 1 cs)) := r1
    rw [op_s_api_Recipient.cells] at r1
    obtain ⟨x2, r2, o2, b2⟩ := op_string.op (show _ = some y2 from hf 2 _ rfl)
    replace r2 : RelC W _ (List.take (Try.prog.cellsOf 9) (List.drop 2 cs)) := r2
    rw [op_string.cells] at r2
    exact ⟨⟨x0, x1, x2⟩, (relC_seg (off := 0) rfl r0 (relC_seg (off := 1) rfl r1 (relC_seg (off := 2) rfl r2 (relC_end hl2)))), ⟨o0, o1, o2⟩, by simp only [List.map, Rows.uptoBulk, Rows.uptoBulkAll, TEnvelope.bk]; omega⟩⟩
def TField.ok (x : TField) : Prop := okStr x.Name ∧ okStr x.Value
def TField.bk (x : TField) : Nat := (fun s => s.length + 1) x.Name + (fun s => s.length + 1) x.Value + 1
instance : Inhabited TField := ⟨⟨default, default⟩⟩
theorem op_api_Field : Opens Try.prog 91 2 TField.pc TField.ok TField.bk := ⟨by kernel_rfl, fun _ => rfl, fun {H enc W fuel cs d} h => by
  obtain ⟨xs, n, _, rfl, hl, hlen, hf⟩ := DataW.trod_struct ty_api_Field.u h
  have hl2 : cs.length = 2 := hl.trans (by kernel_rfl)
  match xs, hlen with
  | [y0, y1], _ =>
    obtain ⟨x0, r0, o0, b0⟩ := op_string.op (show _ = some y0 from hf 0 _ rfl)
    replace r0 : RelC W _ (List.take (Try.prog.cellsOf 9) (List.drop 0 cs)) := r0
    rw [op_string.cells] at r0
    obtain ⟨x1, r1, o1, b1⟩ := op_string.op (show _ = some y1 from hf 1 _ rfl)
    replace r1 : RelC W _ (List.take (Try.prog.cellsOf 9) (List.drop 1 cs)) := r1
    rw [op_string.cells] at r1
    exact ⟨⟨x0, x1⟩, (relC_seg (off := 0) rfl r0 (relC_seg (off := 1) rfl r1 (relC_end hl2))), ⟨o0, o1⟩, by simp only [List.map, Rows.uptoBulk, Rows.uptoBulkAll, TField.bk]; omega⟩⟩
theorem op_s_api_Field : Opens Try.prog 50 1 (cL TField.pc) (okL TField.ok) (bkL TField.bk) := opens_L op_api_Field rfl ty_s_api_Field.u (by kernel_rfl)
theorem op_uint8 : Opens Try.prog 5 1 cU (fun _ => True) (fun _ => 1) := opens_U ty_uint8.u (by kernel_rfl)
theorem op_s_uint8 : Opens Try.prog 51 1 (cL cU) (okL (fun _ => True)) (bkL (fun _ => 1)) := opens_L op_uint8 rfl ty_s_uint8.u (by kernel_rfl)
def TMessage.ok (x : TMessage) : Prop := (okL TField.ok) x.Fields ∧ (okL (fun _ => True)) x.Body
def TMessage.bk (x : TMessage) : Nat := (bkL TField.bk) x.Fields + (bkL (fun _ => 1)) x.Body + 1
instance : Inhabited TMessage := ⟨⟨default, default⟩⟩
theorem op_api_Message : Opens Try.prog 53 2 TMessage.pc TMessage.ok TMessage.bk := ⟨by kernel_rfl, fun _ => rfl, fun {H enc W fuel cs d} h => by
  obtain ⟨xs, n, _, rfl, hl, hlen, hf⟩ := DataW.trod_struct ty_api_Message.u h
  have hl2 : cs.length = 2 := hl.trans (by kernel_rfl)
  match xs, hlen with
  | [y0, y1], _ =>
    obtain ⟨x0, r0, o0, b0⟩ := op_s_api_Field.op (show _ = some y0 from hf 0 _ rfl)
    replace r0 : RelC W _ (List.take (Try.prog.cellsOf 50) (List.drop 0 cs)) := r0
    rw [op_s_api_Field.cells] at r0
    obtain ⟨x1, r1, o1, b1⟩ := op_s_uint8.op (show _ = some y1 from hf 1 _ rfl)
    replace r1 : RelC W _ (List.take (Try.prog.cellsOf 51) (List.drop 1 cs)) := r1
    rw [op_s_uint8.cells] at r1
    exact ⟨⟨x0, x1⟩, (relC_seg (off := 0) rfl r0 (relC_seg (off := 1) rfl r1 (relC_end hl2))), ⟨o0, o1⟩, by simp only [List.map, Rows.uptoBulk, Rows.uptoBulkAll, TMessage.bk]; omega⟩⟩
def TMail.ok (x : TMail) : Prop := TEnvelope.ok x.Envelope ∧ TMessage.ok x.Message
def TMail.bk (x : TMail) : Nat := TEnvelope.bk x.Envelope + TMessage.bk x.Message + 1
instance : Inhabited TMail := ⟨⟨default, default⟩⟩
theorem op_api_Mail : Opens Try.prog 55 5 TMail.pc TMail.ok TMail.bk := ⟨by kernel_rfl, fun _ => rfl, fun {H enc W fuel cs d} h => by
  obtain ⟨xs, n, _, rfl, hl, hlen, hf⟩ := DataW.trod_struct ty_api_Mail.u h
  have hl2 : cs.length = 5 := hl.trans (by kernel_rfl)
  match xs, hlen with
  | [y0, y1], _ =>
    obtain ⟨x0, r0, o0, b0⟩ := op_api_Envelope.op (show _ = some y0 from hf 0 _ rfl)
    replace r0 : RelC W _ (List.take (Try.prog.cellsOf 24) (List.drop 0 cs)) := r0
    rw [op_api_Envelope.cells] at r0
    obtain ⟨x1, r1, o1, b1⟩ := op_api_Message.op (show _ = some y1 from hf 1 _ rfl)
    replace r1 : RelC W _ (List.take (Try.prog.cellsOf 53) (List.drop 3 cs)) := r1
    rw [op_api_Message.cells] at r1
    exact ⟨⟨x0, x1⟩, (relC_seg (off := 0) rfl r0 (relC_seg (off := 3) rfl r1 (relC_end hl2))), ⟨o0, o1⟩, by simp only [List.map, Rows.uptoBulk, Rows.uptoBulkAll, TMail.bk]; omega⟩⟩
theorem op_s_string : Opens Try.prog 28 1 (cL cS) (okL okStr) (bkL (fun s => s.length + 1)) := opens_L op_string rfl ty_s_string.u (by kernel_rfl)
theorem op_bool : Opens Try.prog 4 1 cB (fun _ => True) (fun _ => 1) := opens_B ty_bool.u (by kernel_rfl)
def TForward.ok (x : TForward) : Prop := okStr x.Address ∧ (okL okStr) x.To ∧ (fun _ => True) x.Keep
def TForward.bk (x : TForward) : Nat := (fun s => s.length + 1) x.Address + (bkL (fun s => s.length + 1)) x.To + (fun _ => 1) x.Keep + 1
instance : Inhabited TForward := ⟨⟨default, default, default⟩⟩
theorem op_api_Forward : Opens Try.prog 61 3 TForward.pc TForward.ok TForward.bk := ⟨by kernel_rfl, fun _ => rfl, fun {H enc W fuel cs d} h => by
  obtain ⟨xs, n, _, rfl, hl, hlen, hf⟩ := DataW.trod_struct ty_api_Forward.u h
  have hl2 : cs.length = 3 := hl.trans (by kernel_rfl)
  match xs, hlen with
  | [y0, y1, y2], _ =>
    obtain ⟨x0, r0, o0, b0⟩ := op_string.op (show _ = some y0 from hf 0 _ rfl)
    replace r0 : RelC W _ (List.take (Try.prog.cellsOf 9) (List.drop 0 cs)) := r0
    rw [op_string.cells] at r0
    obtain ⟨x1, r1, o1, b1⟩ := op_s_string.op (show _ = some y1 from hf 1 _ rfl)
    replace r1 : RelC W _ (List.take (Try.prog.cellsOf 28) (List.drop 1 cs)) := r1
    rw [op_s_string.cells] at r1
    obtain ⟨x2, r2, o2, b2⟩ := op_bool.op (show _ = some y2 from hf 2 _ rfl)
    replace r2 : RelC W _ (List.take (Try.prog.cellsOf 4) (List.drop 2 cs)) := r2
    rw [op_bool.cells] at r2
    exact ⟨⟨x0, x1, x2⟩, (relC_seg (off := 0) rfl r0 (relC_seg (off := 1) rfl r1 (relC_seg (off := 2) rfl r2 (relC_end hl2)))), ⟨o0, o1, o2⟩, by simp only [List.map, Rows.uptoBulk, Rows.uptoBulkAll, TForward.bk]; omega⟩⟩
theorem op_s_api_Forward : Opens Try.prog 58 1 (cL TForward.pc) (okL TForward.ok) (bkL TForward.bk) := opens_L op_api_Forward rfl ty_s_api_Forward.u (by kernel_rfl)
end Go.Proofs.Ytfhfjckjmacekaa

/- Functions of the program as Lean functions: what they compute. Written by program. -/
namespace Go.Proofs.Ytfhfjckjmacekaa
open Go.RowKit
set_option maxRecDepth 100000
set_option maxHeartbeats 40000000
set_option linter.unusedVariables false
def R_In (a0 : Int) (a1 : Int) (a2 : Int) : Option Bool :=
  ((bif decide (a1 ≤ a0) then some (decide (a0 ≤ a2)) else some false) : Option Bool).bind fun (j1 : Bool) => some j1
def R_At (a0 : Int) (a1 : Int) : Option TFault :=
  some ((TFault.mk a0 a1))
def R_Has_l1 (a0 : List Str) (a1 : Str) (s1 : Int) : Option (Step Int (Unit ⊕ Bool)) :=
  (bif decide (s1 < (a0.length : Int)) then (idx a0 s1).bind fun v7 => (bif (v7 == a1) then some (.out (.inr true)) else some (.cont (w64 (s1 + 1)))) else some (.out (.inl (()))))
noncomputable def R_Has (a0 : List Str) (a1 : Str) : Option Bool :=
  (iter (R_Has_l1 a0 a1) 0).bind (Sum.elim (fun b2 => some false) (fun b3 => some b3))
def R_letterOrDigit (a0 : UInt8) : Option Bool :=
  ((R_In ((a0.toNat : Int)) 97 122).bind fun v2 => (bif v2 then some true else (R_In ((a0.toNat : Int)) 65 90).bind fun v5 => (bif v5 then some true else (R_In ((a0.toNat : Int)) 48 57).bind fun v8 => some v8)) : Option Bool).bind fun (j1 : Bool) => some j1
def R_sign_l1 (a0 : Str) (s1 : Int) : Option (Step Int (Unit ⊕ Int)) :=
  (bif decide (s1 < (a0.length : Int)) then (idx a0 s1).bind fun v7 => (bif ((v7.toNat : Int) == 64) then some (.out (.inr s1)) else some (.cont (w64 (s1 + 1)))) else some (.out (.inl (()))))
noncomputable def R_sign (a0 : Str) : Option Int :=
  (iter (R_sign_l1 a0) 0).bind (Sum.elim (fun b2 => some ((a0.length : Int))) (fun b3 => some b3))
def R_DomainOk_l1 (a0 : Str) (s1 : Int) : Option (Step Int (Unit ⊕ Bool)) :=
  (bif decide (s1 < (a0.length : Int)) then (idx a0 s1).bind fun v7 => ((idx a0 s1).bind fun v10 => (bif ((v10.toNat : Int) == 46) then (bif (s1 == 0) then some true else (bif (s1 == (w64 ((a0.length : Int) - 1))) then some true else (idx a0 ((w64 (s1 - 1)))).bind fun v15 => some (((v15.toNat : Int) == 46)))) else some false) : Option Bool).bind fun (j9 : Bool) => (bif j9 then some (.out (.inr false)) else ((R_In ((v7.toNat : Int)) 97 122).bind fun v19 => (bif (!v19) then (R_In ((v7.toNat : Int)) 48 57).bind fun v22 => (bif (!v22) then (idx a0 s1).bind fun v25 => (bif ((v25.toNat : Int) != 45) then (idx a0 s1).bind fun v28 => some (((v28.toNat : Int) != 46)) else some false) else some false) else some false) : Option Bool).bind fun (j18 : Bool) => (bif j18 then some (.out (.inr false)) else some (.cont (w64 (s1 + 1))))) else some (.out (.inl (()))))
noncomputable def R_DomainOk (a0 : Str) : Option Bool :=
  (iter (R_DomainOk_l1 a0) 0).bind (Sum.elim (fun b2 => (R_In ((a0.length : Int)) 1 60).bind fun v31 => some v31) (fun b3 => some b3))
def R_AddressOk_l1 (a0 : Str) (v1 : Int) (s3 : Int) : Option (Step Int (Unit ⊕ Bool)) :=
  (bif decide (s3 < v1) then (idx a0 s3).bind fun v9 => ((R_letterOrDigit v9).bind fun v12 => (bif (!v12) then (bif ((v9.toNat : Int) != 45) then (bif ((v9.toNat : Int) != 95) then (bif ((v9.toNat : Int) != 46) then (bif ((v9.toNat : Int) != 43) then some (((v9.toNat : Int) != 61)) else some false) else some false) else some false) else some false) else some false) : Option Bool).bind fun (j11 : Bool) => (bif j11 then some (.out (.inr false)) else some (.cont (w64 (s3 + 1)))) else some (.out (.inl (()))))
noncomputable def R_AddressOk (a0 : Str) : Option Bool :=
  (R_sign a0).bind fun v1 => (iter (R_AddressOk_l1 a0 v1) 0).bind (Sum.elim (fun b4 => ((R_In v1 1 60).bind fun v21 => (bif v21 then (bif decide (v1 < (a0.length : Int)) then (cut a0 ((w64 (v1 + 1))) ((a0.length : Int))).bind fun v25 => (R_DomainOk v25).bind fun v27 => some v27 else some false) else some false) : Option Bool).bind fun (j20 : Bool) => some j20) (fun b5 => some b5))
noncomputable def R_AddressesOk_l1 (a0 : List Str) (s1 : Int) : Option (Step Int (Unit ⊕ Bool)) :=
  (bif decide (s1 < (a0.length : Int)) then (idx a0 s1).bind fun v7 => (R_AddressOk v7).bind fun v9 => (bif (!v9) then some (.out (.inr false)) else some (.cont (w64 (s1 + 1)))) else some (.out (.inl (()))))
noncomputable def R_AddressesOk (a0 : List Str) : Option Bool :=
  (iter (R_AddressesOk_l1 a0) 0).bind fun o => match o with | .inl b2 => some true | .inr b3 => some b3
def R_targets_l1 (a0 : List TAlias) (a1 : Str) (s1 : Int) : Option (Step Int (Unit ⊕ ((List Str) × Bool))) :=
  (bif decide (s1 < (a0.length : Int)) then (idx a0 s1).bind fun v7 => (bif (v7.Address == a1) then (idx a0 s1).bind fun v10 => some (.out (.inr ((v10.To, true)))) else some (.cont (w64 (s1 + 1)))) else some (.out (.inl (()))))
noncomputable def R_targets (a0 : List TAlias) (a1 : Str) : Option ((List Str) × Bool) :=
  (iter (R_targets_l1 a0 a1) 0).bind fun o => match o with | .inl b2 => some (([], false)) | .inr b3 => some ((b3.1, b3.2))
def basic_Fault (a0 : Int) (a1 : Int) : Option TFault :=
  some ((TFault.mk a0 a1))
def basic_None  : Option TFault :=
  some ((TFault.mk 0 0))
def basic_Failed (a0 : TFault) : Option Bool :=
  some ((a0.Code != 0))
def basic_Time (a0 : Int) : Option Bool :=
  ((bif decide ((-68719476736) ≤ a0) then some (decide (a0 ≤ 68719476736)) else some false) : Option Bool).bind fun (j1 : Bool) => some j1
def basic_Letter (a0 : UInt8) : Option Bool :=
  ((bif decide (97 ≤ (a0.toNat : Int)) then (bif decide ((a0.toNat : Int) ≤ 122) then some true else (bif decide (65 ≤ (a0.toNat : Int)) then (bif decide ((a0.toNat : Int) ≤ 90) then some true else (bif decide (48 ≤ (a0.toNat : Int)) then some (decide ((a0.toNat : Int) ≤ 57)) else some false)) else (bif decide (48 ≤ (a0.toNat : Int)) then some (decide ((a0.toNat : Int) ≤ 57)) else some false))) else (bif decide (65 ≤ (a0.toNat : Int)) then (bif decide ((a0.toNat : Int) ≤ 90) then some true else (bif decide (48 ≤ (a0.toNat : Int)) then some (decide ((a0.toNat : Int) ≤ 57)) else some false)) else (bif decide (48 ≤ (a0.toNat : Int)) then some (decide ((a0.toNat : Int) ≤ 57)) else some false))) : Option Bool).bind fun (j1 : Bool) => some j1
def R_Strings_l1 (a0 : List Str) (a1 : List Str) (s2 : Int) : Option (Step Int (Unit ⊕ Bool)) :=
  (bif decide (s2 < (a0.length : Int)) then (idx a0 s2).bind fun v8 => (idx a1 s2).bind fun v10 => (bif (v8 != v10) then some (.out (.inr false)) else some (.cont (w64 (s2 + 1)))) else some (.out (.inl (()))))
noncomputable def R_Strings (a0 : List Str) (a1 : List Str) : Option Bool :=
  (bif ((a0.length : Int) != (a1.length : Int)) then some false else (iter (R_Strings_l1 a0 a1) 0).bind (Sum.elim (fun b3 => some true) (fun b4 => some b4)))
def R_Lines_l1 (a0 : List UInt8) (s1 : Int × Int × (List Str)) : Option (Step (Int × Int × (List Str)) (Int × (List Str))) :=
  (bif decide (s1.2.1 < (a0.length : Int)) then (((idx a0 s1.2.1).bind fun v7 => (bif ((v7.toNat : Int) == 10) then (idx a0 ((w64 (s1.2.1 - 1)))).bind fun v10 => (bif ((v10.toNat : Int) == 13) then some (decide (s1.1 < s1.2.1)) else some false) else some false) : Option Bool).bind fun (j6 : Bool) => (bif j6 then (cut a0 s1.1 ((w64 (s1.2.1 - 1)))).bind fun v14 => (app 8796093022208 s1.2.2 (([v14] : List Str))).bind fun v16 => some (((w64 (s1.2.1 + 1)), v16)) else some ((s1.1, s1.2.2))) : Option (Int × (List Str))).bind fun (j5 : Int × (List Str)) => some (.cont (j5.1, (w64 (s1.2.1 + 1)), j5.2)) else some (.out ((s1.1, s1.2.2))))
noncomputable def R_Lines (a0 : List UInt8) : Option ((List Str) × (List UInt8)) :=
  (iter (R_Lines_l1 a0) ((0, 1, ([] : List Str)))).bind fun b2 => (cut a0 b2.1 ((a0.length : Int))).bind fun v18 => some ((b2.2, v18))
def R_undotted (a0 : Str) : Option Str :=
  ((bif decide (0 < (a0.length : Int)) then (idx a0 0).bind fun v3 => some (((v3.toNat : Int) == 46)) else some false) : Option Bool).bind fun (j1 : Bool) => (bif j1 then (cut a0 1 ((a0.length : Int))).bind fun v6 => some v6 else some a0)
def R_Received_l1 (v1 : (List Str) × (List UInt8)) (s3 : Int × Int × (List UInt8)) : Option (Step (Int × Int × (List UInt8)) ((List UInt8) ⊕ ((List UInt8) × Int × Bool))) :=
  (bif decide (s3.2.1 < (v1.1.length : Int)) then (idx v1.1 s3.2.1).bind fun v9 => (idx v1.1 s3.2.1).bind fun v11 => (bif (v11 == ([46] : Str)) then some (.out (.inr ((s3.2.2, (w64 ((w64 (s3.1 + (v9.length : Int))) + 2)), decide (12000 < (s3.2.2.length : Int)))))) else (idx v1.1 s3.2.1).bind fun v14 => (R_undotted v14).bind fun v16 => (app 140737488355328 s3.2.2 v16).bind fun v18 => (app 140737488355328 v18 (([(13 : UInt8), (10 : UInt8)] : List UInt8))).bind fun v20 => some (.cont ((w64 ((w64 (s3.1 + (v9.length : Int))) + 2)), (w64 (s3.2.1 + 1)), v20))) else some (.out (.inl s3.2.2)))
noncomputable def R_Received (a0 : List UInt8) : Option ((List UInt8) × Int × Bool) :=
  (R_Lines a0).bind fun v1 => (iter (R_Received_l1 v1) ((0, 0, ([] : List UInt8)))).bind fun o => match o with | .inl b4 => (R_undotted v1.2).bind fun v22 => (((bif (v1.2 == ([46] : Str)) then some true else some ((v1.2 == ([46, 13] : Str)))) : Option Bool).bind fun (j25 : Bool) => (bif j25 then some (([] : Str)) else some v22) : Option Str).bind fun (j24 : Str) => some (([], 0, decide (12000 < (w64 ((b4.length : Int) + (j24.length : Int)))))) | .inr b5 => some ((b5.1, b5.2.1, b5.2.2))
noncomputable def R_Reached_l1 (a1 : List Str) (s1 : Int × (List Str)) : Option (Step (Int × (List Str)) (List Str)) :=
  (bif decide (s1.1 < (a1.length : Int)) then ((idx a1 s1.1).bind fun v6 => (R_Has s1.2 v6).bind fun v8 => (bif (!v8) then (idx a1 s1.1).bind fun v11 => (app 8796093022208 s1.2 (([v11] : List Str))).bind fun v13 => some v13 else some s1.2) : Option (List Str)).bind fun (j5 : List Str) => some (.cont ((w64 (s1.1 + 1)), j5)) else some (.out s1.2))
noncomputable def R_Reached_l3 (v21 : (List Str) × Bool) (s23 : Int × (List Str)) : Option (Step (Int × (List Str)) (List Str)) :=
  (bif decide (s23.1 < (v21.1.length : Int)) then ((idx v21.1 s23.1).bind fun v28 => (R_Has s23.2 v28).bind fun v30 => (bif (!v30) then (idx v21.1 s23.1).bind fun v33 => (app 8796093022208 s23.2 (([v33] : List Str))).bind fun v35 => some v35 else some s23.2) : Option (List Str)).bind fun (j27 : List Str) => some (.cont ((w64 (s23.1 + 1)), j27)) else some (.out s23.2))
noncomputable def R_Reached_l2 (a0 : List TAlias) (s15 : Int × (List Str)) : Option (Step (Int × (List Str)) (List Str)) :=
  (bif decide (s15.1 < (s15.2.length : Int)) then (idx s15.2 s15.1).bind fun v19 => (R_targets a0 v19).bind fun v21 => (iter (R_Reached_l3 v21) ((0, s15.2))).bind fun b24 => some (.cont ((w64 (s15.1 + 1)), b24)) else some (.out s15.2))
noncomputable def R_Reached (a0 : List TAlias) (a1 : List Str) : Option (List Str) :=
  (iter (R_Reached_l1 a1) ((0, ([] : List Str)))).bind fun b2 => (iter (R_Reached_l2 a0) ((0, b2))).bind fun b16 => some b16
def R_AliasesFault_l2 (a0 : List TAlias) (s4 : Int) (s31 : Int) : Option (Step Int (Unit ⊕ TFault)) :=
  (bif decide (s31 < s4) then (idx a0 s31).bind fun v37 => (idx a0 s4).bind fun v39 => (bif (v37.Address == v39.Address) then (R_At 7 s4).bind fun v42 => some (.out (.inr v42)) else some (.cont (w64 (s31 + 1)))) else some (.out (.inl (()))))
noncomputable def R_AliasesFault_l1 (a0 : List TAlias) (s4 : Int) : Option (Step Int (Unit ⊕ TFault)) :=
  (bif decide (s4 < (a0.length : Int)) then (idx a0 s4).bind fun v10 => (R_AddressOk v10.Address).bind fun v12 => (bif (!v12) then (R_At 10 s4).bind fun v15 => some (.out (.inr v15)) else (idx a0 s4).bind fun v17 => (R_In ((v17.To.length : Int)) 1 60).bind fun v19 => (bif (!v19) then (R_At 2 s4).bind fun v22 => some (.out (.inr v22)) else (idx a0 s4).bind fun v24 => (R_AddressesOk v24.To).bind fun v26 => (bif (!v26) then (R_At 10 s4).bind fun v29 => some (.out (.inr v29)) else (iter (R_AliasesFault_l2 a0 s4) 0).bind fun o => match o with | .inl b32 => some (.cont (w64 (s4 + 1))) | .inr b33 => some (.out (.inr b33))))) else some (.out (.inl (()))))
noncomputable def R_AliasesFault (a0 : List TAlias) : Option TFault :=
  (bif decide (40 < (a0.length : Int)) then (R_At 2 ((-1))).bind fun v2 => some v2 else (iter (R_AliasesFault_l1 a0) 0).bind fun o => match o with | .inl b5 => some ((TFault.mk 0 0)) | .inr b6 => some b6)
noncomputable def R_Expanded_l1 (a0 : List TAlias) (v12 : List Str) (s14 : Int × (List Str)) : Option (Step (Int × (List Str)) (List Str)) :=
  (bif decide (s14.1 < (v12.length : Int)) then ((idx v12 s14.1).bind fun v19 => (R_targets a0 v19).bind fun v21 => (bif (!v21.2) then (idx v12 s14.1).bind fun v24 => (app 8796093022208 s14.2 (([v24] : List Str))).bind fun v26 => some v26 else some s14.2) : Option (List Str)).bind fun (j18 : List Str) => some (.cont ((w64 (s14.1 + 1)), j18)) else some (.out s14.2))
noncomputable def R_Expanded (a0 : List TAlias) (a1 : Str) : Option ((List Str) × TFault) :=
  (R_AliasesFault a0).bind fun v1 => (((bif (v1.Code == 0) then (R_AddressOk a1).bind fun v6 => some ((!v6)) else some false) : Option Bool).bind fun (j4 : Bool) => (bif j4 then (R_At 10 ((-2))).bind fun v9 => some ((v9.Code, v9.Index)) else some ((v1.Code, v1.Index))) : Option (Int × Int)).bind fun (j3 : Int × Int) => (bif (j3.1 != 0) then some (([], (TFault.mk j3.1 j3.2))) else (R_Reached a0 (([a1] : List Str))).bind fun v12 => (iter (R_Expanded_l1 a0 v12) ((0, ([] : List Str)))).bind fun b15 => some ((b15, (TFault.mk j3.1 j3.2))))
def retry_times_l1 (a0 : List Int) (s1 : Int) : Option (Step Int (Unit ⊕ Bool)) :=
  (bif decide (s1 < (a0.length : Int)) then (idx a0 s1).bind fun v7 => (basic_Time v7).bind fun v9 => (bif (!v9) then some (.out (.inr false)) else some (.cont (w64 (s1 + 1)))) else some (.out (.inl (()))))
noncomputable def retry_times (a0 : List Int) : Option Bool :=
  (iter (retry_times_l1 a0) 0).bind fun o => match o with | .inl b2 => some true | .inr b3 => some b3
noncomputable def retry_Late (a0 : Int) (a1 : Int) (a2 : Int) : Option (Bool × TFault) :=
  (retry_times (([a0, a1, a2] : List Int))).bind fun v1 => (bif (!v1) then (basic_Fault 3 ((-2))).bind fun v4 => some ((false, v4)) else ((bif decide (a1 < a0) then some true else some (decide (a2 < a1))) : Option Bool).bind fun (j6 : Bool) => (bif j6 then (basic_Fault 19 ((-4))).bind fun v9 => some ((false, v9)) else ((bif decide (a1 < (w64 (a0 + 14400))) then (basic_None).bind fun v13 => some ((decide ((w64 (a0 + 14400)) ≤ a2), v13.Code, v13.Index)) else (basic_None).bind fun v15 => some ((false, v15.Code, v15.Index))) : Option (Bool × Int × Int)).bind fun (j11 : Bool × Int × Int) => some ((j11.1, (TFault.mk j11.2.1 j11.2.2)))))
def bytes_Equal (a0 : List UInt8) (a1 : List UInt8) : Option Bool :=
  some ((a0 == a1))
def bytes_HasPrefix (a0 : List UInt8) (a1 : List UInt8) : Option Bool :=
  ((bif decide ((a1.length : Int) ≤ (a0.length : Int)) then (cut a0 0 ((a1.length : Int))).bind fun v3 => (bytes_Equal v3 a1).bind fun v5 => some v5 else some false) : Option Bool).bind fun (j1 : Bool) => some j1
def bytes_HasSuffix (a0 : List UInt8) (a1 : List UInt8) : Option Bool :=
  ((bif decide ((a1.length : Int) ≤ (a0.length : Int)) then (cut a0 ((w64 ((a0.length : Int) - (a1.length : Int)))) ((a0.length : Int))).bind fun v3 => (bytes_Equal v3 a1).bind fun v5 => some v5 else some false) : Option Bool).bind fun (j1 : Bool) => some j1
def bytes_TrimPrefix (a0 : List UInt8) (a1 : List UInt8) : Option (List UInt8) :=
  (bytes_HasPrefix a0 a1).bind fun v1 => (bif v1 then (cut a0 ((a1.length : Int)) ((a0.length : Int))).bind fun v4 => some v4 else some a0)
end Go.Proofs.Ytfhfjckjmacekaa

/- Library functions as Lean functions. -/
namespace Go.Proofs.Ytfhfjckjmacekaa
open Go.RowKit
def bytes_Index (a b : List UInt8) : Option Int := if a.length < 4294967281 ∧ b.length = 2 then some (Lib.index a b) else none
def strings_IndexByte (s : Str) (c : UInt8) : Option Int := some (Lib.indexByte s c)
def strings_Contains (s t : Str) : Option Bool := if s.length < 4294967281 then some (Lib.contains s t) else none
def strings_Cut (s t : Str) : Option (Str × Str × Bool) := if s.length < 4294967281 then some (Lib.cut s t) else none
end Go.Proofs.Ytfhfjckjmacekaa

/- Functions of the program as Lean functions: what they compute. Written by program. -/
namespace Go.Proofs.Ytfhfjckjmacekaa
open Go.RowKit
set_option maxRecDepth 100000
set_option maxHeartbeats 40000000
set_option linter.unusedVariables false
def unicode_utf8_ValidRune (a0 : Int) : Option Bool :=
  ((bif decide (0 ≤ a0) then some (decide (a0 < 55296)) else some false) : Option Bool).bind fun (j1 : Bool) => (bif j1 then some true else ((bif decide (57343 < a0) then some (decide (a0 ≤ 1114111)) else some false) : Option Bool).bind fun (j4 : Bool) => (bif j4 then some true else some false))
def strings_IndexRune_l1 (a0 : Str) (s7 : Nat) : Option (Step Nat (Unit ⊕ Int)) :=
  (bif decide (s7 < a0.length) then (bif ((runeAt a0 s7) == 65533) then some (.out (.inr (((s7 : Nat) : Int)))) else some (.cont (s7 + wideAt a0 s7))) else some (.out (.inl (()))))
def strings_IndexRune_l4 (a0 : Str) (a1 : Int) (j23 : Int × Int) (s36 : Int) : Option (Step Int Unit) :=
  (bif decide (s36 < (((runeS a1)).length : Int)) then (idx a0 ((w64 (j23.2 - s36)))).bind fun v40 => (idx ((runeS a1)) ((w64 (j23.1 - s36)))).bind fun v42 => (bif ((v40.toNat : Int) != (v42.toNat : Int)) then none else some (.cont (w64 (s36 + 1)))) else some (.out (())))
noncomputable def strings_IndexRune_k3 (a0 : Str) (a1 : Int) (j23 : Int × Int) : Option (Step Int (Unit ⊕ Int)) :=
  (iter (strings_IndexRune_l4 a0 a1 j23) 1).bind fun b37 => some (.out (.inr ((w64 (j23.2 - j23.1)))))
noncomputable def strings_IndexRune_l2 (a0 : Str) (a1 : Int) (s17 : Int) : Option (Step Int (Unit ⊕ Int)) :=
  (bif decide (s17 < (a0.length : Int)) then (idx a0 s17).bind fun v24 => (idx ((runeS a1)) ((w64 ((((runeS a1)).length : Int) - 1)))).bind fun v26 => (bif ((v24.toNat : Int) != (v26.toNat : Int)) then (cut a0 ((w64 (s17 + 1))) ((a0.length : Int))).bind fun v29 => (idx ((runeS a1)) ((w64 ((((runeS a1)).length : Int) - 1)))).bind fun v31 => (strings_IndexByte v29 v31).bind fun v33 => (bif decide (v33 < 0) then some (.out (.inr ((-1)))) else (strings_IndexRune_k3 a0 a1 ((w64 ((((runeS a1)).length : Int) - 1)), (w64 (s17 + (w64 (v33 + 1))))))) else (strings_IndexRune_k3 a0 a1 ((w64 ((((runeS a1)).length : Int) - 1)), s17))) else some (.out (.inl (()))))
noncomputable def strings_IndexRune (a0 : Str) (a1 : Int) : Option Int :=
  ((bif decide (0 ≤ a1) then some (decide (a1 < 128)) else some false) : Option Bool).bind fun (j1 : Bool) => (bif j1 then (strings_IndexByte a0 ((toU8 a1))).bind fun v4 => some v4 else (bif (a1 == 65533) then (iter (strings_IndexRune_l1 a0) 0).bind (Sum.elim (fun b8 => some ((-1))) (fun b9 => some b9)) else (unicode_utf8_ValidRune a1).bind fun v14 => (bif (!v14) then some ((-1)) else (iter (strings_IndexRune_l2 a0 a1) ((w64 ((((runeS a1)).length : Int) - 1)))).bind (Sum.elim (fun b18 => some ((-1))) (fun b19 => some b19)))))
def strings_shouldUseASCIISet (a0 : Int) : Option Bool :=
  some (decide (8 < a0))
noncomputable def strings_IndexAnyP_l1 (a0 : Str) (a1 : Str) (s12 : Nat) : Option (Step Nat (Unit ⊕ Int)) :=
  (bif decide (s12 < a0.length) then (strings_IndexRune a1 ((runeAt a0 s12))).bind fun v18 => (bif decide (0 ≤ v18) then some (.out (.inr (((s12 : Nat) : Int)))) else some (.cont (s12 + wideAt a0 s12))) else some (.out (.inl (()))))
noncomputable def strings_IndexAnyP (a0 : Str) (a1 : Str) : Option Int :=
  (bif (a1 == ([] : Str)) then some ((-1)) else (bif ((a1.length : Int) == 1) then (idx a1 0).bind fun v3 => ((bif decide (128 ≤ (v3.toNat : Int)) then some 65533 else some ((v3.toNat : Int))) : Option Int).bind fun (j5 : Int) => (strings_IndexRune a0 j5).bind fun v7 => some v7 else (strings_shouldUseASCIISet ((a0.length : Int))).bind fun v9 => (bif v9 then none else (iter (strings_IndexAnyP_l1 a0 a1) 0).bind (Sum.elim (fun b13 => some ((-1))) (fun b14 => some b14)))))
end Go.Proofs.Ytfhfjckjmacekaa

/- Library functions as Lean functions. -/
namespace Go.Proofs.Ytfhfjckjmacekaa
open Go.RowKit
def asciiL (t : Str) : Bool := t.all fun c => decide (c.toNat < 128)
def strings_IndexAny (s t : Str) : Option Int := if s.length < 4294967281 ∧ t.length < 4294967281 ∧ 2 ≤ t.length ∧ asciiL t = true then some (Lib.indexAny s t) else none
end Go.Proofs.Ytfhfjckjmacekaa

/- Functions of the program as Lean functions: what they compute. Written by program. -/
namespace Go.Proofs.Ytfhfjckjmacekaa
open Go.RowKit
set_option maxRecDepth 100000
set_option maxHeartbeats 40000000
set_option linter.unusedVariables false
def lines_Split_l1 (a0 : List UInt8) (s4 : Int × Int × (List Str)) : Option (Step (Int × Int × (List Str)) ((Int × (List Str)) ⊕ (Int × (List Str) × Int × Int))) :=
  (cut a0 s4.1 ((a0.length : Int))).bind fun v9 => (bytes_Index v9 (([(13 : UInt8), (10 : UInt8)] : List UInt8))).bind fun v11 => (bif decide (v11 < 0) then some (.out (.inl ((s4.2.1, s4.2.2)))) else (cut a0 s4.1 ((w64 (s4.1 + v11)))).bind fun v14 => (bif decide (4000 < (v14.length : Int)) then (basic_Fault 1 ((s4.2.2.length : Int))).bind fun v17 => some (.out (.inr ((s4.2.1, s4.2.2, v17.Code, v17.Index)))) else (app 8796093022208 s4.2.2 (([v14] : List Str))).bind fun v19 => some (.cont ((w64 (s4.1 + (w64 (v11 + 2)))), (w64 ((w64 (s4.1 + v11)) + 2)), v19))))
noncomputable def lines_Split (a0 : List UInt8) : Option ((List Str) × (List UInt8) × TFault) :=
  (bif decide (40000 < (a0.length : Int)) then (basic_Fault 1 ((-1))).bind fun v2 => some (([], [], v2)) else (iter (lines_Split_l1 a0) ((0, 0, ([] : List Str)))).bind fun o => match o with | .inl b5 => (cut a0 b5.1 ((a0.length : Int))).bind fun v21 => (app 140737488355328 ([] : List UInt8) v21).bind fun v23 => (basic_None).bind fun v25 => some ((b5.2, v23, v25)) | .inr b6 => some (([], [], (TFault.mk b6.2.2.1 b6.2.2.2))))
def lines_Stuff_l1 (a0 : List UInt8) (s11 : Int × (List UInt8)) : Option (Step (Int × (List UInt8)) (List UInt8)) :=
  (cut a0 s11.1 ((a0.length : Int))).bind fun v14 => (bytes_Index v14 (([(13 : UInt8), (10 : UInt8)] : List UInt8))).bind fun v16 => ((bif decide (v16 < 0) then some ((true, s11.2)) else (cut a0 s11.1 ((w64 (s11.1 + v16)))).bind fun v20 => ((bytes_HasPrefix v20 (([(46 : UInt8)] : List UInt8))).bind fun v23 => (bif v23 then (app 140737488355328 s11.2 (([(46 : UInt8)] : List UInt8))).bind fun v26 => some v26 else some s11.2) : Option (List UInt8)).bind fun (j22 : List UInt8) => (app 140737488355328 j22 v20).bind fun v28 => (app 140737488355328 v28 (([13, 10] : Str))).bind fun v30 => some ((false, v30))) : Option (Bool × (List UInt8))).bind fun (j18 : Bool × (List UInt8)) => (bif j18.1 then some (.out j18.2) else some (.cont ((w64 (s11.1 + (w64 (v16 + 2)))), j18.2)))
noncomputable def lines_Stuff (a0 : List UInt8) : Option ((List UInt8) × TFault) :=
  (bif decide (12000 < (a0.length : Int)) then (basic_Fault 1 ((-1))).bind fun v2 => some ((([] : List UInt8), v2)) else ((bif decide (0 < (a0.length : Int)) then (bytes_HasSuffix a0 (([(13 : UInt8), (10 : UInt8)] : List UInt8))).bind fun v6 => some ((!v6)) else some false) : Option Bool).bind fun (j4 : Bool) => (bif j4 then (basic_Fault 5 ((-2))).bind fun v9 => some ((([] : List UInt8), v9)) else (iter (lines_Stuff_l1 a0) ((0, ([] : List UInt8)))).bind fun b12 => (app 140737488355328 b12 (([46, 13, 10] : Str))).bind fun v33 => (basic_None).bind fun v35 => some ((v33, v35))))
end Go.Proofs.Ytfhfjckjmacekaa

/- Functions of the program as Lean functions: what they compute. Written by program. -/
namespace Go.Proofs.Ytfhfjckjmacekaa
open Go.RowKit
set_option maxRecDepth 100000
set_option maxHeartbeats 40000000
set_option linter.unusedVariables false
def lines_Unstuff_l1 (a0 : List UInt8) (s4 : Int × Int × (List UInt8)) : Option (Step (Int × Int × (List UInt8)) ((Int × (List UInt8)) ⊕ (Int × (List UInt8) × Int × Int × Bool × Int × (List UInt8)))) :=
  (cut a0 s4.1 ((a0.length : Int))).bind fun v9 => (bytes_Index v9 (([(13 : UInt8), (10 : UInt8)] : List UInt8))).bind fun v11 => (bif decide (v11 < 0) then some (.out (.inl ((s4.2.1, s4.2.2)))) else (cut a0 s4.1 ((w64 (s4.1 + v11)))).bind fun v14 => (bif (v14 == ([46] : Str)) then (bif decide (12000 < (s4.2.2.length : Int)) then (basic_Fault 1 ((-2))).bind fun v18 => some (.out (.inr (((w64 ((w64 (s4.1 + v11)) + 2)), s4.2.2, v18.Code, v18.Index, false, 0, [])))) else (basic_None).bind fun v20 => some (.out (.inr (((w64 ((w64 (s4.1 + v11)) + 2)), s4.2.2, v20.Code, v20.Index, true, (w64 ((w64 (s4.1 + v11)) + 2)), s4.2.2))))) else (bytes_TrimPrefix v14 (([(46 : UInt8)] : List UInt8))).bind fun v22 => (app 140737488355328 s4.2.2 v22).bind fun v24 => (app 140737488355328 v24 (([13, 10] : Str))).bind fun v26 => some (.cont ((w64 (s4.1 + (w64 (v11 + 2)))), (w64 ((w64 (s4.1 + v11)) + 2)), v26))))
noncomputable def lines_Unstuff (a0 : List UInt8) : Option ((List UInt8) × Int × Bool × TFault) :=
  (bif decide (40000 < (a0.length : Int)) then (basic_Fault 1 ((-1))).bind fun v2 => some (([], 0, false, v2)) else (iter (lines_Unstuff_l1 a0) ((0, 0, ([] : List UInt8)))).bind fun o => match o with | .inl b5 => ((cut a0 b5.1 ((a0.length : Int))).bind fun v29 => ((bif (v29 != ([46] : Str)) then some ((v29 != ([46, 13] : Str))) else some false) : Option Bool).bind fun (j31 : Bool) => (bif j31 then (cut a0 b5.1 ((a0.length : Int))).bind fun v34 => (bytes_TrimPrefix v34 (([(46 : UInt8)] : List UInt8))).bind fun v36 => some ((w64 ((b5.2.length : Int) + (v36.length : Int)))) else some ((b5.2.length : Int))) : Option Int).bind fun (j28 : Int) => (bif decide (12000 < j28) then (basic_Fault 1 ((-2))).bind fun v39 => some (([], 0, false, v39)) else (basic_None).bind fun v41 => some (([], 0, false, v41))) | .inr b6 => some ((b6.2.2.2.2.2.2, b6.2.2.2.2.2.1, b6.2.2.2.2.1, (TFault.mk b6.2.2.1 b6.2.2.2.1))))
end Go.Proofs.Ytfhfjckjmacekaa

/- Functions of the program as Lean functions: what they compute. Written by program. -/
namespace Go.Proofs.Ytfhfjckjmacekaa
open Go.RowKit
set_option maxRecDepth 100000
set_option maxHeartbeats 40000000
set_option linter.unusedVariables false
noncomputable def L_splits  : Option Bool :=
  (lines_Split (([(97 : UInt8), (13 : UInt8), (10 : UInt8), (98 : UInt8)] : List UInt8))).bind fun v1 => (lines_Stuff ([])).bind fun v3 => (lines_Unstuff (([(46 : UInt8), (46 : UInt8), (13 : UInt8), (10 : UInt8), (46 : UInt8), (13 : UInt8), (10 : UInt8), (120 : UInt8)] : List UInt8))).bind fun v5 => (lines_Stuff (([(97 : UInt8)] : List UInt8))).bind fun v7 => ((bif (v1.2.2.Code == 0) then (bif (v3.2.Code == 0) then (bif (v5.2.2.2.Code == 0) then (R_At 5 ((-2))).bind fun v13 => (bif (allEq [(v7.2.Code == v13.Code), (v7.2.Index == v13.Index)]) then (R_Strings v1.1 (([([97] : Str)] : List Str))).bind fun v16 => (bif v16 then (bif (v1.2.1 == ([98] : Str)) then (bif (v3.1 == ([46, 13, 10] : Str)) then (bif (v5.1 == ([46, 13, 10] : Str)) then (bif (v5.2.1 == 7) then some v5.2.2.1 else some false) else some false) else some false) else some false) else some false) else some false) else some false) else some false) else some false) : Option Bool).bind fun (j9 : Bool) => some j9
def L_LinesMatchSpec_l1 (v1 : (List Str) × (List UInt8) × TFault) (v12 : (List Str) × (List UInt8)) (s14 : Int) : Option (Step Int (Unit ⊕ Bool)) :=
  (bif decide (s14 < (v12.1.length : Int)) then (idx v12.1 s14).bind fun v20 => (bif decide (4000 < (v20.length : Int)) then ((R_At 1 s14).bind fun v24 => (bif (allEq [(v1.2.2.Code == v24.Code), (v1.2.2.Index == v24.Index)]) then (bif ((v1.1.length : Int) == 0) then some (((v1.2.1.length : Int) == 0)) else some false) else some false) : Option Bool).bind fun (j23 : Bool) => some (.out (.inr j23)) else some (.cont (w64 (s14 + 1)))) else some (.out (.inl (()))))
noncomputable def L_LinesMatchSpec (a0 : List UInt8) : Option Bool :=
  (lines_Split a0).bind fun v1 => (L_splits).bind fun v3 => (bif (!v3) then some false else (bif decide (40000 < (a0.length : Int)) then ((R_At 1 ((-1))).bind fun v8 => (bif (allEq [(v1.2.2.Code == v8.Code), (v1.2.2.Index == v8.Index)]) then (bif ((v1.1.length : Int) == 0) then some (((v1.2.1.length : Int) == 0)) else some false) else some false) : Option Bool).bind fun (j7 : Bool) => some j7 else (R_Lines a0).bind fun v12 => (iter (L_LinesMatchSpec_l1 v1 v12) 0).bind fun o => match o with | .inl b15 => ((bif (v1.2.2.Code == 0) then (R_Strings v1.1 v12.1).bind fun v30 => (bif v30 then some ((v1.2.1 == v12.2)) else some false) else some false) : Option Bool).bind fun (j28 : Bool) => some j28 | .inr b16 => some b16))
def L_LinesJoin_l1 (v1 : (List Str) × (List UInt8) × TFault) (s17 : Int × (List UInt8)) : Option (Step (Int × (List UInt8)) (List UInt8)) :=
  (bif decide (s17.1 < (v1.1.length : Int)) then (idx v1.1 s17.1).bind fun v21 => (app 140737488355328 s17.2 v21).bind fun v23 => (app 140737488355328 v23 (([(13 : UInt8), (10 : UInt8)] : List UInt8))).bind fun v25 => some (.cont ((w64 (s17.1 + 1)), v25)) else some (.out s17.2))
noncomputable def L_LinesJoin (a0 : List UInt8) (a1 : List UInt8) : Option Bool :=
  (lines_Split a0).bind fun v1 => (lines_Split a1).bind fun v3 => ((L_splits).bind fun v6 => (bif (!v6) then some true else (bif (v1.2.2.Code != 0) then some true else (bif (v3.2.2.Code != 0) then some true else some (decide (40000 < (w64 ((a0.length : Int) + (a1.length : Int)))))))) : Option Bool).bind fun (j5 : Bool) => (bif j5 then ((L_splits).bind fun v13 => (bif v13 then (bif (v1.2.2.Code == 0) then some true else some (((v1.1.length : Int) == 0))) else some false) : Option Bool).bind fun (j12 : Bool) => some j12 else (iter (L_LinesJoin_l1 v1) ((0, ([] : List UInt8)))).bind fun b18 => (cat b18 v1.2.1).bind fun v27 => (bif (v27 != a0) then some false else (bif decide (0 < (v1.2.1.length : Int)) then some true else (app 140737488355328 b18 a1).bind fun v31 => (lines_Split v31).bind fun v33 => (app 8796093022208 (([] : List Str)) v1.1).bind fun v35 => (app 8796093022208 v35 v3.1).bind fun v37 => ((bif (v33.2.2.Code == 0) then (R_Strings v33.1 v37).bind fun v41 => (bif v41 then some ((v33.2.1 == v3.2.1)) else some false) else some false) : Option Bool).bind fun (j39 : Bool) => some j39)))
def R_Sent_l1 (a0 : List UInt8) (s1 : Int × Int × (List Str)) : Option (Step (Int × Int × (List Str)) (Int × (List Str))) :=
  (bif decide (s1.2.1 < (a0.length : Int)) then (((idx a0 s1.2.1).bind fun v7 => (bif ((v7.toNat : Int) == 10) then (idx a0 ((w64 (s1.2.1 - 1)))).bind fun v10 => (bif ((v10.toNat : Int) == 13) then some (decide (s1.1 < s1.2.1)) else some false) else some false) : Option Bool).bind fun (j6 : Bool) => (bif j6 then (cut a0 s1.1 ((w64 (s1.2.1 - 1)))).bind fun v14 => (app 8796093022208 s1.2.2 (([v14] : List Str))).bind fun v16 => some (((w64 (s1.2.1 + 1)), v16)) else some ((s1.1, s1.2.2))) : Option (Int × (List Str))).bind fun (j5 : Int × (List Str)) => some (.cont (j5.1, (w64 (s1.2.1 + 1)), j5.2)) else some (.out ((s1.1, s1.2.2))))
def R_Sent_l2 (v20 : List Str) (s22 : Int × (List UInt8)) : Option (Step (Int × (List UInt8)) (List UInt8)) :=
  (bif decide (s22.1 < (v20.length : Int)) then ((((idx v20 s22.1).bind fun v29 => (bif decide (0 < (v29.length : Int)) then (idx v20 s22.1).bind fun v32 => (idx v32 0).bind fun v34 => some (((v34.toNat : Int) == 46)) else some false) : Option Bool).bind fun (j28 : Bool) => (bif j28 then (app 140737488355328 s22.2 (([(46 : UInt8)] : List UInt8))).bind fun v37 => some v37 else some s22.2) : Option (List UInt8)).bind fun (j27 : List UInt8) => (idx v20 s22.1).bind fun v39 => (app 140737488355328 j27 v39).bind fun v41 => (bif decide ((w64 (s22.1 + 1)) < (v20.length : Int)) then (app 140737488355328 v41 (([(13 : UInt8), (10 : UInt8)] : List UInt8))).bind fun v44 => some v44 else some v41) : Option (List UInt8)).bind fun (j26 : List UInt8) => some (.cont ((w64 (s22.1 + 1)), j26)) else some (.out s22.2))
noncomputable def R_Sent (a0 : List UInt8) : Option (List UInt8) :=
  (iter (R_Sent_l1 a0) ((0, 1, ([] : List Str)))).bind fun b2 => (cut a0 b2.1 ((a0.length : Int))).bind fun v18 => (app 8796093022208 b2.2 (([v18] : List Str))).bind fun v20 => (iter (R_Sent_l2 v20) ((0, ([] : List UInt8)))).bind fun b23 => (app 140737488355328 b23 (([(46 : UInt8), (13 : UInt8), (10 : UInt8)] : List UInt8))).bind fun v46 => some v46
noncomputable def L_LinesDataMatchSpec (a0 : List UInt8) : Option Bool :=
  (lines_Stuff a0).bind fun v1 => (lines_Unstuff a0).bind fun v3 => (L_splits).bind fun v5 => (bif (!v5) then some false else (R_Lines a0).bind fun v8 => ((bif decide (12000 < (a0.length : Int)) then (R_At 1 ((-1))).bind fun v12 => some ((v12.Code, v12.Index)) else (bif decide (0 < (v8.2.length : Int)) then (R_At 5 ((-2))).bind fun v15 => some ((v15.Code, v15.Index)) else some ((0, 0)))) : Option (Int × Int)).bind fun (j10 : Int × Int) => ((bif (!(allEq [(v1.2.Code == j10.1), (v1.2.Index == j10.2)])) then some true else (bif (j10.1 != 0) then (bif decide (0 < (v1.1.length : Int)) then some true else (bif (j10.1 == 0) then (R_Sent a0).bind fun v22 => some ((v1.1 != v22)) else some false)) else (bif (j10.1 == 0) then (R_Sent a0).bind fun v25 => some ((v1.1 != v25)) else some false))) : Option Bool).bind fun (j17 : Bool) => (bif j17 then some false else (bif decide (40000 < (a0.length : Int)) then ((R_At 1 ((-1))).bind fun v30 => (bif (allEq [(v3.2.2.2.Code == v30.Code), (v3.2.2.2.Index == v30.Index)]) then (bif ((v3.1.length : Int) == 0) then (bif (v3.2.1 == 0) then some ((!v3.2.2.1)) else some false) else some false) else some false) : Option Bool).bind fun (j29 : Bool) => some j29 else (R_Received a0).bind fun v35 => (bif v35.2.2 then ((R_At 1 ((-2))).bind fun v39 => (bif (allEq [(v3.2.2.2.Code == v39.Code), (v3.2.2.2.Index == v39.Index)]) then (bif ((v3.1.length : Int) == 0) then (bif (v3.2.1 == 0) then some ((!v3.2.2.1)) else some false) else some false) else some false) : Option Bool).bind fun (j38 : Bool) => some j38 else ((bif (v3.2.2.2.Code == 0) then (bif (v3.2.2.1 == decide (0 < v35.2.1)) then (bif (v3.2.1 == v35.2.1) then some ((v3.1 == v35.1)) else some false) else some false) else some false) : Option Bool).bind fun (j44 : Bool) => some j44))))
noncomputable def L_LinesArriveAsSent (a0 : List UInt8) (a1 : List UInt8) (a2 : Int) : Option Bool :=
  (lines_Stuff a0).bind fun v1 => ((L_splits).bind fun v4 => (bif (!v4) then some true else (bif (v1.2.Code != 0) then some true else some (decide (10000 < (a1.length : Int))))) : Option Bool).bind fun (j3 : Bool) => (bif j3 then ((L_splits).bind fun v10 => (bif v10 then (bif (v1.2.Code == 0) then some true else some (((v1.1.length : Int) == 0))) else some false) : Option Bool).bind fun (j9 : Bool) => some j9 else (app 140737488355328 (([] : List UInt8)) v1.1).bind fun v14 => (app 140737488355328 v14 a1).bind fun v16 => (lines_Unstuff v16).bind fun v18 => ((bif (v18.2.2.2.Code != 0) then some true else (bif (!v18.2.2.1) then some true else (bif (v18.2.1 != (v1.1.length : Int)) then some true else some ((v18.1 != a0))))) : Option Bool).bind fun (j20 : Bool) => (bif j20 then some false else (R_In a2 0 ((w64 ((v1.1.length : Int) - 1)))).bind fun v25 => (bif (!v25) then some true else (cut v1.1 0 a2).bind fun v28 => (lines_Unstuff v28).bind fun v30 => ((bif (v30.2.2.2.Code == 0) then some ((!v30.2.2.1)) else some false) : Option Bool).bind fun (j32 : Bool) => some j32)))
end Go.Proofs.Ytfhfjckjmacekaa

/- Functions of the program as Lean functions: what they compute. Written by program. -/
namespace Go.Proofs.Ytfhfjckjmacekaa
open Go.RowKit
set_option maxRecDepth 100000
set_option maxHeartbeats 40000000
set_option linter.unusedVariables false
def internal_stringslite_HasPrefix (a0 : Str) (a1 : Str) : Option Bool :=
  ((bif decide ((a1.length : Int) ≤ (a0.length : Int)) then (cut a0 0 ((a1.length : Int))).bind fun v3 => some ((v3 == a1)) else some false) : Option Bool).bind fun (j1 : Bool) => some j1
def strings_HasPrefix (a0 : Str) (a1 : Str) : Option Bool :=
  (internal_stringslite_HasPrefix a0 a1).bind fun v1 => some v1
def internal_stringslite_HasSuffix (a0 : Str) (a1 : Str) : Option Bool :=
  ((bif decide ((a1.length : Int) ≤ (a0.length : Int)) then (cut a0 ((w64 ((a0.length : Int) - (a1.length : Int)))) ((a0.length : Int))).bind fun v3 => some ((v3 == a1)) else some false) : Option Bool).bind fun (j1 : Bool) => some j1
def strings_HasSuffix (a0 : Str) (a1 : Str) : Option Bool :=
  (internal_stringslite_HasSuffix a0 a1).bind fun v1 => some v1
def envelope_Domain_l1 (a0 : Str) (s5 : Int) : Option (Step Int (Unit ⊕ Unit)) :=
  (bif decide (s5 < (a0.length : Int)) then (idx a0 s5).bind fun v11 => ((bif decide (97 ≤ (v11.toNat : Int)) then (bif decide ((v11.toNat : Int) ≤ 122) then some true else (bif decide (48 ≤ (v11.toNat : Int)) then (bif decide ((v11.toNat : Int) ≤ 57) then some true else (bif ((v11.toNat : Int) == 45) then some true else some (((v11.toNat : Int) == 46)))) else (bif ((v11.toNat : Int) == 45) then some true else some (((v11.toNat : Int) == 46))))) else (bif decide (48 ≤ (v11.toNat : Int)) then (bif decide ((v11.toNat : Int) ≤ 57) then some true else (bif ((v11.toNat : Int) == 45) then some true else some (((v11.toNat : Int) == 46)))) else (bif ((v11.toNat : Int) == 45) then some true else some (((v11.toNat : Int) == 46))))) : Option Bool).bind fun (j13 : Bool) => (bif (!j13) then some (.out (.inr (()))) else some (.cont (w64 (s5 + 1)))) else some (.out (.inl (()))))
noncomputable def envelope_Domain (a0 : Str) : Option Bool :=
  ((bif (a0 != ([] : Str)) then (bif decide ((a0.length : Int) ≤ 60) then ((iter (envelope_Domain_l1 a0) 0).bind (Sum.elim (fun b6 => some true) (fun b7 => some false)) : Option Bool).bind fun (j4 : Bool) => (bif j4 then (strings_HasPrefix a0 (([46] : Str))).bind fun v26 => (bif (!v26) then (strings_HasSuffix a0 (([46] : Str))).bind fun v29 => (bif (!v29) then (strings_Contains a0 (([46, 46] : Str))).bind fun v32 => some ((!v32)) else some false) else some false) else some false) else some false) else some false) : Option Bool).bind fun (j1 : Bool) => some j1
def envelope_Split_l1 (v1 : Str × Str × Bool) (s8 : Int) : Option (Step Int (Unit ⊕ Unit)) :=
  (bif decide (s8 < (v1.1.length : Int)) then (idx v1.1 s8).bind fun v14 => ((basic_Letter v14).bind fun v17 => (bif v17 then some true else (strings_IndexByte (([45, 95, 46, 43, 61] : Str)) v14).bind fun v20 => some (decide (0 ≤ v20))) : Option Bool).bind fun (j16 : Bool) => (bif (!j16) then some (.out (.inr (()))) else some (.cont (w64 (s8 + 1)))) else some (.out (.inl (()))))
noncomputable def envelope_Split (a0 : Str) : Option (Str × Str × Bool) :=
  (strings_Cut a0 (([64] : Str))).bind fun v1 => ((bif v1.2.2 then (bif (v1.1 != ([] : Str)) then (bif decide ((v1.1.length : Int) ≤ 60) then ((iter (envelope_Split_l1 v1) 0).bind (Sum.elim (fun b9 => some true) (fun b10 => some false)) : Option Bool).bind fun (j7 : Bool) => (bif j7 then (envelope_Domain v1.2.1).bind fun v24 => some v24 else some false) else some false) else some false) else some false) : Option Bool).bind fun (j3 : Bool) => some ((v1.1, v1.2.1, j3))
noncomputable def envelope_Address (a0 : Str) : Option Bool :=
  (envelope_Split a0).bind fun v1 => some v1.2.2
noncomputable def alias_Validate_l2 (v10 : TAlias) (s23 : Int) : Option (Step Int (Unit ⊕ Int)) :=
  (bif decide (s23 < (v10.To.length : Int)) then (idx v10.To s23).bind fun v29 => (envelope_Address v29).bind fun v31 => (bif (!v31) then some (.out (.inr s23)) else some (.cont (w64 (s23 + 1)))) else some (.out (.inl (()))))
def alias_Validate_l3 (v10 : TAlias) (v37 : List TAlias) (s40 : Int) : Option (Step Int (Unit ⊕ Int)) :=
  (bif decide (s40 < (v37.length : Int)) then (idx v37 s40).bind fun v46 => (bif (v46.Address == v10.Address) then some (.out (.inr s40)) else some (.cont (w64 (s40 + 1)))) else some (.out (.inl (()))))
noncomputable def alias_Validate_l1 (a0 : List TAlias) (s4 : Int) : Option (Step Int (Unit ⊕ TFault)) :=
  (bif decide (s4 < (a0.length : Int)) then (idx a0 s4).bind fun v10 => (envelope_Address v10.Address).bind fun v12 => (bif (!v12) then (basic_Fault 10 s4).bind fun v15 => some (.out (.inr v15)) else ((bif decide ((v10.To.length : Int) < 1) then some true else some (decide (60 < (v10.To.length : Int)))) : Option Bool).bind fun (j17 : Bool) => (bif j17 then (basic_Fault 2 s4).bind fun v20 => some (.out (.inr v20)) else ((iter (alias_Validate_l2 v10) 0).bind (Sum.elim (fun b24 => some ((-1))) (fun b25 => some b25)) : Option Int).bind fun (j22 : Int) => (bif decide (0 ≤ j22) then (basic_Fault 10 s4).bind fun v35 => some (.out (.inr v35)) else (cut a0 0 s4).bind fun v37 => ((iter (alias_Validate_l3 v10 v37) 0).bind (Sum.elim (fun b41 => some ((-1))) (fun b42 => some b42)) : Option Int).bind fun (j39 : Int) => (bif decide (0 ≤ j39) then (basic_Fault 7 s4).bind fun v50 => some (.out (.inr v50)) else some (.cont (w64 (s4 + 1))))))) else some (.out (.inl (()))))
noncomputable def alias_Validate (a0 : List TAlias) : Option TFault :=
  (bif decide (40 < (a0.length : Int)) then (basic_Fault 2 ((-1))).bind fun v2 => some v2 else (iter (alias_Validate_l1 a0) 0).bind (Sum.elim (fun b5 => (basic_None).bind fun v52 => some v52) (fun b6 => some b6)))
end Go.Proofs.Ytfhfjckjmacekaa

/- Functions of the program as Lean functions: what they compute. Written by program. -/
namespace Go.Proofs.Ytfhfjckjmacekaa
open Go.RowKit
set_option maxRecDepth 100000
set_option maxHeartbeats 40000000
set_option linter.unusedVariables false
def alias_Expand_l1 (a0 : List TAlias) (s11 : Int × (List (Str × (List Str)))) : Option (Step (Int × (List (Str × (List Str)))) (List (Str × (List Str)))) :=
  (bif decide (s11.1 < (a0.length : Int)) then (idx a0 s11.1).bind fun v15 => some (.cont ((w64 (s11.1 + 1)), (mput s11.2 v15.Address v15.To))) else some (.out s11.2))
def alias_Expand_l2 (a0 : List TAlias) (s17 : Int × (List (Str × (List Str)))) : Option (Step (Int × (List (Str × (List Str)))) (List (Str × (List Str)))) :=
  (bif decide (s17.1 < (a0.length : Int)) then (idx a0 s17.1).bind fun v21 => some (.cont ((w64 (s17.1 + 1)), (mput s17.2 v21.Address v21.To))) else some (.out s17.2))
def alias_Expand_l3 (a1 : Str) (s23 : Int × (List Str) × (List (Str × Bool))) : Option (Step (Int × (List Str) × (List (Str × Bool))) ((List Str) × (List (Str × Bool)))) :=
  (bif decide (s23.1 < ((([a1] : List Str)).length : Int)) then ((idx (([a1] : List Str)) s23.1).bind fun v28 => (bif (!(((mget s23.2.2 v28).getD false))) then (app 8796093022208 s23.2.1 (([v28] : List Str))).bind fun v31 => some ((v31, (mput s23.2.2 v28 true))) else some ((s23.2.1, s23.2.2))) : Option ((List Str) × (List (Str × Bool)))).bind fun (j27 : (List Str) × (List (Str × Bool))) => some (.cont ((w64 (s23.1 + 1)), j27.1, j27.2)) else some (.out ((s23.2.1, s23.2.2))))
def alias_Expand_l5 (b18 : List (Str × (List Str))) (v37 : Str) (s45 : Int × (List Str) × (List (Str × Bool))) : Option (Step (Int × (List Str) × (List (Str × Bool))) ((List Str) × (List (Str × Bool)))) :=
  (bif decide (s45.1 < ((((mget b18 v37).getD (([] : List Str)))).length : Int)) then ((idx (((mget b18 v37).getD (([] : List Str)))) s45.1).bind fun v50 => (bif (!(((mget s45.2.2 v50).getD false))) then (app 8796093022208 s45.2.1 (([v50] : List Str))).bind fun v53 => some ((v53, (mput s45.2.2 v50 true))) else some ((s45.2.1, s45.2.2))) : Option ((List Str) × (List (Str × Bool)))).bind fun (j49 : (List Str) × (List (Str × Bool))) => some (.cont ((w64 (s45.1 + 1)), j49.1, j49.2)) else some (.out ((s45.2.1, s45.2.2))))
def alias_Expand_l6 (b18 : List (Str × (List Str))) (v37 : Str) (s57 : Int × (List Str) × (List (Str × Bool))) : Option (Step (Int × (List Str) × (List (Str × Bool))) ((List Str) × (List (Str × Bool)))) :=
  (bif decide (s57.1 < ((((mget b18 v37).getD (([] : List Str)))).length : Int)) then ((idx (((mget b18 v37).getD (([] : List Str)))) s57.1).bind fun v62 => (bif (!(((mget s57.2.2 v62).getD false))) then (app 8796093022208 s57.2.1 (([v62] : List Str))).bind fun v65 => some ((v65, (mput s57.2.2 v62 true))) else some ((s57.2.1, s57.2.2))) : Option ((List Str) × (List (Str × Bool)))).bind fun (j61 : (List Str) × (List (Str × Bool))) => some (.cont ((w64 (s57.1 + 1)), j61.1, j61.2)) else some (.out ((s57.2.1, s57.2.2))))
noncomputable def alias_Expand_l4 (b12 : List (Str × (List Str))) (b18 : List (Str × (List Str))) (s33 : (List Str) × (List (Str × Bool)) × (List Str)) : Option (Step ((List Str) × (List (Str × Bool)) × (List Str)) (List Str)) :=
  (bif decide (0 < (s33.1.length : Int)) then (idx s33.1 0).bind fun v37 => (cut s33.1 1 ((s33.1.length : Int))).bind fun v39 => (optElim (mget b12 v37) (fun v41 => (notNil v41).bind fun v43 => (iter (alias_Expand_l5 b18 v37) ((0, v39, s33.2.1))).bind fun b46 => some (.cont (b46.1, b46.2, s33.2.2))) ((app 8796093022208 s33.2.2 (([v37] : List Str))).bind fun v55 => (iter (alias_Expand_l6 b18 v37) ((0, v39, s33.2.1))).bind fun b58 => some (.cont (b58.1, b58.2, v55)))) else some (.out s33.2.2))
noncomputable def alias_Expand (a0 : List TAlias) (a1 : Str) : Option ((List Str) × TFault) :=
  (alias_Validate a0).bind fun v1 => (basic_Failed v1).bind fun v3 => (bif v3 then some (([], v1)) else (envelope_Address a1).bind fun v6 => (bif (!v6) then (basic_Fault 10 ((-2))).bind fun v9 => some (([], v9)) else (iter (alias_Expand_l1 a0) ((0, ([] : List (Str × (List Str)))))).bind fun b12 => (iter (alias_Expand_l2 a0) ((0, ([] : List (Str × (List Str)))))).bind fun b18 => (iter (alias_Expand_l3 a1) ((0, ([] : List Str), ([] : List (Str × Bool))))).bind fun b24 => (iter (alias_Expand_l4 b12 b18) ((b24.1, b24.2, ([] : List Str)))).bind fun b34 => (basic_None).bind fun v67 => some ((b34, v67))))
def alias_Loops_l2 (a0 : List TAlias) (s13 : Int × (List (Str × (List Str)))) : Option (Step (Int × (List (Str × (List Str)))) (List (Str × (List Str)))) :=
  (bif decide (s13.1 < (a0.length : Int)) then (idx a0 s13.1).bind fun v17 => some (.cont ((w64 (s13.1 + 1)), (mput s13.2 v17.Address v17.To))) else some (.out s13.2))
def alias_Loops_l3 (v11 : TAlias) (s19 : Int × (List Str) × (List (Str × Bool))) : Option (Step (Int × (List Str) × (List (Str × Bool))) ((List Str) × (List (Str × Bool)))) :=
  (bif decide (s19.1 < (v11.To.length : Int)) then ((idx v11.To s19.1).bind fun v24 => (bif (!(((mget s19.2.2 v24).getD false))) then (app 8796093022208 s19.2.1 (([v24] : List Str))).bind fun v27 => some ((v27, (mput s19.2.2 v24 true))) else some ((s19.2.1, s19.2.2))) : Option ((List Str) × (List (Str × Bool)))).bind fun (j23 : (List Str) × (List (Str × Bool))) => some (.cont ((w64 (s19.1 + 1)), j23.1, j23.2)) else some (.out ((s19.2.1, s19.2.2))))
def alias_Loops_l5 (b14 : List (Str × (List Str))) (v35 : Str) (s42 : Int × (List Str) × (List (Str × Bool))) : Option (Step (Int × (List Str) × (List (Str × Bool))) ((List Str) × (List (Str × Bool)))) :=
  (bif decide (s42.1 < ((((mget b14 v35).getD (([] : List Str)))).length : Int)) then ((idx (((mget b14 v35).getD (([] : List Str)))) s42.1).bind fun v47 => (bif (!(((mget s42.2.2 v47).getD false))) then (app 8796093022208 s42.2.1 (([v47] : List Str))).bind fun v50 => some ((v50, (mput s42.2.2 v47 true))) else some ((s42.2.1, s42.2.2))) : Option ((List Str) × (List (Str × Bool)))).bind fun (j46 : (List Str) × (List (Str × Bool))) => some (.cont ((w64 (s42.1 + 1)), j46.1, j46.2)) else some (.out ((s42.2.1, s42.2.2))))
noncomputable def alias_Loops_l4 (s6 : Int × (List Str)) (v11 : TAlias) (b14 : List (Str × (List Str))) (s29 : (List Str) × (List (Str × Bool))) : Option (Step ((List Str) × (List (Str × Bool))) (Unit ⊕ (List Str))) :=
  (bif decide (0 < (s29.1.length : Int)) then (idx s29.1 0).bind fun v35 => (cut s29.1 1 ((s29.1.length : Int))).bind fun v37 => (bif (v35 == v11.Address) then (app 8796093022208 s6.2 (([v35] : List Str))).bind fun v40 => some (.out (.inr v40)) else (iter (alias_Loops_l5 b14 v35) ((0, v37, s29.2))).bind fun b43 => some (.cont (b43.1, b43.2))) else some (.out (.inl (()))))
noncomputable def alias_Loops_l1 (a0 : List TAlias) (s6 : Int × (List Str)) : Option (Step (Int × (List Str)) (List Str)) :=
  (bif decide (s6.1 < (a0.length : Int)) then ((idx a0 s6.1).bind fun v11 => (iter (alias_Loops_l2 a0) ((0, ([] : List (Str × (List Str)))))).bind fun b14 => (iter (alias_Loops_l3 v11) ((0, ([] : List Str), ([] : List (Str × Bool))))).bind fun b20 => (iter (alias_Loops_l4 s6 v11 b14) ((b20.1, b20.2))).bind (Sum.elim (fun b30 => some s6.2) (fun b31 => some b31)) : Option (List Str)).bind fun (j10 : List Str) => some (.cont ((w64 (s6.1 + 1)), j10)) else some (.out s6.2))
noncomputable def alias_Loops (a0 : List TAlias) : Option ((List Str) × TFault) :=
  (alias_Validate a0).bind fun v1 => (basic_Failed v1).bind fun v3 => (bif v3 then some (([], v1)) else (iter (alias_Loops_l1 a0) ((0, ([] : List Str)))).bind fun b7 => (basic_None).bind fun v52 => some ((b7, v52)))
noncomputable def L_expands  : Option Bool :=
  (alias_Expand (([(TAlias.mk (([97, 64, 120] : Str)) (([([98, 64, 120] : Str), ([99, 64, 120] : Str)] : List Str))), (TAlias.mk (([98, 64, 120] : Str)) (([([97, 64, 120] : Str), ([100, 64, 120] : Str)] : List Str)))] : List TAlias)) (([97, 64, 120] : Str))).bind fun v1 => (alias_Loops (([(TAlias.mk (([97, 64, 120] : Str)) (([([98, 64, 120] : Str), ([99, 64, 120] : Str)] : List Str))), (TAlias.mk (([98, 64, 120] : Str)) (([([97, 64, 120] : Str), ([100, 64, 120] : Str)] : List Str)))] : List TAlias))).bind fun v3 => (alias_Expand (([(TAlias.mk (([97, 64, 120] : Str)) (([([98, 64, 120] : Str), ([99, 64, 120] : Str)] : List Str))), (TAlias.mk (([98, 64, 120] : Str)) (([([97, 64, 120] : Str), ([100, 64, 120] : Str)] : List Str)))] : List TAlias)) (([97] : Str))).bind fun v5 => ((bif (v1.2.Code == 0) then (bif (v3.2.Code == 0) then (R_At 10 ((-2))).bind fun v10 => (bif (allEq [(v5.2.Code == v10.Code), (v5.2.Index == v10.Index)]) then (R_Strings v1.1 (([([99, 64, 120] : Str), ([100, 64, 120] : Str)] : List Str))).bind fun v13 => (bif v13 then (R_Strings v3.1 (([([97, 64, 120] : Str), ([98, 64, 120] : Str)] : List Str))).bind fun v16 => some v16 else some false) else some false) else some false) else some false) : Option Bool).bind fun (j7 : Bool) => some j7
noncomputable def L_AliasMatchesSpec (a0 : List TAlias) (a1 : Str) : Option Bool :=
  (alias_Expand a0 a1).bind fun v1 => (R_Expanded a0 a1).bind fun v3 => ((L_expands).bind fun v6 => (bif v6 then (alias_Validate a0).bind fun v9 => (R_AliasesFault a0).bind fun v11 => (bif (allEq [(v9.Code == v11.Code), (v9.Index == v11.Index)]) then (bif (allEq [(v1.2.Code == v3.2.Code), (v1.2.Index == v3.2.Index)]) then (R_Strings v1.1 v3.1).bind fun v15 => some v15 else some false) else some false) else some false) : Option Bool).bind fun (j5 : Bool) => some j5
noncomputable def L_AliasLoopsMatchSpec_l1 (a0 : List TAlias) (v1 : TFault) (s5 : Int × (List Str)) : Option (Step (Int × (List Str)) (List Str)) :=
  ((bif decide (s5.1 < (a0.length : Int)) then some ((v1.Code == 0)) else some false) : Option Bool).bind fun (j8 : Bool) => (bif j8 then ((idx a0 s5.1).bind fun v12 => (R_Reached a0 v12.To).bind fun v14 => (idx a0 s5.1).bind fun v16 => (R_Has v14 v16.Address).bind fun v18 => (bif v18 then (idx a0 s5.1).bind fun v21 => (app 8796093022208 s5.2 (([v21.Address] : List Str))).bind fun v23 => some v23 else some s5.2) : Option (List Str)).bind fun (j11 : List Str) => some (.cont ((w64 (s5.1 + 1)), j11)) else some (.out s5.2))
noncomputable def L_AliasLoopsMatchSpec (a0 : List TAlias) : Option Bool :=
  (R_AliasesFault a0).bind fun v1 => (alias_Loops a0).bind fun v3 => (iter (L_AliasLoopsMatchSpec_l1 a0 v1) ((0, ([] : List Str)))).bind fun b6 => ((L_expands).bind fun v26 => (bif v26 then (bif (allEq [(v3.2.Code == v1.Code), (v3.2.Index == v1.Index)]) then (R_Strings v3.1 b6).bind fun v30 => some v30 else some false) else some false) : Option Bool).bind fun (j25 : Bool) => some j25
noncomputable def L_AliasIsAFixedPoint_l1 (a0 : List TAlias) (v1 : (List Str) × TFault) (s12 : Int) : Option (Step Int (Unit ⊕ Bool)) :=
  (bif decide (s12 < (v1.1.length : Int)) then (idx v1.1 s12).bind fun v18 => (alias_Expand a0 v18).bind fun v20 => ((bif (v20.2.Code != 0) then some true else (idx v1.1 s12).bind fun v24 => (R_Strings v20.1 (([v24] : List Str))).bind fun v26 => (bif (!v26) then some true else (cut v1.1 0 s12).bind fun v29 => (idx v1.1 s12).bind fun v31 => (R_Has v29 v31).bind fun v33 => some v33)) : Option Bool).bind fun (j22 : Bool) => (bif j22 then some (.out (.inr false)) else some (.cont (w64 (s12 + 1)))) else some (.out (.inl (()))))
noncomputable def L_AliasIsAFixedPoint_l5 (v1 : (List Str) × TFault) (v58 : (List Str) × TFault) (s61 : Int) : Option (Step Int (Unit ⊕ Bool)) :=
  (bif decide (s61 < (v58.1.length : Int)) then (idx v58.1 s61).bind fun v67 => (R_Has v1.1 v67).bind fun v69 => (bif (!v69) then some (.out (.inr false)) else some (.cont (w64 (s61 + 1)))) else some (.out (.inl (()))))
noncomputable def L_AliasIsAFixedPoint_l4 (a0 : List TAlias) (v1 : (List Str) × TFault) (s36 : Int) (s46 : Int) : Option (Step Int (Unit ⊕ Bool)) :=
  (idx a0 s36).bind fun v51 => (bif decide (s46 < (v51.To.length : Int)) then (idx a0 s36).bind fun v54 => (idx v54.To s46).bind fun v56 => (alias_Expand a0 v56).bind fun v58 => (bif (v58.2.Code != 0) then some (.out (.inr false)) else (iter (L_AliasIsAFixedPoint_l5 v1 v58) 0).bind (Sum.elim (fun b62 => some (.cont (w64 (s46 + 1)))) (fun b63 => some (.out (.inr b63))))) else some (.out (.inl (()))))
def L_AliasIsAFixedPoint_k3 (s36 : Int) (j42 : Unit) : Option (Step Int (Unit ⊕ Bool)) :=
  some (.cont (w64 (s36 + 1)))
noncomputable def L_AliasIsAFixedPoint_l2 (a0 : List TAlias) (a1 : Str) (v1 : (List Str) × TFault) (s36 : Int) : Option (Step Int (Unit ⊕ Bool)) :=
  (bif decide (s36 < (a0.length : Int)) then (idx a0 s36).bind fun v43 => (bif (v43.Address != a1) then (L_AliasIsAFixedPoint_k3 s36 ()) else (iter (L_AliasIsAFixedPoint_l4 a0 v1 s36) 0).bind (Sum.elim (fun b47 => (L_AliasIsAFixedPoint_k3 s36 ())) (fun b48 => some (.out (.inr b48))))) else some (.out (.inl (()))))
noncomputable def L_AliasIsAFixedPoint (a0 : List TAlias) (a1 : Str) : Option Bool :=
  (alias_Expand a0 a1).bind fun v1 => ((L_expands).bind fun v4 => (bif (!v4) then some true else some ((v1.2.Code != 0))) : Option Bool).bind fun (j3 : Bool) => (bif j3 then ((L_expands).bind fun v9 => (bif v9 then some (((v1.1.length : Int) == 0)) else some false) : Option Bool).bind fun (j8 : Bool) => some j8 else (iter (L_AliasIsAFixedPoint_l1 a0 v1) 0).bind (Sum.elim (fun b13 => (iter (L_AliasIsAFixedPoint_l2 a0 a1 v1) 0).bind (Sum.elim (fun b37 => some true) (fun b38 => some b38))) (fun b14 => some b14)))
noncomputable def L_AliasMoreIsMore_l1 (a0 : List TAlias) (a2 : TAlias) (s12 : Int) : Option (Step Int (Unit ⊕ Bool)) :=
  (bif decide (s12 < (a0.length : Int)) then (idx a0 s12).bind fun v18 => (R_Has v18.To a2.Address).bind fun v20 => (bif v20 then some (.out (.inr true)) else some (.cont (w64 (s12 + 1)))) else some (.out (.inl (()))))
noncomputable def L_AliasMoreIsMore (a0 : List TAlias) (a1 : Str) (a2 : TAlias) : Option Bool :=
  (alias_Expand a0 a1).bind fun v1 => ((L_expands).bind fun v4 => (bif (!v4) then some true else some ((v1.2.Code != 0))) : Option Bool).bind fun (j3 : Bool) => (bif j3 then ((L_expands).bind fun v9 => (bif v9 then some (((v1.1.length : Int) == 0)) else some false) : Option Bool).bind fun (j8 : Bool) => some j8 else (iter (L_AliasMoreIsMore_l1 a0 a2) 0).bind (Sum.elim (fun b13 => (app 3518437208883 (([] : List TAlias)) a0).bind fun v23 => (app 3518437208883 v23 (([a2] : List TAlias))).bind fun v25 => (alias_Expand v25 a1).bind fun v27 => ((bif (v27.2.Code != 0) then some true else (bif (a2.Address == a1) then some true else (R_Strings v1.1 v27.1).bind fun v32 => some v32)) : Option Bool).bind fun (j29 : Bool) => some j29) (fun b14 => some b14)))
end Go.Proofs.Ytfhfjckjmacekaa

/- Functions of the program as Lean functions: what they compute. Written by program. -/
namespace Go.Proofs.Ytfhfjckjmacekaa
open Go.RowKit
set_option maxRecDepth 100000
set_option maxHeartbeats 40000000
set_option linter.unusedVariables false
def R_NameOk_l1 (a0 : Str) (s1 : Int) : Option (Step Int (Unit ⊕ Bool)) :=
  (bif decide (s1 < (a0.length : Int)) then ((idx a0 s1).bind fun v8 => (R_letterOrDigit v8).bind fun v10 => (bif (!v10) then (idx a0 s1).bind fun v13 => (bif ((v13.toNat : Int) != 45) then (idx a0 s1).bind fun v16 => (bif ((v16.toNat : Int) != 95) then (idx a0 s1).bind fun v19 => some (((v19.toNat : Int) != 46)) else some false) else some false) else some false) : Option Bool).bind fun (j7 : Bool) => (bif j7 then some (.out (.inr false)) else some (.cont (w64 (s1 + 1)))) else some (.out (.inl (()))))
noncomputable def R_NameOk (a0 : Str) : Option Bool :=
  (iter (R_NameOk_l1 a0) 0).bind (Sum.elim (fun b2 => (R_In ((a0.length : Int)) 1 60).bind fun v22 => some v22) (fun b3 => some b3))
def R_Known_l1 (a0 : List TRecipient) (a1 : Str) (s1 : Int) : Option (Step Int (Unit ⊕ Int)) :=
  (bif decide (s1 < (a0.length : Int)) then (idx a0 s1).bind fun v7 => (bif (v7.Address == a1) then some (.out (.inr s1)) else some (.cont (w64 (s1 + 1)))) else some (.out (.inl (()))))
noncomputable def R_Known (a0 : List TRecipient) (a1 : Str) : Option Int :=
  (iter (R_Known_l1 a0 a1) 0).bind (Sum.elim (fun b2 => some ((-1))) (fun b3 => some b3))
noncomputable def R_EnvelopeFault_l1 (a0 : TEnvelope) (s20 : Int) : Option (Step Int (Unit ⊕ TFault)) :=
  (bif decide (s20 < (a0.To.length : Int)) then (idx a0.To s20).bind fun v26 => (R_AddressOk v26.Address).bind fun v28 => (bif (!v28) then (R_At 10 s20).bind fun v31 => some (.out (.inr v31)) else (idx a0.To s20).bind fun v33 => (R_In v33.Notify 0 7).bind fun v35 => (bif (!v35) then (R_At 3 s20).bind fun v38 => some (.out (.inr v38)) else (cut a0.To 0 s20).bind fun v40 => (idx a0.To s20).bind fun v42 => (R_Known v40 v42.Address).bind fun v44 => (bif decide (0 ≤ v44) then (R_At 7 s20).bind fun v47 => some (.out (.inr v47)) else some (.cont (w64 (s20 + 1)))))) else some (.out (.inl (()))))
noncomputable def R_EnvelopeFault (a0 : TEnvelope) : Option TFault :=
  ((bif (a0.From != ([] : Str)) then (R_AddressOk a0.From).bind fun v3 => some ((!v3)) else some false) : Option Bool).bind fun (j1 : Bool) => (bif j1 then (R_At 10 ((-10))).bind fun v6 => some v6 else (R_In ((a0.To.length : Int)) 1 60).bind fun v8 => (bif (!v8) then (R_At 2 ((-11))).bind fun v11 => some v11 else ((bif (a0.Id != ([] : Str)) then (R_NameOk a0.Id).bind fun v15 => some ((!v15)) else some false) : Option Bool).bind fun (j13 : Bool) => (bif j13 then (R_At 10 ((-12))).bind fun v18 => some v18 else (iter (R_EnvelopeFault_l1 a0) 0).bind (Sum.elim (fun b21 => some ((TFault.mk 0 0))) (fun b22 => some b22)))))
def basic_Name_l1 (a0 : Str) (s5 : Int) : Option (Step Int (Unit ⊕ Unit)) :=
  (bif decide (s5 < (a0.length : Int)) then (idx a0 s5).bind fun v11 => ((basic_Letter v11).bind fun v14 => (bif v14 then some true else (bif ((v11.toNat : Int) == 45) then some true else (bif ((v11.toNat : Int) == 95) then some true else some (((v11.toNat : Int) == 46))))) : Option Bool).bind fun (j13 : Bool) => (bif (!j13) then some (.out (.inr (()))) else some (.cont (w64 (s5 + 1)))) else some (.out (.inl (()))))
noncomputable def basic_Name (a0 : Str) : Option Bool :=
  ((bif (a0 != ([] : Str)) then (bif decide ((a0.length : Int) ≤ 60) then ((iter (basic_Name_l1 a0) 0).bind (Sum.elim (fun b6 => some true) (fun b7 => some false)) : Option Bool).bind fun (j4 : Bool) => some j4 else some false) else some false) : Option Bool).bind fun (j1 : Bool) => some j1
def envelope_Notify (a0 : Int) : Option Bool :=
  ((bif decide (0 ≤ a0) then some (decide (a0 ≤ 7)) else some false) : Option Bool).bind fun (j1 : Bool) => some j1
def envelope_Recipients_l2 (v7 : TRecipient) (v19 : List TRecipient) (s22 : Int) : Option (Step Int (Unit ⊕ Int)) :=
  (bif decide (s22 < (v19.length : Int)) then (idx v19 s22).bind fun v28 => (bif (v28.Address == v7.Address) then some (.out (.inr s22)) else some (.cont (w64 (s22 + 1)))) else some (.out (.inl (()))))
noncomputable def envelope_Recipients_l1 (a0 : List TRecipient) (s1 : Int) : Option (Step Int (Unit ⊕ TFault)) :=
  (bif decide (s1 < (a0.length : Int)) then (idx a0 s1).bind fun v7 => (envelope_Address v7.Address).bind fun v9 => (bif (!v9) then (basic_Fault 10 s1).bind fun v12 => some (.out (.inr v12)) else (envelope_Notify v7.Notify).bind fun v14 => (bif (!v14) then (basic_Fault 3 s1).bind fun v17 => some (.out (.inr v17)) else (cut a0 0 s1).bind fun v19 => ((iter (envelope_Recipients_l2 v7 v19) 0).bind (Sum.elim (fun b23 => some ((-1))) (fun b24 => some b24)) : Option Int).bind fun (j21 : Int) => (bif decide (0 ≤ j21) then (basic_Fault 7 s1).bind fun v32 => some (.out (.inr v32)) else some (.cont (w64 (s1 + 1)))))) else some (.out (.inl (()))))
noncomputable def envelope_Recipients (a0 : List TRecipient) : Option TFault :=
  (iter (envelope_Recipients_l1 a0) 0).bind (Sum.elim (fun b2 => (basic_None).bind fun v34 => some v34) (fun b3 => some b3))
noncomputable def envelope_Validate (a0 : TEnvelope) : Option TFault :=
  ((bif (a0.From != ([] : Str)) then (envelope_Address a0.From).bind fun v3 => some ((!v3)) else some false) : Option Bool).bind fun (j1 : Bool) => (bif j1 then (basic_Fault 10 ((-10))).bind fun v6 => some v6 else ((bif decide ((a0.To.length : Int) < 1) then some true else some (decide (60 < (a0.To.length : Int)))) : Option Bool).bind fun (j8 : Bool) => (bif j8 then (basic_Fault 2 ((-11))).bind fun v11 => some v11 else ((bif (a0.Id != ([] : Str)) then (basic_Name a0.Id).bind fun v15 => some ((!v15)) else some false) : Option Bool).bind fun (j13 : Bool) => (bif j13 then (basic_Fault 10 ((-12))).bind fun v18 => some v18 else (envelope_Recipients a0.To).bind fun v20 => some v20)))
def slices_Index_string_string_l1 (a0 : List Str) (a1 : Str) (s1 : Int) : Option (Step Int (Unit ⊕ Int)) :=
  (bif decide (s1 < (a0.length : Int)) then (idx a0 s1).bind fun v7 => (bif (a1 == v7) then some (.out (.inr s1)) else some (.cont (w64 (s1 + 1)))) else some (.out (.inl (()))))
noncomputable def slices_Index_string_string (a0 : List Str) (a1 : Str) : Option Int :=
  (iter (slices_Index_string_string_l1 a0 a1) 0).bind (Sum.elim (fun b2 => some ((-1))) (fun b3 => some b3))
noncomputable def slices_Contains_string_string (a0 : List Str) (a1 : Str) : Option Bool :=
  (slices_Index_string_string a0 a1).bind fun v1 => some (decide (0 ≤ v1))
noncomputable def envelope_Domains_l1 (a0 : TEnvelope) (s6 : Int × (List Str)) : Option (Step (Int × (List Str)) (List Str)) :=
  (bif decide (s6.1 < (a0.To.length : Int)) then ((idx a0.To s6.1).bind fun v11 => (envelope_Split v11.Address).bind fun v13 => (slices_Contains_string_string s6.2 v13.2.1).bind fun v15 => (bif (!v15) then (app 8796093022208 s6.2 (([v13.2.1] : List Str))).bind fun v18 => some v18 else some s6.2) : Option (List Str)).bind fun (j10 : List Str) => some (.cont ((w64 (s6.1 + 1)), j10)) else some (.out s6.2))
noncomputable def envelope_Domains (a0 : TEnvelope) : Option ((List Str) × TFault) :=
  (envelope_Validate a0).bind fun v1 => (basic_Failed v1).bind fun v3 => (bif v3 then some (([], v1)) else (iter (envelope_Domains_l1 a0) ((0, ([] : List Str)))).bind fun b7 => (basic_None).bind fun v20 => some ((b7, v20)))
noncomputable def envelope_For_l1 (a1 : Str) (j6 : List TRecipient) (s12 : Int) : Option (Step Int (Unit ⊕ Int)) :=
  (bif decide (s12 < (j6.length : Int)) then (idx j6 s12).bind fun v18 => (idx j6 s12).bind fun v20 => (envelope_Split v20.Address).bind fun v22 => (bif (v22.2.1 != a1) then some (.out (.inr s12)) else some (.cont (w64 (s12 + 1)))) else some (.out (.inl (()))))
noncomputable def envelope_For_l2 (a1 : Str) (s26 : Int × Int × (List TRecipient)) : Option (Step (Int × Int × (List TRecipient)) (Int × (List TRecipient))) :=
  (bif decide (s26.2.1 < (s26.2.2.length : Int)) then ((idx s26.2.2 s26.2.1).bind fun v31 => (idx s26.2.2 s26.2.1).bind fun v33 => (envelope_Split v33.Address).bind fun v35 => (bif (!((v35.2.1 != a1))) then (idx s26.2.2 s26.1).bind fun v38 => (idx s26.2.2 s26.1).bind fun v40 => some (((w64 (s26.1 + 1)), (List.set s26.2.2 (Int.toNat s26.1) v33))) else some ((s26.1, s26.2.2))) : Option (Int × (List TRecipient))).bind fun (j30 : Int × (List TRecipient)) => some (.cont (j30.1, (w64 (s26.2.1 + 1)), j30.2)) else some (.out ((s26.1, s26.2.2))))
noncomputable def envelope_For (a0 : TEnvelope) (a1 : Str) : Option (TEnvelope × TFault) :=
  (envelope_Validate a0).bind fun v1 => (basic_Failed v1).bind fun v3 => (bif v3 then some (((TEnvelope.mk (([] : Str)) ([]) (([] : Str))), v1)) else ((nilE a0.To.isEmpty (some (([] : List TRecipient))) ((app 5864062014805 ([] : List TRecipient) a0.To).bind fun v8 => some v8)) : Option (List TRecipient)).bind fun (j6 : List TRecipient) => (((iter (envelope_For_l1 a1 j6) 0).bind (Sum.elim (fun b13 => some ((-1))) (fun b14 => some b14)) : Option Int).bind fun (j11 : Int) => (bif (j11 == (-1)) then some j6 else (iter (envelope_For_l2 a1) ((j11, (w64 (j11 + 1)), j6))).bind fun b27 => (cut b27.2 b27.1 (b27.2.length : Int)).bind fun v42 => (cut ((clr0 b27.2 (Int.toNat b27.1) ((TRecipient.mk (([] : Str)) 0)))) 0 b27.1).bind fun v44 => some v44) : Option (List TRecipient)).bind fun (j10 : List TRecipient) => (bif ((j10.length : Int) == 0) then (basic_Fault 6 ((-13))).bind fun v47 => some (((TEnvelope.mk (([] : Str)) ([]) (([] : Str))), v47)) else (basic_None).bind fun v49 => some (((TEnvelope.mk a0.From j10 a0.Id), v49))))
def envelope_Merge_k2 (s4 : Int × (List TRecipient) × (List (Str × Int))) (j10 : (List TRecipient) × (List (Str × Int))) : Option (Step (Int × (List TRecipient) × (List (Str × Int))) ((List TRecipient) ⊕ ((List TRecipient) × TFault))) :=
  some (.cont ((w64 (s4.1 + 1)), j10.1, j10.2))
noncomputable def envelope_Merge_l1 (a0 : List TRecipient) (s4 : Int × (List TRecipient) × (List (Str × Int))) : Option (Step (Int × (List TRecipient) × (List (Str × Int))) ((List TRecipient) ⊕ ((List TRecipient) × TFault))) :=
  (bif decide (s4.1 < (a0.length : Int)) then (idx a0 s4.1).bind fun v11 => (envelope_Address v11.Address).bind fun v13 => (bif (!v13) then (basic_Fault 10 s4.1).bind fun v16 => some (.out (.inr (([], v16)))) else (envelope_Notify v11.Notify).bind fun v18 => (bif (!v18) then (basic_Fault 3 s4.1).bind fun v21 => some (.out (.inr (([], v21)))) else (bif (mget s4.2.2 v11.Address).isSome then (idx s4.2.1 (((mget s4.2.2 v11.Address).getD 0))).bind fun v24 => (idx s4.2.1 (((mget s4.2.2 v11.Address).getD 0))).bind fun v26 => (idx s4.2.1 (((mget s4.2.2 v11.Address).getD 0))).bind fun v28 => (idx s4.2.1 (((mget s4.2.2 v11.Address).getD 0))).bind fun v30 => (envelope_Merge_k2 s4 ((List.set s4.2.1 (Int.toNat (((mget s4.2.2 v11.Address).getD 0))) ((TRecipient.mk v30.Address ((iOr v26.Notify v11.Notify))))), s4.2.2)) else (app 5864062014805 s4.2.1 (([v11] : List TRecipient))).bind fun v32 => (envelope_Merge_k2 s4 (v32, (mput s4.2.2 v11.Address ((s4.2.1.length : Int)))))))) else some (.out (.inl s4.2.1)))
noncomputable def envelope_Merge (a0 : List TRecipient) : Option ((List TRecipient) × TFault) :=
  (bif decide (300 < (a0.length : Int)) then (basic_Fault 2 ((-1))).bind fun v2 => some (([], v2)) else (iter (envelope_Merge_l1 a0) ((0, ([] : List TRecipient), ([] : List (Str × Int))))).bind (Sum.elim (fun b5 => (basic_None).bind fun v34 => some ((b5, v34))) (fun b6 => some ((b6.1, b6.2)))))
def R_SameRecipients_l1 (a0 : List TRecipient) (a1 : List TRecipient) (s2 : Int) : Option (Step Int (Unit ⊕ Bool)) :=
  (bif decide (s2 < (a0.length : Int)) then (idx a0 s2).bind fun v8 => (idx a1 s2).bind fun v10 => (bif (!(allEq [(v8.Address == v10.Address), (v8.Notify == v10.Notify)])) then some (.out (.inr false)) else some (.cont (w64 (s2 + 1)))) else some (.out (.inl (()))))
noncomputable def R_SameRecipients (a0 : List TRecipient) (a1 : List TRecipient) : Option Bool :=
  (bif ((a0.length : Int) != (a1.length : Int)) then some false else (iter (R_SameRecipients_l1 a0 a1) 0).bind (Sum.elim (fun b3 => some true) (fun b4 => some b4)))
noncomputable def L_envelopes  : Option Bool :=
  (envelope_Domains ((TEnvelope.mk (([] : Str)) (([(TRecipient.mk (([97, 64, 120] : Str)) 0), (TRecipient.mk (([98, 64, 121] : Str)) 1)] : List TRecipient)) (([] : Str))))).bind fun v1 => (envelope_For ((TEnvelope.mk (([] : Str)) (([(TRecipient.mk (([97, 64, 120] : Str)) 0), (TRecipient.mk (([98, 64, 121] : Str)) 1)] : List TRecipient)) (([] : Str)))) (([121] : Str))).bind fun v3 => (envelope_Merge (([(TRecipient.mk (([97, 64, 98] : Str)) 1), (TRecipient.mk (([97, 64, 98] : Str)) 4)] : List TRecipient))).bind fun v5 => ((bif (v1.2.Code == 0) then (bif (v3.2.Code == 0) then (bif (v5.2.Code == 0) then (R_Strings v1.1 (([([120] : Str), ([121] : Str)] : List Str))).bind fun v11 => (bif v11 then (R_SameRecipients v3.1.To (([(TRecipient.mk (([98, 64, 121] : Str)) 1)] : List TRecipient))).bind fun v14 => (bif v14 then (R_SameRecipients v5.1 (([(TRecipient.mk (([97, 64, 98] : Str)) 5)] : List TRecipient))).bind fun v17 => (bif v17 then (envelope_Validate ((TEnvelope.mk (([] : Str)) ([]) (([] : Str))))).bind fun v20 => (R_At 2 ((-11))).bind fun v22 => some ((allEq [(v20.Code == v22.Code), (v20.Index == v22.Index)])) else some false) else some false) else some false) else some false) else some false) else some false) : Option Bool).bind fun (j7 : Bool) => some j7
noncomputable def R_DomainOf (a0 : Str) : Option Str :=
  (R_sign a0).bind fun v1 => (bif (v1 == (a0.length : Int)) then some (([] : Str)) else (cut a0 ((w64 (v1 + 1))) ((a0.length : Int))).bind fun v4 => some v4)
noncomputable def L_EnvelopeDomainsMatchSpec_l1 (a0 : TEnvelope) (a1 : Str) (s22 : Int × (List TRecipient) × (List Str)) : Option (Step (Int × (List TRecipient) × (List Str)) ((List TRecipient) × (List Str))) :=
  (bif decide (s22.1 < (a0.To.length : Int)) then ((idx a0.To s22.1).bind fun v27 => (R_DomainOf v27.Address).bind fun v29 => ((R_Has s22.2.2 v29).bind fun v32 => (bif (!v32) then (app 8796093022208 s22.2.2 (([v29] : List Str))).bind fun v35 => some v35 else some s22.2.2) : Option (List Str)).bind fun (j31 : List Str) => (bif (v29 == a1) then (idx a0.To s22.1).bind fun v38 => (app 5864062014805 s22.2.1 (([v38] : List TRecipient))).bind fun v40 => some ((v40, j31)) else some ((s22.2.1, j31))) : Option ((List TRecipient) × (List Str))).bind fun (j26 : (List TRecipient) × (List Str)) => some (.cont ((w64 (s22.1 + 1)), j26.1, j26.2)) else some (.out ((s22.2.1, s22.2.2))))
noncomputable def L_EnvelopeDomainsMatchSpec (a0 : TEnvelope) (a1 : Str) : Option Bool :=
  (R_EnvelopeFault a0).bind fun v1 => (envelope_Domains a0).bind fun v3 => (envelope_For a0 a1).bind fun v5 => ((L_envelopes).bind fun v8 => (bif (!v8) then some true else (bif (!(allEq [(v3.2.Code == v1.Code), (v3.2.Index == v1.Index)])) then some true else some ((v1.Code != 0)))) : Option Bool).bind fun (j7 : Bool) => (bif j7 then ((L_envelopes).bind fun v14 => (bif v14 then (bif (allEq [(v3.2.Code == v1.Code), (v3.2.Index == v1.Index)]) then (bif (allEq [(v5.2.Code == v1.Code), (v5.2.Index == v1.Index)]) then (bif ((v3.1.length : Int) == 0) then (bif ((v5.1.To.length : Int) == 0) then (bif (v5.1.From == ([] : Str)) then some ((v5.1.Id == ([] : Str))) else some false) else some false) else some false) else some false) else some false) else some false) : Option Bool).bind fun (j13 : Bool) => some j13 else (iter (L_EnvelopeDomainsMatchSpec_l1 a0 a1) ((0, ([] : List TRecipient), ([] : List Str)))).bind fun b23 => (R_Strings v3.1 b23.2).bind fun v42 => (bif (!v42) then some false else (bif ((b23.1.length : Int) == 0) then ((R_At 6 ((-13))).bind fun v47 => (bif (allEq [(v5.2.Code == v47.Code), (v5.2.Index == v47.Index)]) then (bif ((v5.1.To.length : Int) == 0) then (bif (v5.1.From == ([] : Str)) then some ((v5.1.Id == ([] : Str))) else some false) else some false) else some false) : Option Bool).bind fun (j46 : Bool) => some j46 else ((bif (v5.2.Code == 0) then (bif (v5.1.From == a0.From) then (bif (v5.1.Id == a0.Id) then (R_SameRecipients v5.1.To b23.1).bind fun v56 => some v56 else some false) else some false) else some false) : Option Bool).bind fun (j52 : Bool) => some j52)))
def R_Either_l1 (a0 : Int) (a1 : Int) (s1 : Int × Int) : Option (Step (Int × Int) Int) :=
  (bif decide (s1.2 ≤ 4) then (((nz s1.2).bind fun v7 => (bif ((iRem ((iQuo a0 s1.2)) 2) == 1) then some true else (nz s1.2).bind fun v10 => some (((iRem ((iQuo a1 s1.2)) 2) == 1))) : Option Bool).bind fun (j6 : Bool) => (bif j6 then some ((w64 (s1.1 + s1.2))) else some s1.1) : Option Int).bind fun (j5 : Int) => some (.cont (j5, (w64 (2 * s1.2)))) else some (.out s1.1))
noncomputable def R_Either (a0 : Int) (a1 : Int) : Option Int :=
  (iter (R_Either_l1 a0 a1) ((0, 1))).bind fun b2 => some b2
noncomputable def R_Merged_l2 (a0 : List TRecipient) (v11 : TRecipient) (s13 : Int × Int) : Option (Step (Int × Int) Int) :=
  (bif decide (s13.1 < (a0.length : Int)) then ((idx a0 s13.1).bind fun v18 => (bif (v18.Address == v11.Address) then (idx a0 s13.1).bind fun v21 => (R_Either s13.2 v21.Notify).bind fun v23 => some v23 else some s13.2) : Option Int).bind fun (j17 : Int) => some (.cont ((w64 (s13.1 + 1)), j17)) else some (.out s13.2))
noncomputable def R_Merged_l1 (a0 : List TRecipient) (s1 : Int × (List TRecipient)) : Option (Step (Int × (List TRecipient)) (List TRecipient)) :=
  (bif decide (s1.1 < (a0.length : Int)) then ((idx a0 s1.1).bind fun v6 => (R_Known s1.2 v6.Address).bind fun v8 => (bif decide (0 ≤ v8) then some s1.2 else (idx a0 s1.1).bind fun v11 => (iter (R_Merged_l2 a0 v11) (((w64 (s1.1 + 1)), v11.Notify))).bind fun b14 => (app 5864062014805 s1.2 (([(TRecipient.mk v11.Address b14)] : List TRecipient))).bind fun v25 => some v25) : Option (List TRecipient)).bind fun (j5 : List TRecipient) => some (.cont ((w64 (s1.1 + 1)), j5)) else some (.out s1.2))
noncomputable def R_Merged (a0 : List TRecipient) : Option (List TRecipient) :=
  (iter (R_Merged_l1 a0) ((0, ([] : List TRecipient)))).bind fun b2 => some b2
noncomputable def L_EnvelopeMergeMatchesSpec_l1 (a0 : List TRecipient) (s7 : Int × Int × Int) : Option (Step (Int × Int × Int) (Int × Int)) :=
  ((bif decide (s7.1 < (a0.length : Int)) then some ((s7.2.1 == 0)) else some false) : Option Bool).bind fun (j10 : Bool) => (bif j10 then ((idx a0 s7.1).bind fun v14 => (R_AddressOk v14.Address).bind fun v16 => (bif (!v16) then (R_At 10 s7.1).bind fun v19 => some ((v19.Code, v19.Index)) else (idx a0 s7.1).bind fun v21 => (R_In v21.Notify 0 7).bind fun v23 => (bif (!v23) then (R_At 3 s7.1).bind fun v26 => some ((v26.Code, v26.Index)) else some ((s7.2.1, s7.2.2)))) : Option (Int × Int)).bind fun (j13 : Int × Int) => some (.cont ((w64 (s7.1 + 1)), j13.1, j13.2)) else some (.out ((s7.2.1, s7.2.2))))
noncomputable def L_EnvelopeMergeMatchesSpec (a0 : List TRecipient) : Option Bool :=
  (envelope_Merge a0).bind fun v1 => ((bif decide (300 < (a0.length : Int)) then (R_At 2 ((-1))).bind fun v5 => some ((v5.Code, v5.Index)) else some ((0, 0))) : Option (Int × Int)).bind fun (j3 : Int × Int) => (iter (L_EnvelopeMergeMatchesSpec_l1 a0) ((0, j3.1, j3.2))).bind fun b8 => ((L_envelopes).bind fun v29 => (bif (!v29) then some true else (bif (!(allEq [(v1.2.Code == b8.1), (v1.2.Index == b8.2)])) then some true else some ((b8.1 != 0)))) : Option Bool).bind fun (j28 : Bool) => (bif j28 then ((L_envelopes).bind fun v35 => (bif v35 then (bif (allEq [(v1.2.Code == b8.1), (v1.2.Index == b8.2)]) then some (((v1.1.length : Int) == 0)) else some false) else some false) : Option Bool).bind fun (j34 : Bool) => some j34 else (R_Merged a0).bind fun v39 => (R_SameRecipients v1.1 v39).bind fun v41 => some v41)
end Go.Proofs.Ytfhfjckjmacekaa

/- Functions of the program as Lean functions: what they compute. Written by program. -/
namespace Go.Proofs.Ytfhfjckjmacekaa
open Go.RowKit
set_option maxRecDepth 100000
set_option maxHeartbeats 40000000
set_option linter.unusedVariables false
def strings_ContainsAny (a0 : Str) (a1 : Str) : Option Bool :=
  (strings_IndexAny a0 a1).bind fun v1 => some (decide (0 ≤ v1))
def fold_name_l1 (a0 : Str) (s5 : Int) : Option (Step Int (Unit ⊕ Unit)) :=
  (bif decide (s5 < (a0.length : Int)) then (idx a0 s5).bind fun v11 => ((bif decide (33 ≤ (v11.toNat : Int)) then (bif decide ((v11.toNat : Int) ≤ 126) then some (((v11.toNat : Int) != 58)) else some false) else some false) : Option Bool).bind fun (j13 : Bool) => (bif (!j13) then some (.out (.inr (()))) else some (.cont (w64 (s5 + 1)))) else some (.out (.inl (()))))
noncomputable def fold_name (a0 : Str) : Option Bool :=
  ((bif (a0 != ([] : Str)) then (bif decide ((a0.length : Int) ≤ 60) then ((iter (fold_name_l1 a0) 0).bind (Sum.elim (fun b6 => some true) (fun b7 => some false)) : Option Bool).bind fun (j4 : Bool) => some j4 else some false) else some false) : Option Bool).bind fun (j1 : Bool) => some j1
def fold_ends (a0 : Str) : Option Bool :=
  (strings_ContainsAny a0 (([13, 10, 0] : Str))).bind fun v1 => some v1
def basic_Blank (a0 : UInt8) : Option Bool :=
  ((bif ((a0.toNat : Int) == 32) then some true else some (((a0.toNat : Int) == 9))) : Option Bool).bind fun (j1 : Bool) => some j1
def fold_value (a0 : Str) : Option Bool :=
  ((fold_ends a0).bind fun v2 => (bif (!v2) then (bif (a0 == ([] : Str)) then some true else (idx a0 0).bind fun v6 => (basic_Blank v6).bind fun v8 => (bif (!v8) then (idx a0 ((w64 ((a0.length : Int) - 1)))).bind fun v11 => (basic_Blank v11).bind fun v13 => some ((!v13)) else some false)) else some false) : Option Bool).bind fun (j1 : Bool) => some j1
def fold_point_k2 (s1 : Int × Int) (j5 : Int) : Option (Step (Int × Int) Int) :=
  some (.cont (j5, (w64 (s1.2 + 1))))
def fold_point_l1 (a0 : Str) (s1 : Int × Int) : Option (Step (Int × Int) Int) :=
  (bif decide (s1.2 < (a0.length : Int)) then ((idx a0 s1.2).bind fun v7 => (basic_Blank v7).bind fun v9 => (bif (!v9) then some true else (idx a0 ((w64 (s1.2 - 1)))).bind fun v12 => (basic_Blank v12).bind fun v14 => some v14) : Option Bool).bind fun (j6 : Bool) => (bif j6 then (fold_point_k2 s1 s1.1) else ((bif decide (0 < s1.1) then some (decide (78 < s1.2)) else some false) : Option Bool).bind fun (j17 : Bool) => (bif j17 then some (.out s1.1) else (fold_point_k2 s1 s1.2))) else some (.out s1.1))
noncomputable def fold_point (a0 : Str) (a1 : Int) : Option Int :=
  (iter (fold_point_l1 a0) ((0, (max a1 1)))).bind fun b2 => some b2
noncomputable def fold_Fold_l1  (s18 : Str × Int × (List Str)) : Option (Step (Str × Int × (List Str)) (Str × (List Str))) :=
  (bif decide (78 < (s18.1.length : Int)) then (fold_point s18.1 s18.2.1).bind fun v22 => (bif (v22 == 0) then some (.out ((s18.1, s18.2.2))) else (cut s18.1 0 v22).bind fun v25 => (app 8796093022208 s18.2.2 (([v25] : List Str))).bind fun v27 => (cut s18.1 v22 ((s18.1.length : Int))).bind fun v29 => some (.cont (v29, 0, v27))) else some (.out ((s18.1, s18.2.2))))
def fold_Fold_l2 (v31 : List Str) (s34 : Int) : Option (Step Int (Unit ⊕ ((List Str) × TFault))) :=
  (bif decide (s34 < (v31.length : Int)) then (idx v31 s34).bind fun v40 => (bif decide (998 < (v40.length : Int)) then (basic_Fault 1 s34).bind fun v43 => some (.out (.inr (([], v43)))) else some (.cont (w64 (s34 + 1)))) else some (.out (.inl (()))))
noncomputable def fold_Fold (a0 : Str) (a1 : Str) : Option ((List Str) × TFault) :=
  (fold_name a0).bind fun v1 => (bif (!v1) then (basic_Fault 10 ((-1))).bind fun v4 => some (([], v4)) else (bif decide (4000 < (a1.length : Int)) then (basic_Fault 1 ((-1))).bind fun v7 => some (([], v7)) else (fold_value a1).bind fun v9 => (bif (!v9) then (basic_Fault 11 ((-1))).bind fun v12 => some (([], v12)) else (cat a0 (([58, 32] : Str))).bind fun v14 => (cat v14 a1).bind fun v16 => (iter (fold_Fold_l1) ((v16, (w64 ((a0.length : Int) + 2)), ([] : List Str)))).bind fun b19 => (app 8796093022208 b19.2 (([b19.1] : List Str))).bind fun v31 => (iter (fold_Fold_l2 v31) 0).bind (Sum.elim (fun b35 => (basic_None).bind fun v45 => some ((v31, v45))) (fun b36 => some ((b36.1, b36.2)))))))
end Go.Proofs.Ytfhfjckjmacekaa

/- Functions of the program as Lean functions: what they compute. Written by program. -/
namespace Go.Proofs.Ytfhfjckjmacekaa
open Go.RowKit
set_option maxRecDepth 100000
set_option maxHeartbeats 40000000
set_option linter.unusedVariables false
noncomputable def header_Validate_l1 (a0 : List TField) (s4 : Int) : Option (Step Int (Unit ⊕ TFault)) :=
  (bif decide (s4 < (a0.length : Int)) then (idx a0 s4).bind fun v10 => (fold_Fold v10.Name v10.Value).bind fun v12 => (basic_Failed v12.2).bind fun v14 => (bif v14 then (basic_Fault v12.2.Code s4).bind fun v17 => some (.out (.inr v17)) else some (.cont (w64 (s4 + 1)))) else some (.out (.inl (()))))
noncomputable def header_Validate (a0 : List TField) : Option TFault :=
  (bif decide (60 < (a0.length : Int)) then (basic_Fault 2 ((-1))).bind fun v2 => some v2 else (iter (header_Validate_l1 a0) 0).bind (Sum.elim (fun b5 => (basic_None).bind fun v19 => some v19) (fun b6 => some b6)))
def message_write_l2 (v7 : (List Str) × TFault) (s9 : Int × (List UInt8)) : Option (Step (Int × (List UInt8)) (List UInt8)) :=
  (bif decide (s9.1 < (v7.1.length : Int)) then (idx v7.1 s9.1).bind fun v13 => (app 140737488355328 s9.2 v13).bind fun v15 => (app 140737488355328 v15 (([(13 : UInt8), (10 : UInt8)] : List UInt8))).bind fun v17 => some (.cont ((w64 (s9.1 + 1)), v17)) else some (.out s9.2))
noncomputable def message_write_l1 (a0 : TMessage) (s1 : Int × (List UInt8)) : Option (Step (Int × (List UInt8)) (List UInt8)) :=
  (bif decide (s1.1 < (a0.Fields.length : Int)) then (idx a0.Fields s1.1).bind fun v5 => (fold_Fold v5.Name v5.Value).bind fun v7 => (iter (message_write_l2 v7) ((0, s1.2))).bind fun b10 => some (.cont ((w64 (s1.1 + 1)), b10)) else some (.out s1.2))
noncomputable def message_write (a0 : TMessage) : Option (List UInt8) :=
  (iter (message_write_l1 a0) ((0, ([] : List UInt8)))).bind fun b2 => (app 140737488355328 b2 (([(13 : UInt8), (10 : UInt8)] : List UInt8))).bind fun v19 => (app 140737488355328 v19 a0.Body).bind fun v21 => some v21
def basic_Body_k2  (j7 : Int × Int) : Option (Step (Int × Int) (Unit ⊕ Int)) :=
  some (.cont (j7.1, (w64 (j7.2 + 1))))
def basic_Body_l1 (a0 : List UInt8) (s1 : Int × Int) : Option (Step (Int × Int) (Unit ⊕ Int)) :=
  (bif decide (s1.2 < (a0.length : Int)) then (idx a0 s1.2).bind fun v8 => ((bif ((v8.toNat : Int) == 13) then (bif decide ((w64 (s1.2 + 1)) < (a0.length : Int)) then (idx a0 ((w64 (s1.2 + 1)))).bind fun v13 => some (((v13.toNat : Int) == 10)) else some false) else some false) : Option Bool).bind fun (j10 : Bool) => (bif j10 then (basic_Body_k2  (0, (w64 (s1.2 + 1)))) else ((bif ((v8.toNat : Int) == 13) then some true else some (((v8.toNat : Int) == 10))) : Option Bool).bind fun (j16 : Bool) => (bif j16 then some (.out (.inr 11)) else (bif decide (998 < (w64 (s1.1 + 1))) then some (.out (.inr 1)) else (basic_Body_k2  ((w64 (s1.1 + 1)), s1.2))))) else some (.out (.inl (()))))
noncomputable def basic_Body (a0 : List UInt8) : Option Int :=
  (iter (basic_Body_l1 a0) ((0, 0))).bind (Sum.elim (fun b2 => some 0) (fun b3 => some b3))
noncomputable def message_body (a0 : List UInt8) : Option TFault :=
  (basic_Body a0).bind fun v1 => (bif (v1 == 11) then (basic_Fault 11 ((-5))).bind fun v4 => some v4 else (bif (v1 == 1) then (basic_Fault 1 ((-6))).bind fun v7 => some v7 else (basic_None).bind fun v9 => some v9))
noncomputable def message_Validate (a0 : TMessage) : Option TFault :=
  (header_Validate a0.Fields).bind fun v1 => (basic_Failed v1).bind fun v3 => (bif v3 then some v1 else (message_write a0).bind fun v6 => (bif decide (12000 < (v6.length : Int)) then (basic_Fault 1 ((-4))).bind fun v9 => some v9 else (message_body a0.Body).bind fun v11 => some v11))
noncomputable def envelope_Check (a0 : TMail) : Option TFault :=
  (envelope_Validate a0.Envelope).bind fun v1 => (basic_Failed v1).bind fun v3 => (bif v3 then some v1 else (message_Validate a0.Message).bind fun v6 => (basic_Failed v6).bind fun v8 => (bif v8 then (basic_Fault v6.Code ((-30))).bind fun v11 => some v11 else (basic_None).bind fun v13 => some v13))
def R_blank (a0 : UInt8) : Option Bool :=
  ((bif ((a0.toNat : Int) == 32) then some true else some (((a0.toNat : Int) == 9))) : Option Bool).bind fun (j1 : Bool) => some j1
def R_FieldLines_l2 (s5 : Str × Int × (List Str)) (s9 : Int × Int) : Option (Step (Int × Int) Int) :=
  ((bif decide (0 < s9.2) then some ((s9.1 == 0)) else some false) : Option Bool).bind fun (j12 : Bool) => (bif j12 then (((bif decide (s5.2.1 ≤ s9.2) then (idx s5.1 s9.2).bind fun v18 => (R_blank v18).bind fun v20 => (bif v20 then (idx s5.1 ((w64 (s9.2 - 1)))).bind fun v23 => (R_blank v23).bind fun v25 => some ((!v25)) else some false) else some false) : Option Bool).bind fun (j16 : Bool) => (bif j16 then some s9.2 else some s9.1) : Option Int).bind fun (j15 : Int) => some (.cont (j15, (w64 (s9.2 - 1)))) else some (.out s9.1))
def R_FieldLines_l3 (s5 : Str × Int × (List Str)) (s28 : Int × Int) : Option (Step (Int × Int) Int) :=
  ((bif decide (s28.2 < (s5.1.length : Int)) then some ((s28.1 == 0)) else some false) : Option Bool).bind fun (j31 : Bool) => (bif j31 then (((bif decide (s5.2.1 ≤ s28.2) then (idx s5.1 s28.2).bind fun v37 => (R_blank v37).bind fun v39 => (bif v39 then (idx s5.1 ((w64 (s28.2 - 1)))).bind fun v42 => (R_blank v42).bind fun v44 => some ((!v44)) else some false) else some false) : Option Bool).bind fun (j35 : Bool) => (bif j35 then some s28.2 else some s28.1) : Option Int).bind fun (j34 : Int) => some (.cont (j34, (w64 (s28.2 + 1)))) else some (.out s28.1))
noncomputable def R_FieldLines_l1  (s5 : Str × Int × (List Str)) : Option (Step (Str × Int × (List Str)) (Str × (List Str))) :=
  (bif decide (78 < (s5.1.length : Int)) then (iter (R_FieldLines_l2 s5) ((0, 78))).bind fun b10 => (iter (R_FieldLines_l3 s5) ((b10, 79))).bind fun b29 => (bif (b29 == 0) then some (.out ((s5.1, s5.2.2))) else (cut s5.1 0 b29).bind fun v48 => (app 8796093022208 s5.2.2 (([v48] : List Str))).bind fun v50 => (cut s5.1 b29 ((s5.1.length : Int))).bind fun v52 => some (.cont (v52, 1, v50))) else some (.out ((s5.1, s5.2.2))))
noncomputable def R_FieldLines (a0 : Str) (a1 : Str) : Option (List Str) :=
  (cat a0 (([58, 32] : Str))).bind fun v1 => (cat v1 a1).bind fun v3 => (iter (R_FieldLines_l1) ((v3, (w64 ((a0.length : Int) + 2)), ([] : List Str)))).bind fun b6 => (app 8796093022208 b6.2 (([b6.1] : List Str))).bind fun v54 => some v54
def R_FieldCode_l1 (a0 : TField) (s1 : Int) : Option (Step Int (Unit ⊕ Int)) :=
  (bif decide (s1 < (a0.Name.length : Int)) then ((idx a0.Name s1).bind fun v8 => (R_In ((v8.toNat : Int)) 33 126).bind fun v10 => (bif (!v10) then some true else (idx a0.Name s1).bind fun v13 => some (((v13.toNat : Int) == 58))) : Option Bool).bind fun (j7 : Bool) => (bif j7 then some (.out (.inr 10)) else some (.cont (w64 (s1 + 1)))) else some (.out (.inl (()))))
def R_FieldCode_l2 (a0 : TField) (s20 : Int) : Option (Step Int (Unit ⊕ Int)) :=
  (bif decide (s20 < (a0.Value.length : Int)) then ((idx a0.Value s20).bind fun v27 => (bif ((v27.toNat : Int) == 0) then some true else (idx a0.Value s20).bind fun v30 => (bif ((v30.toNat : Int) == 10) then some true else (idx a0.Value s20).bind fun v33 => some (((v33.toNat : Int) == 13)))) : Option Bool).bind fun (j26 : Bool) => (bif j26 then some (.out (.inr 11)) else some (.cont (w64 (s20 + 1)))) else some (.out (.inl (()))))
def R_FieldCode_l3 (v48 : List Str) (s50 : Int) : Option (Step Int (Unit ⊕ Int)) :=
  (bif decide (s50 < (v48.length : Int)) then (idx v48 s50).bind fun v56 => (bif decide (998 < (v56.length : Int)) then some (.out (.inr 1)) else some (.cont (w64 (s50 + 1)))) else some (.out (.inl (()))))
noncomputable def R_FieldCode (a0 : TField) : Option Int :=
  (iter (R_FieldCode_l1 a0) 0).bind (Sum.elim (fun b2 => (R_In ((a0.Name.length : Int)) 1 60).bind fun v16 => (bif (!v16) then some 10 else (bif decide (4000 < (a0.Value.length : Int)) then some 1 else (iter (R_FieldCode_l2 a0) 0).bind (Sum.elim (fun b21 => ((bif decide (0 < (a0.Value.length : Int)) then (idx a0.Value 0).bind fun v38 => (R_blank v38).bind fun v40 => (bif v40 then some true else (idx a0.Value ((w64 ((a0.Value.length : Int) - 1)))).bind fun v43 => (R_blank v43).bind fun v45 => some v45) else some false) : Option Bool).bind fun (j36 : Bool) => (bif j36 then some 11 else (R_FieldLines a0.Name a0.Value).bind fun v48 => (iter (R_FieldCode_l3 v48) 0).bind (Sum.elim (fun b51 => some 0) (fun b52 => some b52)))) (fun b22 => some b22))))) (fun b3 => some b3))
def R_MessageBytes_l2 (v9 : List Str) (s11 : Int × (List UInt8)) : Option (Step (Int × (List UInt8)) (List UInt8)) :=
  (bif decide (s11.1 < (v9.length : Int)) then (idx v9 s11.1).bind fun v15 => (app 140737488355328 s11.2 v15).bind fun v17 => (app 140737488355328 v17 (([(13 : UInt8), (10 : UInt8)] : List UInt8))).bind fun v19 => some (.cont ((w64 (s11.1 + 1)), v19)) else some (.out s11.2))
noncomputable def R_MessageBytes_l1 (a0 : TMessage) (s1 : Int × (List UInt8)) : Option (Step (Int × (List UInt8)) (List UInt8)) :=
  (bif decide (s1.1 < (a0.Fields.length : Int)) then (idx a0.Fields s1.1).bind fun v5 => (idx a0.Fields s1.1).bind fun v7 => (R_FieldLines v5.Name v7.Value).bind fun v9 => (iter (R_MessageBytes_l2 v9) ((0, s1.2))).bind fun b12 => some (.cont ((w64 (s1.1 + 1)), b12)) else some (.out s1.2))
noncomputable def R_MessageBytes (a0 : TMessage) : Option (List UInt8) :=
  (iter (R_MessageBytes_l1 a0) ((0, ([] : List UInt8)))).bind fun b2 => (app 140737488355328 b2 (([(13 : UInt8), (10 : UInt8)] : List UInt8))).bind fun v21 => (app 140737488355328 v21 a0.Body).bind fun v23 => some v23
noncomputable def R_MessageFault_l1 (a0 : TMessage) (s4 : Int) : Option (Step Int (Unit ⊕ TFault)) :=
  (bif decide (s4 < (a0.Fields.length : Int)) then (idx a0.Fields s4).bind fun v10 => (R_FieldCode v10).bind fun v12 => (bif (v12 != 0) then (R_At v12 s4).bind fun v15 => some (.out (.inr v15)) else some (.cont (w64 (s4 + 1)))) else some (.out (.inl (()))))
def R_MessageFault_k3  (j30 : Int × Int) : Option (Step (Int × Int) (Unit ⊕ TFault)) :=
  some (.cont (j30.1, (w64 (j30.2 + 1))))
def R_MessageFault_l2 (a0 : TMessage) (s24 : Int × Int) : Option (Step (Int × Int) (Unit ⊕ TFault)) :=
  (bif decide (s24.2 < (a0.Body.length : Int)) then (idx a0.Body s24.2).bind fun v31 => ((bif ((v31.toNat : Int) == 13) then (bif decide ((w64 (s24.2 + 1)) < (a0.Body.length : Int)) then (idx a0.Body ((w64 (s24.2 + 1)))).bind fun v36 => some (((v36.toNat : Int) == 10)) else some false) else some false) : Option Bool).bind fun (j33 : Bool) => (bif j33 then (R_MessageFault_k3  (0, (w64 (s24.2 + 1)))) else ((bif ((v31.toNat : Int) == 13) then some true else some (((v31.toNat : Int) == 10))) : Option Bool).bind fun (j39 : Bool) => (bif j39 then (R_At 11 ((-5))).bind fun v42 => some (.out (.inr v42)) else (bif decide (998 < (w64 (s24.1 + 1))) then (R_At 1 ((-6))).bind fun v45 => some (.out (.inr v45)) else (R_MessageFault_k3  ((w64 (s24.1 + 1)), s24.2))))) else some (.out (.inl (()))))
noncomputable def R_MessageFault (a0 : TMessage) : Option TFault :=
  (bif decide (60 < (a0.Fields.length : Int)) then (R_At 2 ((-1))).bind fun v2 => some v2 else (iter (R_MessageFault_l1 a0) 0).bind (Sum.elim (fun b5 => ((bif decide (12000 < (a0.Body.length : Int)) then some true else (R_MessageBytes a0).bind fun v19 => some (decide (12000 < (v19.length : Int)))) : Option Bool).bind fun (j17 : Bool) => (bif j17 then (R_At 1 ((-4))).bind fun v22 => some v22 else (iter (R_MessageFault_l2 a0) ((0, 0))).bind (Sum.elim (fun b25 => some ((TFault.mk 0 0))) (fun b26 => some b26)))) (fun b6 => some b6)))
noncomputable def R_MailFault (a0 : TMail) : Option TFault :=
  (R_EnvelopeFault a0.Envelope).bind fun v1 => (((bif (v1.Code == 0) then (R_MessageFault a0.Message).bind fun v6 => some ((v6.Code != 0)) else some false) : Option Bool).bind fun (j4 : Bool) => (bif j4 then (R_MessageFault a0.Message).bind fun v9 => (R_At v9.Code ((-30))).bind fun v11 => some ((v11.Code, v11.Index)) else some ((v1.Code, v1.Index))) : Option (Int × Int)).bind fun (j3 : Int × Int) => some ((TFault.mk j3.1 j3.2))
noncomputable def L_EnvelopeMatchesSpec (a0 : TMail) : Option Bool :=
  ((L_envelopes).bind fun v2 => (bif v2 then (envelope_Validate a0.Envelope).bind fun v5 => (R_EnvelopeFault a0.Envelope).bind fun v7 => (bif (allEq [(v5.Code == v7.Code), (v5.Index == v7.Index)]) then (envelope_Check a0).bind fun v10 => (R_MailFault a0).bind fun v12 => some ((allEq [(v10.Code == v12.Code), (v10.Index == v12.Index)])) else some false) else some false) : Option Bool).bind fun (j1 : Bool) => some j1
end Go.Proofs.Ytfhfjckjmacekaa

/- Functions of the program as Lean functions: what they compute. Written by program. -/
namespace Go.Proofs.Ytfhfjckjmacekaa
open Go.RowKit
set_option maxRecDepth 100000
set_option maxHeartbeats 40000000
set_option linter.unusedVariables false
def forward_aliases_l1 (a0 : List TForward) (s1 : Int × (List TAlias)) : Option (Step (Int × (List TAlias)) (List TAlias)) :=
  (bif decide (s1.1 < (a0.length : Int)) then (idx a0 s1.1).bind fun v5 => (app 3518437208883 s1.2 (([(TAlias.mk v5.Address v5.To)] : List TAlias))).bind fun v7 => some (.cont ((w64 (s1.1 + 1)), v7)) else some (.out s1.2))
noncomputable def forward_aliases (a0 : List TForward) : Option (List TAlias) :=
  (iter (forward_aliases_l1 a0) ((0, ([] : List TAlias)))).bind fun b2 => some b2
noncomputable def forward_Validate (a0 : List TForward) : Option TFault :=
  (forward_aliases a0).bind fun v1 => (alias_Validate v1).bind fun v3 => some v3
noncomputable def header_name (a0 : Str) : Option Bool :=
  (fold_Fold a0 (([] : Str))).bind fun v1 => (basic_Failed v1.2).bind fun v3 => some ((!v3))
noncomputable def header_valid (a0 : List TField) (a1 : Str) : Option TFault :=
  (header_Validate a0).bind fun v1 => (basic_Failed v1).bind fun v3 => (bif v3 then some v1 else (header_name a1).bind fun v6 => (bif (!v6) then (basic_Fault 10 ((-3))).bind fun v9 => some v9 else (basic_None).bind fun v11 => some v11))
def basic_Lower_l1 (a0 : Str) (s1 : Int × (List UInt8)) : Option (Step (Int × (List UInt8)) (List UInt8)) :=
  (bif decide (s1.1 < (a0.length : Int)) then ((idx s1.2 s1.1).bind fun v6 => (idx s1.2 s1.1).bind fun v8 => ((bif decide (65 ≤ (v8.toNat : Int)) then some (decide ((v8.toNat : Int) ≤ 90)) else some false) : Option Bool).bind fun (j10 : Bool) => (bif j10 then (idx s1.2 s1.1).bind fun v13 => (idx s1.2 s1.1).bind fun v15 => some ((List.set s1.2 (Int.toNat s1.1) (((v8 + (97 : UInt8)) - (65 : UInt8))))) else some s1.2) : Option (List UInt8)).bind fun (j5 : List UInt8) => some (.cont ((w64 (s1.1 + 1)), j5)) else some (.out s1.2))
noncomputable def basic_Lower (a0 : Str) : Option Str :=
  (iter (basic_Lower_l1 a0) ((0, a0))).bind fun b2 => some b2
noncomputable def basic_Same (a0 : Str) (a1 : Str) : Option Bool :=
  ((bif ((a0.length : Int) == (a1.length : Int)) then (basic_Lower a0).bind fun v3 => (basic_Lower a1).bind fun v5 => some ((v3 == v5)) else some false) : Option Bool).bind fun (j1 : Bool) => some j1
noncomputable def header_Get_l1 (a0 : List TField) (a1 : Str) (s6 : Int × (List Str)) : Option (Step (Int × (List Str)) (List Str)) :=
  (bif decide (s6.1 < (a0.length : Int)) then ((idx a0 s6.1).bind fun v11 => (basic_Same v11.Name a1).bind fun v13 => (bif v13 then (app 8796093022208 s6.2 (([v11.Value] : List Str))).bind fun v16 => some v16 else some s6.2) : Option (List Str)).bind fun (j10 : List Str) => some (.cont ((w64 (s6.1 + 1)), j10)) else some (.out s6.2))
noncomputable def header_Get (a0 : List TField) (a1 : Str) : Option ((List Str) × TFault) :=
  (header_valid a0 a1).bind fun v1 => (basic_Failed v1).bind fun v3 => (bif v3 then some (([], v1)) else (iter (header_Get_l1 a0 a1) ((0, ([] : List Str)))).bind fun b7 => (basic_None).bind fun v18 => some ((b7, v18)))
def forward_find_l1 (a0 : List TForward) (a1 : Str) (s2 : Int) : Option (Step Int (Unit ⊕ Int)) :=
  (bif decide (s2 < (a0.length : Int)) then (idx a0 s2).bind fun v8 => (bif (v8.Address == a1) then some (.out (.inr s2)) else some (.cont (w64 (s2 + 1)))) else some (.out (.inl (()))))
noncomputable def forward_find (a0 : List TForward) (a1 : Str) : Option Int :=
  ((iter (forward_find_l1 a0 a1) 0).bind (Sum.elim (fun b3 => some ((-1))) (fun b4 => some b4)) : Option Int).bind fun (j1 : Int) => some j1
def slices_Concat_api_Field_api_Field_l1 (a0 : List (List TField)) (s1 : Int × Int) : Option (Step (Int × Int) Int) :=
  (bif decide (s1.2 < (a0.length : Int)) then (idx a0 s1.2).bind fun v5 => (bif decide ((w64 (s1.1 + (v5.length : Int))) < 0) then none else some (.cont ((w64 (s1.1 + (v5.length : Int))), (w64 (s1.2 + 1))))) else some (.out s1.1))
def slices_Concat_api_Field_api_Field_l2 (a0 : List (List TField)) (s14 : Int × (List TField)) : Option (Step (Int × (List TField)) (List TField)) :=
  (bif decide (s14.1 < (a0.length : Int)) then (idx a0 s14.1).bind fun v18 => (app 4398046511104 s14.2 v18).bind fun v20 => some (.cont ((w64 (s14.1 + 1)), v20)) else some (.out s14.2))
def slices_Concat_api_Field_api_Field_l3 (a0 : List (List TField)) (s22 : Int × (List TField)) : Option (Step (Int × (List TField)) (List TField)) :=
  (bif decide (s22.1 < (a0.length : Int)) then (idx a0 s22.1).bind fun v26 => (app 4398046511104 s22.2 v26).bind fun v28 => some (.cont ((w64 (s22.1 + 1)), v28)) else some (.out s22.2))
noncomputable def slices_Concat_api_Field_api_Field (a0 : List (List TField)) : Option (List TField) :=
  (iter (slices_Concat_api_Field_api_Field_l1 a0) ((0, 0))).bind fun b2 => (bif decide (b2 < 0) then none else (bif decide (0 < (w64 (b2 - (w64 (0 - 0))))) then (zrep 4398046511104 ((w64 (b2 - (w64 (0 - 0))))) ((TField.mk (([] : Str)) (([] : Str))) : TField)).bind fun v10 => (cut v10 0 0).bind fun v12 => (iter (slices_Concat_api_Field_api_Field_l2 a0) ((0, v12))).bind fun b15 => some b15 else (iter (slices_Concat_api_Field_api_Field_l3 a0) ((0, ([] : List TField)))).bind fun b23 => some b23))
noncomputable def trace_Front (a0 : TMessage) (a1 : Str) (a2 : Str) : Option TMessage :=
  (slices_Concat_api_Field_api_Field (([([(TField.mk a1 a2)] : List TField), a0.Fields] : List (List TField)))).bind fun v1 => ((nilE a0.Body.isEmpty (some ([])) ((app 140737488355328 ([] : List UInt8) a0.Body).bind fun v5 => some v5)) : Option (List UInt8)).bind fun (j3 : List UInt8) => some ((TMessage.mk v1 j3))
def forward_on_l2 (s3 : Int × (List TRecipient)) (v8 : Str) (s11 : Int) : Option (Step Int (Unit ⊕ Int)) :=
  (bif decide (s11 < (s3.2.length : Int)) then (idx s3.2 s11).bind fun v17 => (bif (v17.Address == v8) then some (.out (.inr s11)) else some (.cont (w64 (s11 + 1)))) else some (.out (.inl (()))))
noncomputable def forward_on_l1 (a0 : TForward) (s3 : Int × (List TRecipient)) : Option (Step (Int × (List TRecipient)) (List TRecipient)) :=
  (bif decide (s3.1 < (a0.To.length : Int)) then ((idx a0.To s3.1).bind fun v8 => ((iter (forward_on_l2 s3 v8) 0).bind (Sum.elim (fun b12 => some ((-1))) (fun b13 => some b13)) : Option Int).bind fun (j10 : Int) => (bif (!(decide (0 ≤ j10))) then (app 5864062014805 s3.2 (([(TRecipient.mk v8 0)] : List TRecipient))).bind fun v21 => some v21 else some s3.2) : Option (List TRecipient)).bind fun (j7 : List TRecipient) => some (.cont ((w64 (s3.1 + 1)), j7)) else some (.out s3.2))
noncomputable def forward_on (a0 : TForward) (a1 : TMail) : Option TMail :=
  (trace_Front a1.Message (([68, 101, 108, 105, 118, 101, 114, 101, 100, 45, 84, 111] : Str)) a0.Address).bind fun v1 => (iter (forward_on_l1 a0) ((0, ([] : List TRecipient)))).bind fun b4 => some ((TMail.mk ((TEnvelope.mk a1.Envelope.From b4 a1.Envelope.Id)) v1))
def forward_Step_k2 (s15 : Int × (List Str) × (List TMail) × (List Str)) (j21 : (List Str) × (List TMail) × (List Str)) : Option (Step (Int × (List Str) × (List TMail) × (List Str)) (((List Str) × (List TMail) × (List Str)) ⊕ ((List Str) × (List TMail) × (List Str) × TFault))) :=
  some (.cont ((w64 (s15.1 + 1)), j21.1, j21.2.1, j21.2.2))
noncomputable def forward_Step_k3 (a0 : List TForward) (a1 : TMail) (s15 : Int × (List Str) × (List TMail) × (List Str)) (v24 : Int) (j26 : List Str) : Option (Step (Int × (List Str) × (List TMail) × (List Str)) (((List Str) × (List TMail) × (List Str)) ⊕ ((List Str) × (List TMail) × (List Str) × TFault))) :=
  (idx a0 v24).bind fun v27 => (forward_on v27 a1).bind fun v29 => (message_Validate v29.Message).bind fun v31 => (basic_Failed v31).bind fun v33 => (bif v33 then (basic_Fault v31.Code ((-7))).bind fun v36 => some (.out (.inr ((([] : List Str), ([] : List TMail), ([] : List Str), v36)))) else (app 1353245080339 s15.2.2.1 (([v29] : List TMail))).bind fun v38 => (forward_Step_k2 s15 (s15.2.1, v38, j26)))
noncomputable def forward_Step_l1 (a0 : List TForward) (a1 : TMail) (v13 : (List Str) × TFault) (s15 : Int × (List Str) × (List TMail) × (List Str)) : Option (Step (Int × (List Str) × (List TMail) × (List Str)) (((List Str) × (List TMail) × (List Str)) ⊕ ((List Str) × (List TMail) × (List Str) × TFault))) :=
  (bif decide (s15.1 < (a1.Envelope.To.length : Int)) then (idx a1.Envelope.To s15.1).bind fun v22 => (forward_find a0 v22.Address).bind fun v24 => (bif decide (v24 < 0) then (app 8796093022208 s15.2.2.2 (([v22.Address] : List Str))).bind fun v41 => (forward_Step_k2 s15 (s15.2.1, s15.2.2.1, v41)) else (slices_Contains_string_string v13.1 v22.Address).bind fun v43 => (bif v43 then (app 8796093022208 s15.2.1 (([v22.Address] : List Str))).bind fun v46 => (forward_Step_k2 s15 (v46, s15.2.2.1, s15.2.2.2)) else (idx a0 v24).bind fun v48 => (bif v48.Keep then (app 8796093022208 s15.2.2.2 (([v22.Address] : List Str))).bind fun v51 => (forward_Step_k3 a0 a1 s15 v24 v51) else (forward_Step_k3 a0 a1 s15 v24 s15.2.2.2)))) else some (.out (.inl ((s15.2.1, s15.2.2.1, s15.2.2.2)))))
noncomputable def forward_Step (a0 : List TForward) (a1 : TMail) : Option ((List Str) × (List TMail) × (List Str) × TFault) :=
  (forward_Validate a0).bind fun v1 => (basic_Failed v1).bind fun v3 => (bif v3 then some ((([] : List Str), ([] : List TMail), ([] : List Str), v1)) else (envelope_Check a1).bind fun v6 => (basic_Failed v6).bind fun v8 => (bif v8 then (basic_Fault v6.Code ((-6))).bind fun v11 => some ((([] : List Str), ([] : List TMail), ([] : List Str), v11)) else (header_Get a1.Message.Fields (([68, 101, 108, 105, 118, 101, 114, 101, 100, 45, 84, 111] : Str))).bind fun v13 => (iter (forward_Step_l1 a0 a1 v13) ((0, ([] : List Str), ([] : List TMail), ([] : List Str)))).bind (Sum.elim (fun b16 => (basic_None).bind fun v53 => some ((b16.2.2, b16.2.1, b16.1, v53))) (fun b17 => some ((b17.1, b17.2.1, b17.2.2.1, b17.2.2.2))))))
def forward_Tree_l1 (v11 : List TAlias) (s13 : Int × (List (Str × (List Str)))) : Option (Step (Int × (List (Str × (List Str)))) (List (Str × (List Str)))) :=
  (bif decide (s13.1 < (v11.length : Int)) then (idx v11 s13.1).bind fun v17 => some (.cont ((w64 (s13.1 + 1)), (mput s13.2 v17.Address v17.To))) else some (.out s13.2))
def forward_Tree_l2 (a1 : Str) (s19 : Int × (List Str) × (List (Str × Bool))) : Option (Step (Int × (List Str) × (List (Str × Bool))) ((List Str) × (List (Str × Bool)))) :=
  (bif decide (s19.1 < ((([a1] : List Str)).length : Int)) then ((idx (([a1] : List Str)) s19.1).bind fun v24 => (bif (!(((mget s19.2.2 v24).getD false))) then (app 8796093022208 s19.2.1 (([v24] : List Str))).bind fun v27 => some ((v27, (mput s19.2.2 v24 true))) else some ((s19.2.1, s19.2.2))) : Option ((List Str) × (List (Str × Bool)))).bind fun (j23 : (List Str) × (List (Str × Bool))) => some (.cont ((w64 (s19.1 + 1)), j23.1, j23.2)) else some (.out ((s19.2.1, s19.2.2))))
def forward_Tree_l4 (b14 : List (Str × (List Str))) (v33 : Str) (s46 : Int × (List Str) × (List (Str × Bool))) : Option (Step (Int × (List Str) × (List (Str × Bool))) ((List Str) × (List (Str × Bool)))) :=
  (bif decide (s46.1 < ((((mget b14 v33).getD (([] : List Str)))).length : Int)) then ((idx (((mget b14 v33).getD (([] : List Str)))) s46.1).bind fun v51 => (bif (!(((mget s46.2.2 v51).getD false))) then (app 8796093022208 s46.2.1 (([v51] : List Str))).bind fun v54 => some ((v54, (mput s46.2.2 v51 true))) else some ((s46.2.1, s46.2.2))) : Option ((List Str) × (List (Str × Bool)))).bind fun (j50 : (List Str) × (List (Str × Bool))) => some (.cont ((w64 (s46.1 + 1)), j50.1, j50.2)) else some (.out ((s46.2.1, s46.2.2))))
def forward_Tree_l5 (b14 : List (Str × (List Str))) (v33 : Str) (s56 : Int × (List Str) × (List (Str × Bool))) : Option (Step (Int × (List Str) × (List (Str × Bool))) ((List Str) × (List (Str × Bool)))) :=
  (bif decide (s56.1 < ((((mget b14 v33).getD (([] : List Str)))).length : Int)) then ((idx (((mget b14 v33).getD (([] : List Str)))) s56.1).bind fun v61 => (bif (!(((mget s56.2.2 v61).getD false))) then (app 8796093022208 s56.2.1 (([v61] : List Str))).bind fun v64 => some ((v64, (mput s56.2.2 v61 true))) else some ((s56.2.1, s56.2.2))) : Option ((List Str) × (List (Str × Bool)))).bind fun (j60 : (List Str) × (List (Str × Bool))) => some (.cont ((w64 (s56.1 + 1)), j60.1, j60.2)) else some (.out ((s56.2.1, s56.2.2))))
noncomputable def forward_Tree_l3 (a0 : List TForward) (b14 : List (Str × (List Str))) (s29 : (List Str) × (List (Str × Bool)) × (List Str)) : Option (Step ((List Str) × (List (Str × Bool)) × (List Str)) (List Str)) :=
  (bif decide (0 < (s29.1.length : Int)) then (idx s29.1 0).bind fun v33 => (cut s29.1 1 ((s29.1.length : Int))).bind fun v35 => (forward_find a0 v33).bind fun v37 => ((bif decide (v37 < 0) then some true else (idx a0 v37).bind fun v41 => some v41.Keep) : Option Bool).bind fun (j39 : Bool) => (bif j39 then (app 8796093022208 s29.2.2 (([v33] : List Str))).bind fun v44 => (iter (forward_Tree_l4 b14 v33) ((0, v35, s29.2.1))).bind fun b47 => some (.cont (b47.1, b47.2, v44)) else (iter (forward_Tree_l5 b14 v33) ((0, v35, s29.2.1))).bind fun b57 => some (.cont (b57.1, b57.2, s29.2.2))) else some (.out s29.2.2))
noncomputable def forward_Tree (a0 : List TForward) (a1 : Str) : Option ((List Str) × TFault) :=
  (forward_Validate a0).bind fun v1 => (basic_Failed v1).bind fun v3 => (bif v3 then some (([], v1)) else (envelope_Address a1).bind fun v6 => (bif (!v6) then (basic_Fault 10 ((-2))).bind fun v9 => some (([], v9)) else (forward_aliases a0).bind fun v11 => (iter (forward_Tree_l1 v11) ((0, ([] : List (Str × (List Str)))))).bind fun b14 => (iter (forward_Tree_l2 a1) ((0, ([] : List Str), ([] : List (Str × Bool))))).bind fun b20 => (iter (forward_Tree_l3 a0 b14) ((b20.1, b20.2, ([] : List Str)))).bind fun b30 => (basic_None).bind fun v66 => some ((b30, v66))))
def L_plain_l1 (a0 : List Str) (s1 : Int × (List TRecipient)) : Option (Step (Int × (List TRecipient)) (List TRecipient)) :=
  (bif decide (s1.1 < (a0.length : Int)) then (idx a0 s1.1).bind fun v5 => (app 5864062014805 s1.2 (([(TRecipient.mk v5 1)] : List TRecipient))).bind fun v7 => some (.cont ((w64 (s1.1 + 1)), v7)) else some (.out s1.2))
noncomputable def L_plain (a0 : List Str) : Option TMail :=
  (iter (L_plain_l1 a0) ((0, ([] : List TRecipient)))).bind fun b2 => some ((TMail.mk ((TEnvelope.mk (([115, 64, 120] : Str)) b2 (([55] : Str)))) ((TMessage.mk ([]) ([])))))
noncomputable def L_forwards  : Option Bool :=
  (forward_Tree (([(TForward.mk (([97, 64, 120] : Str)) (([([98, 64, 120] : Str)] : List Str)) true), (TForward.mk (([98, 64, 120] : Str)) (([([97, 64, 120] : Str), ([99, 64, 120] : Str)] : List Str)) false)] : List TForward)) (([97, 64, 120] : Str))).bind fun v1 => (L_plain (([([97, 64, 120] : Str), ([100, 64, 120] : Str)] : List Str))).bind fun v3 => (forward_Step (([(TForward.mk (([97, 64, 120] : Str)) (([([98, 64, 120] : Str)] : List Str)) true), (TForward.mk (([98, 64, 120] : Str)) (([([97, 64, 120] : Str), ([99, 64, 120] : Str)] : List Str)) false)] : List TForward)) v3).bind fun v5 => ((bif (v1.2.Code != 0) then some true else (bif (v5.2.2.2.Code != 0) then some true else (bif ((v5.2.1.length : Int) != 1) then some true else (bif ((v5.2.2.1.length : Int) != 0) then some true else (idx v5.2.1 0).bind fun v12 => (bif ((v12.Message.Fields.length : Int) != 1) then some true else (idx v5.2.1 0).bind fun v15 => some (((v15.Envelope.To.length : Int) != 1))))))) : Option Bool).bind fun (j7 : Bool) => (bif j7 then some false else ((R_Strings v1.1 (([([97, 64, 120] : Str), ([99, 64, 120] : Str)] : List Str))).bind fun v19 => (bif v19 then (R_Strings v5.1 (([([97, 64, 120] : Str), ([100, 64, 120] : Str)] : List Str))).bind fun v22 => (bif v22 then (idx v5.2.1 0).bind fun v25 => (idx v25.Message.Fields 0).bind fun v27 => (bif (allEq [(v27.Name == ([68, 101, 108, 105, 118, 101, 114, 101, 100, 45, 84, 111] : Str)), (v27.Value == ([97, 64, 120] : Str))]) then (idx v5.2.1 0).bind fun v30 => (idx v30.Envelope.To 0).bind fun v32 => some ((v32.Address == ([98, 64, 120] : Str))) else some false) else some false) else some false) : Option Bool).bind fun (j18 : Bool) => some j18)
def R_SameMessage_l1 (a0 : TMessage) (a1 : TMessage) (s4 : Int) : Option (Step Int (Unit ⊕ Bool)) :=
  (bif decide (s4 < (a0.Fields.length : Int)) then (idx a0.Fields s4).bind fun v10 => (idx a1.Fields s4).bind fun v12 => (bif (!(allEq [(v10.Name == v12.Name), (v10.Value == v12.Value)])) then some (.out (.inr false)) else some (.cont (w64 (s4 + 1)))) else some (.out (.inl (()))))
noncomputable def R_SameMessage (a0 : TMessage) (a1 : TMessage) : Option Bool :=
  ((bif ((a0.Fields.length : Int) != (a1.Fields.length : Int)) then some true else some ((a0.Body != a1.Body))) : Option Bool).bind fun (j1 : Bool) => (bif j1 then some false else (iter (R_SameMessage_l1 a0 a1) 0).bind (Sum.elim (fun b5 => some true) (fun b6 => some b6)))
noncomputable def L_ForwardChangesNoBody_l1 (a1 : TMail) (v1 : (List Str) × (List TMail) × (List Str) × TFault) (s12 : Int) : Option (Step Int (Unit ⊕ Bool)) :=
  (bif decide (s12 < (v1.2.1.length : Int)) then (idx v1.2.1 s12).bind fun v18 => ((bif ((v18.Message.Fields.length : Int) != (w64 ((a1.Message.Fields.length : Int) + 1))) then some true else (idx v1.2.1 s12).bind fun v22 => (bif (v22.Envelope.From != a1.Envelope.From) then some true else (idx v1.2.1 s12).bind fun v25 => (envelope_Check v25).bind fun v27 => some ((!(allEq [(v27.Code == 0), (v27.Index == 0)]))))) : Option Bool).bind fun (j20 : Bool) => (bif j20 then some (.out (.inr false)) else (cut v18.Message.Fields 1 ((v18.Message.Fields.length : Int))).bind fun v30 => (R_SameMessage ((TMessage.mk v30 v18.Message.Body)) a1.Message).bind fun v32 => (bif (!v32) then some (.out (.inr false)) else some (.cont (w64 (s12 + 1))))) else some (.out (.inl (()))))
noncomputable def L_ForwardChangesNoBody (a0 : List TForward) (a1 : TMail) : Option Bool :=
  (forward_Step a0 a1).bind fun v1 => ((L_forwards).bind fun v4 => (bif (!v4) then some true else some ((v1.2.2.2.Code != 0))) : Option Bool).bind fun (j3 : Bool) => (bif j3 then ((L_forwards).bind fun v9 => (bif v9 then some (((v1.2.1.length : Int) == 0)) else some false) : Option Bool).bind fun (j8 : Bool) => some j8 else (iter (L_ForwardChangesNoBody_l1 a1 v1) 0).bind (Sum.elim (fun b13 => some (decide ((v1.2.1.length : Int) ≤ (a1.Envelope.To.length : Int)))) (fun b14 => some b14)))
def L_ForwardStepsEnd_l1 (a0 : List TForward) (s14 : Int) : Option (Step Int (Unit ⊕ Bool)) :=
  (bif decide (s14 < (a0.length : Int)) then (idx a0 s14).bind fun v20 => (bif decide (3 < (v20.To.length : Int)) then some (.out (.inr true)) else some (.cont (w64 (s14 + 1)))) else some (.out (.inl (()))))
noncomputable def L_ForwardStepsEnd_l3 (v1 : (List Str) × TFault) (v36 : (List Str) × (List TMail) × (List Str) × TFault) (s39 : Int × (List Str)) : Option (Step (Int × (List Str)) ((List Str) ⊕ Bool)) :=
  (bif decide (s39.1 < (v36.1.length : Int)) then (idx v36.1 s39.1).bind fun v45 => (R_Has v1.1 v45).bind fun v47 => (bif (!v47) then some (.out (.inr false)) else (idx v36.1 s39.1).bind fun v50 => (app 8796093022208 s39.2 (([v50] : List Str))).bind fun v52 => some (.cont ((w64 (s39.1 + 1)), v52))) else some (.out (.inl s39.2)))
noncomputable def L_ForwardStepsEnd_l2 (a0 : List TForward) (v1 : (List Str) × TFault) (s25 : Int × (List Str) × (List TMail)) : Option (Step (Int × (List Str) × (List TMail)) ((List Str) ⊕ Bool)) :=
  (bif decide (s25.1 < (s25.2.2.length : Int)) then (bif decide (4000 < s25.1) then some (.out (.inr false)) else (idx s25.2.2 s25.1).bind fun v32 => (idx s25.2.2 s25.1).bind fun v34 => (forward_Step a0 v34).bind fun v36 => (bif (v36.2.2.2.Code != 0) then some (.out (.inr false)) else (iter (L_ForwardStepsEnd_l3 v1 v36) ((0, s25.2.1))).bind (Sum.elim (fun b40 => (app 1353245080339 s25.2.2 v36.2.1).bind fun v54 => some (.cont ((w64 (s25.1 + 1)), b40, v54))) (fun b41 => some (.out (.inr b41)))))) else some (.out (.inl s25.2.1)))
noncomputable def L_ForwardStepsEnd_l4 (v1 : (List Str) × TFault) (b26 : List Str) (s56 : Int) : Option (Step Int (Unit ⊕ Bool)) :=
  (bif decide (s56 < (v1.1.length : Int)) then (idx v1.1 s56).bind fun v62 => (R_Has b26 v62).bind fun v64 => (bif (!v64) then some (.out (.inr false)) else some (.cont (w64 (s56 + 1)))) else some (.out (.inl (()))))
noncomputable def L_ForwardStepsEnd (a0 : List TForward) (a1 : Str) : Option Bool :=
  (forward_Tree a0 a1).bind fun v1 => ((L_forwards).bind fun v4 => (bif (!v4) then some true else (bif (v1.2.Code != 0) then some true else some (decide (5 < (a0.length : Int))))) : Option Bool).bind fun (j3 : Bool) => (bif j3 then ((L_forwards).bind fun v10 => (bif v10 then (bif (v1.2.Code == 0) then some true else some (((v1.1.length : Int) == 0))) else some false) : Option Bool).bind fun (j9 : Bool) => some j9 else (iter (L_ForwardStepsEnd_l1 a0) 0).bind (Sum.elim (fun b15 => (L_plain (([a1] : List Str))).bind fun v23 => (iter (L_ForwardStepsEnd_l2 a0 v1) ((0, ([] : List Str), ([v23] : List TMail)))).bind (Sum.elim (fun b26 => (iter (L_ForwardStepsEnd_l4 v1 b26) 0).bind (Sum.elim (fun b57 => some true) (fun b58 => some b58))) (fun b27 => some b27))) (fun b16 => some b16)))
end Go.Proofs.Ytfhfjckjmacekaa

/- Functions of the program as Lean functions: what they compute. Written by program. -/
namespace Go.Proofs.Ytfhfjckjmacekaa
open Go.RowKit
set_option maxRecDepth 100000
set_option maxHeartbeats 40000000
set_option linter.unusedVariables false
noncomputable def L_EnvelopesOfDomainsJoin_l1 (a0 : TEnvelope) (v1 : (List Str) × TFault) (s12 : Int × (List TRecipient)) : Option (Step (Int × (List TRecipient)) ((List TRecipient) ⊕ Bool)) :=
  (bif decide (s12.1 < (v1.1.length : Int)) then (idx v1.1 s12.1).bind fun v18 => (envelope_For a0 v18).bind fun v20 => ((bif (v20.2.Code != 0) then some true else (envelope_Validate v20.1).bind fun v24 => some ((!(allEq [(v24.Code == 0), (v24.Index == 0)])))) : Option Bool).bind fun (j22 : Bool) => (bif j22 then some (.out (.inr false)) else (app 5864062014805 s12.2 v20.1.To).bind fun v27 => some (.cont ((w64 (s12.1 + 1)), v27))) else some (.out (.inl s12.2)))
noncomputable def L_EnvelopesOfDomainsJoin_l2 (a0 : TEnvelope) (b13 : List TRecipient) (s30 : Int) : Option (Step Int (Unit ⊕ Bool)) :=
  (bif decide (s30 < (a0.To.length : Int)) then (idx a0.To s30).bind fun v36 => (R_Known b13 v36.Address).bind fun v38 => ((bif decide (v38 < 0) then some true else (idx b13 v38).bind fun v42 => (idx b13 v38).bind fun v44 => (idx a0.To s30).bind fun v46 => some ((!(allEq [(v44.Address == v46.Address), (v44.Notify == v46.Notify)])))) : Option Bool).bind fun (j40 : Bool) => (bif j40 then some (.out (.inr false)) else some (.cont (w64 (s30 + 1)))) else some (.out (.inl (()))))
noncomputable def L_EnvelopesOfDomainsJoin (a0 : TEnvelope) : Option Bool :=
  (envelope_Domains a0).bind fun v1 => ((L_envelopes).bind fun v4 => (bif (!v4) then some true else some ((v1.2.Code != 0))) : Option Bool).bind fun (j3 : Bool) => (bif j3 then ((L_envelopes).bind fun v9 => (bif v9 then some (((v1.1.length : Int) == 0)) else some false) : Option Bool).bind fun (j8 : Bool) => some j8 else (iter (L_EnvelopesOfDomainsJoin_l1 a0 v1) ((0, ([] : List TRecipient)))).bind (Sum.elim (fun b13 => (bif ((b13.length : Int) != (a0.To.length : Int)) then some false else (iter (L_EnvelopesOfDomainsJoin_l2 a0 b13) 0).bind (Sum.elim (fun b31 => some true) (fun b32 => some b32)))) (fun b14 => some b14)))
end Go.Proofs.Ytfhfjckjmacekaa

/- Plain lemmas on the operations of typed functions: no program is named. -/
namespace Go.Proofs.Ytfhfjckjmacekaa
open Go.RowKit

theorem w64_nn (a b : Nat) (h : a + b ≤ 9223372036854775807) : w64 ((a : Int) + (b : Int)) = ((a + b : Nat) : Int) := by
  rw [w64_id (by omega) (by omega)]; simp
theorem w64_nl (a k : Nat) (h : a + OfNat.ofNat k ≤ 9223372036854775807) : w64 ((a : Int) + (no_index (OfNat.ofNat k : Int))) = ((a + OfNat.ofNat k : Nat) : Int) := by
  have e : (OfNat.ofNat k : Int) = ((OfNat.ofNat k : Nat) : Int) := rfl
  rw [e]; exact w64_nn a _ h
theorem w64_ns (a b : Nat) (h : b ≤ a) (ha : a ≤ 9223372036854775807) : w64 ((a : Int) - (b : Int)) = ((a - b : Nat) : Int) := by
  rw [w64_id (by omega) (by omega)]; omega
theorem w64_sl (a k : Nat) (h : OfNat.ofNat k ≤ a) (ha : a ≤ 9223372036854775807) : w64 ((a : Int) - (no_index (OfNat.ofNat k : Int))) = ((a - OfNat.ofNat k : Nat) : Int) := by
  have e : (OfNat.ofNat k : Int) = ((OfNat.ofNat k : Nat) : Int) := rfl
  rw [e]; exact w64_ns a _ h ha
theorem w64_n (a : Nat) (h : a ≤ 9223372036854775807) : w64 (a : Int) = (a : Int) := w64_id (by omega) (by omega)

theorem u8_eq (c : UInt8) (k : Nat) (hk : OfNat.ofNat k < 256) : ((c.toNat : Int) == no_index (OfNat.ofNat k : Int)) = (c == OfNat.ofNat k) := by
  have e : (OfNat.ofNat k : Int) = ((OfNat.ofNat k : Nat) : Int) := rfl
  have h2 : (OfNat.ofNat k : UInt8).toNat = (OfNat.ofNat k : Nat) := by
    show (UInt8.ofNat k).toNat = k
    rw [UInt8.toNat_ofNat']; exact Nat.mod_eq_of_lt hk
  rw [Bool.eq_iff_iff, beq_iff_eq, beq_iff_eq, ← UInt8.toNat_inj, h2, e]
  omega
theorem u8_ne (c : UInt8) (k : Nat) (hk : OfNat.ofNat k < 256) : ((c.toNat : Int) != no_index (OfNat.ofNat k : Int)) = (c != OfNat.ofNat k) := by
  unfold bne; rw [u8_eq c k hk]
section
variable {α : Type}
theorem idx_nat (l : List α) (i : Nat) : idx l (i : Int) = l[i]? := by unfold idx; rw [if_pos (by omega)]; simp
theorem idx_lit (l : List α) (k : Nat) : idx l (no_index (OfNat.ofNat k : Int)) = l[(OfNat.ofNat k : Nat)]? := idx_nat l k
theorem idx_lt {l : List α} {i : Nat} (h : i < l.length) : idx l (i : Int) = some l[i] := by rw [idx_nat]; exact List.getElem?_eq_getElem h
theorem idx_app (p : List α) (x : α) (r : List α) : idx (p ++ x :: r) (p.length : Int) = some x := by rw [idx_nat]; simp
theorem cut_nn {l : List α} {a b : Nat} (h1 : a ≤ b) (h2 : b ≤ l.length) : cut l (a : Int) (b : Int) = some ((l.drop a).take (b - a)) := by
  unfold cut; rw [if_pos (by omega)]; simp
theorem cut_nl {l : List α} {a : Nat} (h1 : a ≤ l.length) : cut l (a : Int) (l.length : Int) = some (l.drop a) := by
  rw [cut_nn h1 (Nat.le_refl _)]; rw [List.take_of_length_le (by simp)]
theorem cut_0n {l : List α} {b : Nat} (h2 : b ≤ l.length) : cut l 0 (b : Int) = some (l.take b) := by
  have := cut_nn (l := l) (a := 0) (b := b) (by omega) h2
  simpa using this
theorem cut_ll {l : List α} {k : Nat} (h1 : OfNat.ofNat k ≤ l.length) : cut l (no_index (OfNat.ofNat k : Int)) (l.length : Int) = some (l.drop (OfNat.ofNat k)) := cut_nl (a := k) h1
theorem cut_0l {l : List α} {k : Nat} (h1 : OfNat.ofNat k ≤ l.length) : cut l 0 (no_index (OfNat.ofNat k : Int)) = some (l.take (OfNat.ofNat k)) := cut_0n (b := k) h1
theorem app_ok {lim : Nat} {l xs : List α} (h : l.length + xs.length ≤ lim) : app lim l xs = some (l ++ xs) := by unfold app; rw [if_pos h]
theorem cat_ok {a b : Str} (h : a.length + b.length ≤ 9223372036854775807) : cat a b = some (a ++ b) := by unfold cat; rw [if_pos h]
end

section
variable {A R : Type} {body : A → Option (Step A R)}
/-- a loop that ends, by an invariant and a measure -/
theorem iter_rec (Inv : A → Prop) (m : A → Nat) (Post : A → R → Prop)
    (h : ∀ s, Inv s → (∃ r, body s = some (.out r) ∧ Post s r) ∨ ∃ s', body s = some (.cont s') ∧ Inv s' ∧ m s' < m s ∧ ∀ r, Post s' r → Post s r) :
    ∀ s, Inv s → ∃ r, iter body s = some r ∧ Post s r := by
  intro s
  induction hn : m s using Nat.strongRecOn generalizing s with
  | _ n ih =>
    intro hi
    rcases h s hi with ⟨r, h1, h2⟩ | ⟨s', h1, h2, h3, h4⟩
    · exact ⟨r, iter_out h1, h2⟩
    · obtain ⟨r, h5, h6⟩ := ih (m s') (by omega) s' rfl h2
      exact ⟨r, (iter_cont h1).trans h5, h4 r h6⟩
/-- a loop that goes through a list, with an accumulator -/
theorem iter_list {α S : Type} (l : List α) (enc : Nat → S → A) (spec : Nat → List α → S → R)
    (h0 : ∀ s, body (enc l.length s) = some (.out (spec l.length [] s)))
    (h1 : ∀ p x r s, l = p ++ x :: r → (body (enc p.length s) = some (.out (spec p.length (x :: r) s))) ∨ ∃ s', body (enc p.length s) = some (.cont (enc (p.length + 1) s')) ∧ spec p.length (x :: r) s = spec (p.length + 1) r s') :
    ∀ {s0 : A} (s : S) (_ : s0 = enc 0 s), iter body s0 = some (spec 0 l s) := by
  have key : ∀ r p s, l = p ++ r → iter body (enc p.length s) = some (spec p.length r s) := by
    intro r
    induction r with
    | nil =>
      intro p s h
      have : p = l := by simp [h]
      subst this
      exact iter_out (h0 s)
    | cons x r ih =>
      intro p s h
      rcases h1 p x r s h with hb | ⟨s', hb, hs⟩
      · exact iter_out hb
      · rw [iter_cont hb, hs]
        have := ih (p ++ [x]) s' (by simp [h])
        simpa using this
  rintro _ s rfl
  exact key l [] s rfl
/-- the same, with an invariant -/
theorem iter_listI {α S : Type} (l : List α) (enc : Nat → S → A) (spec : Nat → List α → S → R) (Inv : Nat → List α → S → Prop)
    (h0 : ∀ s, Inv l.length [] s → body (enc l.length s) = some (.out (spec l.length [] s)))
    (h1 : ∀ p x r s, l = p ++ x :: r → Inv p.length (x :: r) s → (body (enc p.length s) = some (.out (spec p.length (x :: r) s))) ∨ ∃ s', body (enc p.length s) = some (.cont (enc (p.length + 1) s')) ∧ spec p.length (x :: r) s = spec (p.length + 1) r s' ∧ Inv (p.length + 1) r s') :
    ∀ {s0 : A} (s : S) (_ : s0 = enc 0 s) (_ : Inv 0 l s), iter body s0 = some (spec 0 l s) := by
  have key : ∀ r p s, l = p ++ r → Inv p.length r s → iter body (enc p.length s) = some (spec p.length r s) := by
    intro r
    induction r with
    | nil =>
      intro p s h hi
      have : p = l := by simp [h]
      subst this
      exact iter_out (h0 s hi)
    | cons x r ih =>
      intro p s h hi
      rcases h1 p x r s h hi with hb | ⟨s', hb, hs, hi'⟩
      · exact iter_out hb
      · rw [iter_cont hb, hs]
        have := ih (p ++ [x]) s' (by simp [h]) (by simpa using hi')
        simpa using this
  rintro _ s rfl hi
  exact key l [] s rfl hi
theorem lt_mid {α : Type} (p : List α) (x : α) (r : List α) : decide ((p.length : Int) < ((p ++ x :: r).length : Int)) = true := by simp; omega
theorem getElem_mid {α : Type} (p : List α) (x : α) (r : List α) : (p ++ x :: r)[p.length]? = some x := by simp
end
end Go.Proofs.Ytfhfjckjmacekaa

/- Plain lemmas on loops of typed functions: first hits, folds. No program is named. -/
namespace Go.Proofs.Ytfhfjckjmacekaa
open Go.RowKit
section
variable {α R O A S : Type}
/-- the first hit, with its number -/
def firstI (q : Nat → α → Option R) : Nat → List α → Option R
  | _, [] => none
  | i, x :: r => match q i x with | some y => some y | none => firstI q (i + 1) r
theorem iter_first (l : List α) (q : Nat → α → Option R) (oN : O) (oS : R → O) {body : Int → Option (Step Int O)} (hl : body (l.length : Int) = some (.out oN))
    (hs : ∀ (i : Nat) x, l[i]? = some x → body (i : Int) = some ((q i x).elim (.cont ((i + 1 : Nat) : Int)) fun r => .out (oS r))) :
    iter body 0 = some ((firstI q 0 l).elim oN oS) := by
  have key : ∀ r p, l = p ++ r → iter body (p.length : Int) = some ((firstI q p.length r).elim oN oS) := by
    intro r
    induction r with
    | nil => intro p h; have : p = l := by simp [h]
             subst this; exact iter_out hl
    | cons x r ih =>
      intro p h
      have hx := hs p.length x (by simp [h])
      unfold firstI
      cases hq : q p.length x with
      | some y => rw [hq] at hx; exact iter_out hx
      | none =>
        rw [hq] at hx
        rw [iter_cont hx]
        have := ih (p ++ [x]) (by simp [h])
        simpa using this
  exact key l [] rfl
/-- a loop with a counter and a state that goes on to its end -/
theorem iter_foldI (l : List α) (enc : Int → S → A) (f : Nat → S → α → S) (out : S → O) (Inv : Nat → S → Prop) {body : A → Option (Step A O)}
    (hl : ∀ s, Inv l.length s → body (enc l.length s) = some (.out (out s)))
    (hs : ∀ (i : Nat) x s, l[i]? = some x → Inv i s → body (enc i s) = some (.cont (enc ((i + 1 : Nat) : Int) (f i s x))) ∧ Inv (i + 1) (f i s x)) (s : S) (h0 : Inv 0 s) :
    ∃ t, iter body (enc 0 s) = some (out t) ∧ Inv l.length t ∧ t = (l.zipIdx.foldl (fun s p => f p.2 s p.1) s) := by
  have key : ∀ r p s, l = p ++ r → Inv p.length s → ∃ t, iter body (enc (p.length : Int) s) = some (out t) ∧ Inv l.length t ∧ t = ((r.zipIdx p.length).foldl (fun s p => f p.2 s p.1) s) := by
    intro r
    induction r with
    | nil => intro p s h hi; have : p = l := by simp [h]
             subst this; exact ⟨s, iter_out (hl s hi), hi, rfl⟩
    | cons x r ih =>
      intro p s h hi
      obtain ⟨h1, h2⟩ := hs p.length x s (by simp [h]) hi
      rw [iter_cont h1]
      obtain ⟨t, h3, h4, h5⟩ := ih (p ++ [x]) (f p.length s x) (by simp [h]) (by simpa using h2)
      refine ⟨t, by simpa using h3, h4, ?_⟩
      rw [h5]; simp
  exact key l [] s rfl h0
theorem foldl_zipIdx (f : S → α → S) (l : List α) : ∀ (n : Nat) (s : S), (l.zipIdx n).foldl (fun s p => f s p.1) s = l.foldl f s := by
  induction l with
  | nil => intro n s; rfl
  | cons x r ih => intro n s; simp [ih]
/-- the same, where the number does not matter -/
theorem iter_fold (l : List α) (enc : Int → S → A) (f : S → α → S) (out : S → O) (Inv : Nat → S → Prop) {body : A → Option (Step A O)}
    (hl : ∀ s, Inv l.length s → body (enc l.length s) = some (.out (out s)))
    (hs : ∀ (i : Nat) x s, l[i]? = some x → Inv i s → body (enc i s) = some (.cont (enc ((i + 1 : Nat) : Int) (f s x))) ∧ Inv (i + 1) (f s x)) (s : S) (h0 : Inv 0 s) :
    iter body (enc 0 s) = some (out (l.foldl f s)) ∧ Inv l.length (l.foldl f s) := by
  obtain ⟨t, h1, h2, h3⟩ := iter_foldI l enc (fun _ => f) out Inv hl hs s h0
  have : t = l.foldl f s := by rw [h3]; exact foldl_zipIdx f l 0 s
  subst this
  exact ⟨h1, h2⟩
theorem firstI_any (c : α → Bool) (r : R) (l : List α) (n : Nat) : firstI (fun _ x => if c x then some r else none) n l = if l.any c then some r else none := by
  induction l generalizing n with
  | nil => rfl
  | cons x l ih => unfold firstI; cases h : c x <;> simp [h, ih]
theorem firstI_none {q : Nat → α → Option R} {l : List α} {n : Nat} : firstI q n l = none ↔ ∀ (i : Nat) x, l[i]? = some x → q (n + i) x = none := by
  induction l generalizing n with
  | nil => simp [firstI]
  | cons x l ih =>
    unfold firstI
    cases h : q n x with
    | some y =>
      simp only [reduceCtorEq, false_iff]
      intro hh
      have := hh 0 x rfl
      rw [Nat.add_zero, h] at this; cases this
    | none =>
      rw [ih]
      constructor
      · intro hh i y hy
        cases i with
        | zero => simp at hy; subst hy; exact h
        | succ i => rw [show n + (i + 1) = n + 1 + i by omega]; exact hh i y (by simpa using hy)
      · intro hh i y hy
        rw [show n + 1 + i = n + (i + 1) by omega]; exact hh (i + 1) y (by simpa using hy)
theorem firstI_congr {q q' : Nat → α → Option R} {l : List α} {n : Nat} (h : ∀ (i : Nat) x, l[i]? = some x → q (n + i) x = q' (n + i) x) : firstI q n l = firstI q' n l := by
  induction l generalizing n with
  | nil => rfl
  | cons x l ih =>
    unfold firstI
    rw [show q n x = q' n x from h 0 x rfl, ih (fun i y hy => by rw [show n + 1 + i = n + (i + 1) by omega]; exact h (i + 1) y (by simpa using hy))]
theorem firstI_some {q : Nat → α → Option R} {l : List α} {n : Nat} {r : R} (h : firstI q n l = some r) : ∃ (i : Nat) (x : α), l[i]? = some x ∧ q (n + i) x = some r := by
  induction l generalizing n with
  | nil => cases h
  | cons x l ih =>
    unfold firstI at h
    cases hq : q n x with
    | some y => rw [hq] at h; cases h; exact ⟨0, x, rfl, hq⟩
    | none =>
      rw [hq] at h
      obtain ⟨i, y, h1, h2⟩ := ih h
      exact ⟨i + 1, y, by simpa using h1, by rw [show n + (i + 1) = n + 1 + i by omega]; exact h2⟩
theorem lt_get {l : List α} {i : Nat} {x : α} (h : l[i]? = some x) : i < l.length := (List.getElem?_eq_some_iff.1 h).1
theorem dec_lt {l : List α} {i : Nat} {x : α} (h : l[i]? = some x) : decide ((i : Int) < (l.length : Int)) = true := by have := lt_get h; simp; omega
theorem dec_len (l : List α) : decide ((l.length : Int) < (l.length : Int)) = false := by simp
theorem idx_get {l : List α} {i : Nat} {x : α} (h : l[i]? = some x) : idx l (i : Int) = some x := by rw [idx_nat]; exact h
end
end Go.Proofs.Ytfhfjckjmacekaa

/- Domains and addresses: the plain functions, and what the typed functions compute. -/
namespace Go.Proofs.Ytfhfjckjmacekaa
open Go.RowKit
set_option linter.unusedVariables false
set_option maxHeartbeats 1000000

def lettC (c : UInt8) : Bool := (decide (97 ≤ c) && decide (c ≤ 122)) || (decide (65 ≤ c) && decide (c ≤ 90)) || (decide (48 ≤ c) && decide (c ≤ 57))
def smallC (c : UInt8) : Bool := (decide (97 ≤ c) && decide (c ≤ 122)) || (decide (48 ≤ c) && decide (c ≤ 57)) || c == 45 || c == 46
def goodC (c : UInt8) : Bool := lettC c || c == 45 || c == 95 || c == 46 || c == 43 || c == 61
/-- no dot at the front or behind a dot (p: there is one, or the front), none at the end -/
def dotsOk : Bool → Str → Bool
  | p, [] => !p
  | p, c :: r => if c = 46 then !p && dotsOk true r else dotsOk false r
def domP (s : Str) : Bool := decide (s.length ≤ 60) && s.all smallC && dotsOk true s
def atP (s : Str) : Nat := s.findIdx (· == 64)
def addrP (s : Str) : Bool := decide (atP s < s.length) && decide (1 ≤ atP s) && decide (atP s ≤ 60) && (s.take (atP s)).all goodC && domP (s.drop (atP s + 1))

theorem u8_le (a c : UInt8) : decide ((a.toNat : Int) ≤ (c.toNat : Int)) = decide (a ≤ c) := by
  rw [Bool.eq_iff_iff]; simp [UInt8.le_iff_toNat_le]
theorem u8_le1 (k : Nat) (c : UInt8) (hk : OfNat.ofNat k < 256) : decide ((no_index (OfNat.ofNat k : Int)) ≤ (c.toNat : Int)) = decide ((OfNat.ofNat k : UInt8) ≤ c) := by
  have e : (OfNat.ofNat k : Int) = ((OfNat.ofNat k : Nat) : Int) := rfl
  have h2 : (OfNat.ofNat k : UInt8).toNat = (OfNat.ofNat k : Nat) := by
    show (UInt8.ofNat k).toNat = k
    rw [UInt8.toNat_ofNat']; exact Nat.mod_eq_of_lt hk
  rw [Bool.eq_iff_iff, decide_eq_true_eq, decide_eq_true_eq, UInt8.le_iff_toNat_le, h2, e]; omega
theorem u8_le2 (k : Nat) (c : UInt8) (hk : OfNat.ofNat k < 256) : decide ((c.toNat : Int) ≤ (no_index (OfNat.ofNat k : Int))) = decide (c ≤ (OfNat.ofNat k : UInt8)) := by
  have e : (OfNat.ofNat k : Int) = ((OfNat.ofNat k : Nat) : Int) := rfl
  have h2 : (OfNat.ofNat k : UInt8).toNat = (OfNat.ofNat k : Nat) := by
    show (UInt8.ofNat k).toNat = k
    rw [UInt8.toNat_ofNat']; exact Nat.mod_eq_of_lt hk
  rw [Bool.eq_iff_iff, decide_eq_true_eq, decide_eq_true_eq, UInt8.le_iff_toNat_le, h2, e]; omega

theorem R_In_eq (a b c : Int) : R_In a b c = some (decide (b ≤ a) && decide (a ≤ c)) := by
  unfold R_In; cases decide (b ≤ a) <;> rfl
theorem R_letterOrDigit_eq (c : UInt8) : R_letterOrDigit c = some (lettC c) := by
  unfold R_letterOrDigit lettC
  simp only [R_In_eq, Option.bind_some, u8_le1 97 c (by decide), u8_le2 122 c (by decide), u8_le1 65 c (by decide), u8_le2 90 c (by decide), u8_le1 48 c (by decide), u8_le2 57 c (by decide)]
  generalize (decide ((97 : UInt8) ≤ c) && decide (c ≤ 122)) = x
  generalize (decide ((65 : UInt8) ≤ c) && decide (c ≤ 90)) = y
  cases x <;> cases y <;> simp
theorem basic_Letter_eq (c : UInt8) : basic_Letter c = some (lettC c) := by
  unfold basic_Letter lettC
  simp only [u8_le1 97 c (by decide), u8_le2 122 c (by decide), u8_le1 65 c (by decide), u8_le2 90 c (by decide), u8_le1 48 c (by decide), u8_le2 57 c (by decide)]
  cases decide ((97 : UInt8) ≤ c) <;> cases decide (c ≤ 122) <;> cases decide ((65 : UInt8) ≤ c) <;> cases decide (c ≤ 90) <;> cases decide ((48 : UInt8) ≤ c) <;> cases decide (c ≤ 57) <;> rfl


/-! ### the reference's domains -/
/-- is there a dot, or the front, before place i? -/
def prevDot (s : Str) (i : Nat) : Bool := if i = 0 then true else s[i - 1]? == some 46
def domLoop : Bool → Str → Bool
  | _, [] => true
  | p, c :: r => if c = 46 then !p && !r.isEmpty && domLoop true r else smallC c && domLoop false r
theorem domLoop_cons (p : Bool) (c : UInt8) (r : Str) : domLoop p (c :: r) = if c = 46 then !p && !r.isEmpty && domLoop true r else smallC c && domLoop false r := rfl
theorem domLoop_eq (s : Str) (p : Bool) (h : s ≠ [] ∨ p = false) : domLoop p s = (s.all smallC && dotsOk p s) := by
  induction s generalizing p with
  | nil => simp [domLoop, dotsOk]; rcases h with h | h <;> simp_all
  | cons c r ih =>
    unfold domLoop dotsOk
    by_cases hc : c = 46
    · subst hc
      simp only [if_true, List.all_cons, show smallC 46 = true by decide, Bool.true_and]
      cases r with
      | nil => simp [dotsOk]
      | cons d r =>
        rw [ih true (.inl (by simp))]
        cases p <;> simp
    · rw [if_neg hc, if_neg hc]
      rw [ih false (.inr rfl), List.all_cons, Bool.and_assoc]
theorem R_DomainOk_loop (s : Str) (hs : s.length ≤ 9223372036854775806) : iter (R_DomainOk_l1 s) 0 = some (if domLoop true s then .inl () else .inr false) := by
  have := iter_list (body := R_DomainOk_l1 s) s (fun i (_ : Unit) => (i : Int)) (fun i r _ => if domLoop (prevDot s i) r then .inl () else .inr false) (fun _ => by
      unfold R_DomainOk_l1
      rw [dec_len]; simp [domLoop]) (fun p c r _ h => ?_) (s0 := 0) () rfl
  · simpa [prevDot] using this
  · have hc : s[p.length]? = some c := by simp [h]
    have hidx := idx_get hc
    have hlen : s.length = p.length + r.length + 1 := by rw [h]; simp; omega
    have e1 : w64 ((s.length : Int) - 1) = ((s.length - 1 : Nat) : Int) := by rw [w64_id (by omega) (by omega)]; omega
    have e2 : w64 ((p.length : Int) + 1) = ((p.length + 1 : Nat) : Int) := by rw [show ((p.length : Int) + 1) = ((p.length + 1 : Nat) : Int) by omega, w64_n _ (by omega)]
    have hbody : R_DomainOk_l1 s (p.length : Int) = some (if c = 46 then (if prevDot s p.length || r.isEmpty then .out (.inr false) else .cont ((p.length + 1 : Nat) : Int)) else if smallC c then .cont ((p.length + 1 : Nat) : Int) else .out (.inr false)) := by
      unfold R_DomainOk_l1
      rw [dec_lt hc, hidx]
      simp only [cond_true, Option.bind_some, R_In_eq, u8_eq c 46 (by decide), u8_ne c 45 (by decide), u8_ne c 46 (by decide), u8_le1 97 c (by decide), u8_le2 122 c (by decide), u8_le1 48 c (by decide), u8_le2 57 c (by decide), e1, e2]
      by_cases h46 : c = 46
      · subst h46
        have hsm : (!(decide ((97 : UInt8) ≤ 46) && decide ((46 : UInt8) ≤ 122))) = true := by decide
        have hsm2 : (!(decide ((48 : UInt8) ≤ 46) && decide ((46 : UInt8) ≤ 57))) = true := by decide
        simp only [beq_self_eq_true, cond_true, hsm, hsm2, if_true, bne_self_eq_false]
        by_cases h0 : p.length = 0
        · simp [h0, prevDot]
        · have h0' : ((p.length : Int) == 0) = false := by rw [beq_eq_false_iff_ne]; omega
          by_cases hl : r = []
          · subst hl
            have : ((p.length : Int) == ((s.length - 1 : Nat) : Int)) = true := by rw [hlen]; simp
            simp [h0', this]
          · have hr : r.isEmpty = false := by simpa using hl
            have hrl : 0 < r.length := List.length_pos_iff.2 hl
            have : ((p.length : Int) == ((s.length - 1 : Nat) : Int)) = false := by rw [hlen]; simp; omega
            have e3 : w64 ((p.length : Int) - 1) = ((p.length - 1 : Nat) : Int) := by rw [w64_id (by omega) (by omega)]; omega
            have hlt : p.length - 1 < s.length := by omega
            simp only [h0', this, cond_false, e3, idx_lt hlt, Option.bind_some, hr, Bool.or_false, prevDot, if_neg h0, List.getElem?_eq_getElem hlt]
            rw [u8_eq _ 46 (by decide)]
            by_cases hd : s[p.length - 1] = 46
            · simp [hd]
            · have : (s[p.length - 1] == 46) = false := by simpa using hd
              simp [this, hd]
      · have h1 : (c == 46) = false := by simpa using h46
        have h2 : (c != 46) = true := by simpa using h46
        simp only [h1, cond_false, if_neg h46, Option.bind_some, smallC, h2]
        by_cases ha : (decide ((97 : UInt8) ≤ c) && decide (c ≤ 122)) = true
        · simp [ha]
        · have ha : (decide ((97 : UInt8) ≤ c) && decide (c ≤ 122)) = false := by simpa using ha
          by_cases hb : (decide ((48 : UInt8) ≤ c) && decide (c ≤ 57)) = true
          · simp [ha, hb]
          · have hb : (decide ((48 : UInt8) ≤ c) && decide (c ≤ 57)) = false := by simpa using hb
            by_cases h45 : c = 45
            · subst h45; simp [ha, hb]
            · have : (c == 45) = false := by simpa using h45
              simp [ha, hb, this, bne]
    have hp1 : prevDot s (p.length + 1) = decide (c = 46) := by
      unfold prevDot
      simp only [Nat.add_sub_cancel, Nat.add_one_ne_zero, if_false, hc]
      rw [Bool.eq_iff_iff]; simp
    rw [hbody]
    rw [domLoop_cons]
    by_cases h46 : c = 46
    · subst h46
      simp only [if_true]
      cases hq : (prevDot s p.length || r.isEmpty) with
      | true =>
        left
        simp only [if_true]
        have : (!prevDot s p.length && !r.isEmpty && domLoop true r) = false := by
          cases hp : prevDot s p.length <;> simp_all
        rw [this]; rfl
      | false =>
        right
        refine ⟨(), rfl, ?_⟩
        have h3 : prevDot s p.length = false := by cases hp : prevDot s p.length <;> simp_all
        have h4 : r.isEmpty = false := by cases hp : r.isEmpty <;> simp_all
        rw [h3, h4, hp1]; simp
    · simp only [if_neg h46]
      cases hq : smallC c with
      | true => right; exact ⟨(), rfl, by rw [hp1]; simp [h46]⟩
      | false => left; simp
theorem dotsOk_nil (s : Str) : s = [] → dotsOk true s = false := by rintro rfl; rfl
theorem R_DomainOk_eq (s : Str) (hs : s.length ≤ 9223372036854775806) : R_DomainOk s = some (domP s) := by
  unfold R_DomainOk
  rw [R_DomainOk_loop s hs]
  by_cases hn : s = []
  · subst hn; simp [domLoop, R_In_eq, domP, dotsOk]
  · rw [domLoop_eq s true (.inl hn)]
    have hpos : 0 < s.length := List.length_pos_iff.2 hn
    unfold domP
    cases h : (s.all smallC && dotsOk true s) with
    | false =>
      rw [Bool.and_assoc, h]; simp
    | true =>
      rw [Bool.and_assoc, h]
      simp only [if_true, Option.bind_some, R_In_eq, Bool.and_true, Sum.elim_inl, Option.some.injEq]
      rw [Bool.eq_iff_iff]; simp; omega
/-! ### the reference's addresses -/
theorem R_sign_eq (s : Str) (hs : s.length ≤ 9223372036854775806) : R_sign s = some ((atP s : Nat) : Int) := by
  unfold R_sign
  rw [iter_first s (fun i c => if c == 64 then some (i : Int) else none) (.inl ()) .inr]
  · simp only [Option.bind_some]
    have key : ∀ (r : Str) (n : Nat), (firstI (fun i (c : UInt8) => if c == 64 then some (i : Int) else none) n r).getD ((n + r.length : Nat) : Int) = ((n + r.findIdx (· == 64) : Nat) : Int) := by
      intro r
      induction r with
      | nil => intro n; simp [firstI]
      | cons c r ih =>
        intro n
        unfold firstI
        rw [List.findIdx_cons]
        cases hc : (c == 64) with
        | true => simp
        | false =>
          simp only [Bool.false_eq_true, if_false, cond_false]
          have := ih (n + 1)
          rw [show n + (c :: r).length = n + 1 + r.length by simp; omega, show n + (r.findIdx (· == 64) + 1) = n + 1 + r.findIdx (· == 64) by omega]
          exact this
    have := key s 0
    rw [Nat.zero_add, Nat.zero_add] at this
    unfold atP
    rw [← this]
    cases firstI (fun i (c : UInt8) => if c == 64 then some (i : Int) else none) 0 s <;> rfl
  · unfold R_sign_l1; rw [dec_len]; rfl
  · intro i c hc
    unfold R_sign_l1
    have hi := lt_get hc
    rw [dec_lt hc, idx_get hc]
    simp only [cond_true, Option.bind_some, u8_eq c 64 (by decide)]
    cases c == 64 with
    | true => rfl
    | false =>
      simp only [cond_false, Bool.false_eq_true, if_false]
      rw [show ((i : Int) + 1) = ((i + 1 : Nat) : Int) by omega, w64_n _ (by omega)]; rfl
theorem R_AddressOk_eq (s : Str) (hs : s.length ≤ 9223372036854775806) : R_AddressOk s = some (addrP s) := by
  have hat : atP s ≤ s.length := List.findIdx_le_length
  unfold R_AddressOk
  rw [R_sign_eq s hs]
  simp only [Option.bind_some]
  have hloop : iter (R_AddressOk_l1 s (atP s : Int)) 0 = some ((firstI (fun _ c => if !goodC c then some false else none) 0 (s.take (atP s))).elim (.inl ()) .inr) := by
    refine iter_first (s.take (atP s)) _ (Sum.inl ()) Sum.inr ?_ ?_
    · have : ((s.take (atP s)).length : Int) = (atP s : Int) := by simp; omega
      unfold R_AddressOk_l1; rw [this]; simp
    · intro i c hc
      have hi := lt_get hc
      simp at hi
      have hc2 : s[i]? = some c := by rw [List.getElem?_take_of_lt (by omega)] at hc; exact hc
      unfold R_AddressOk_l1
      have : decide ((i : Int) < (atP s : Int)) = true := by simp; omega
      rw [this, idx_get hc2]
      simp only [cond_true, Option.bind_some, R_letterOrDigit_eq, u8_ne c 45 (by decide), u8_ne c 95 (by decide), u8_ne c 46 (by decide), u8_ne c 43 (by decide), u8_ne c 61 (by decide)]
      rw [show ((i : Int) + 1) = ((i + 1 : Nat) : Int) by omega, w64_n _ (by omega)]
      unfold goodC
      cases lettC c <;> cases h1 : (c == 45) <;> cases h2 : (c == 95) <;> cases h3 : (c == 46) <;> cases h4 : (c == 43) <;> cases h5 : (c == 61) <;> simp [bne, h1, h2, h3, h4, h5]
  rw [hloop, firstI_any]
  unfold addrP
  have hall : (s.take (atP s)).any (fun c => !goodC c) = !((s.take (atP s)).all goodC) := by simp [List.not_all_eq_any_not]
  rw [hall]
  cases hg : (s.take (atP s)).all goodC with
  | false => simp
  | true =>
    simp only [Bool.not_true, Bool.false_eq_true, if_false, Option.bind_some, R_In_eq, Bool.and_true]
    by_cases h1 : 1 ≤ atP s ∧ atP s ≤ 60
    · have e1 : (decide ((1 : Int) ≤ (atP s : Int)) && decide ((atP s : Int) ≤ 60)) = true := by simp; omega
      rw [e1]
      by_cases h2 : atP s < s.length
      · have e2 : decide ((atP s : Int) < (s.length : Int)) = true := by simp; omega
        rw [e2]
        simp only [cond_true]
        rw [show ((atP s : Int) + 1) = ((atP s + 1 : Nat) : Int) by omega, w64_n _ (by omega), cut_nl (by omega)]
        simp only [Option.bind_some]
        rw [R_DomainOk_eq _ (by simp; omega)]
        simp [h1, h2]
      · have e2 : decide ((atP s : Int) < (s.length : Int)) = false := by simp; omega
        rw [e2]; simp [h2]
    · have e1 : (decide ((1 : Int) ≤ (atP s : Int)) && decide ((atP s : Int) ≤ 60)) = false := by
        rw [Bool.eq_false_iff]; simp; omega
      rw [e1]
      simp only [cond_false, Option.bind_some]
      congr 1
      symm
      rcases Nat.lt_or_ge (atP s) 1 with h | h
      · have : decide (1 ≤ atP s) = false := by simp; omega
        rw [this]; simp
      · have : decide (atP s ≤ 60) = false := by simp; omega
        rw [this]; simp

/-! ### the program's domains and addresses -/
theorem dots_contains (s : Str) : ∀ p, dotsOk p s = (!(p && (s.isEmpty || s.head? == some 46)) && !(s.getLast? == some 46) && !Lib.contains s [46, 46]) := by
  induction s with
  | nil => intro p; cases p <;> simp [dotsOk, Lib.contains, Lib.index]
  | cons c r ih =>
    intro p
    have hcont : Lib.contains (c :: r) [46, 46] = ((c == 46 && r.head? == some 46) || Lib.contains r [46, 46]) := by
      unfold Lib.contains
      rw [Lib.index]
      have hpre : ([46, 46] : List UInt8).isPrefixOf (c :: r) = (c == 46 && r.head? == some 46) := by
        cases r with
        | nil => simp [List.isPrefixOf]
        | cons d r => simp only [List.isPrefixOf, List.head?_cons, Bool.and_true]; rw [Bool.eq_iff_iff]; simp; constructor <;> rintro ⟨rfl, rfl⟩ <;> exact ⟨rfl, rfl⟩
      rw [hpre]
      have hg := Lib.index_ge r [46, 46]
      cases c == 46 && r.head? == some 46 with
      | true => simp
      | false =>
        simp only [Bool.false_eq_true, if_false, Bool.false_or]
        by_cases h : Lib.index r [46, 46] = -1
        · simp [h]
        · have : (Lib.index r [46, 46] == -1) = false := by simpa using h
          rw [this]
          simp only [Bool.false_eq_true, if_false]
          rw [Bool.eq_iff_iff]; simp; omega
    rw [hcont, dotsOk]
    have hlast : (c :: r).getLast? = if r.isEmpty then some c else r.getLast? := by cases r <;> simp
    rw [hlast]
    by_cases hc : c = 46
    · subst hc
      rw [if_pos rfl, ih true]
      cases r with
      | nil => simp
      | cons d r => cases p <;> cases hd : (d == 46) <;> simp_all [Bool.and_comm, Bool.and_assoc, Bool.and_left_comm]
    · have h1 : (c == 46) = false := by simpa using hc
      have h2 : (some c == some (46 : UInt8)) = false := by simpa using hc
      rw [if_neg hc, ih false]
      cases r with
      | nil => simp [h1, h2, Lib.contains, Lib.index, hc]
      | cons d r => simp [h1, h2, hc]
theorem strings_HasPrefix_eq (s t : Str) : strings_HasPrefix s t = some (t.isPrefixOf s) := by
  unfold strings_HasPrefix internal_stringslite_HasPrefix
  by_cases h : t.length ≤ s.length
  · have : decide ((t.length : Int) ≤ (s.length : Int)) = true := by simp; omega
    rw [this, cut_0n h]
    simp only [cond_true, Option.bind_some, Option.some.injEq]
    rw [Bool.eq_iff_iff, beq_iff_eq, List.isPrefixOf_iff_prefix, List.prefix_iff_eq_take]
    constructor <;> exact fun h => h.symm
  · have : decide ((t.length : Int) ≤ (s.length : Int)) = false := by simp; omega
    rw [this]
    simp only [cond_false, Option.bind_some, Option.some.injEq]
    symm
    rw [Bool.eq_false_iff]
    intro hp
    exact h (List.isPrefixOf_iff_prefix.1 hp).length_le
theorem strings_HasSuffix_eq (s t : Str) (hs : s.length ≤ 9223372036854775806) : strings_HasSuffix s t = some (t.isSuffixOf s) := by
  unfold strings_HasSuffix internal_stringslite_HasSuffix
  by_cases h : t.length ≤ s.length
  · have : decide ((t.length : Int) ≤ (s.length : Int)) = true := by simp; omega
    rw [this, w64_ns _ _ h (by omega), cut_nl (by omega)]
    simp only [cond_true, Option.bind_some, Option.some.injEq]
    rw [Bool.eq_iff_iff, beq_iff_eq, List.isSuffixOf_iff_suffix, List.suffix_iff_eq_drop]
    constructor <;> exact fun h => h.symm
  · have : decide ((t.length : Int) ≤ (s.length : Int)) = false := by simp; omega
    rw [this]
    simp only [cond_false, Option.bind_some, Option.some.injEq]
    symm
    rw [Bool.eq_false_iff]
    intro hp
    exact h (List.isSuffixOf_iff_suffix.1 hp).length_le
theorem dom_char (c : UInt8) : ((bif decide ((97 : UInt8) ≤ c) then (bif decide (c ≤ 122) then some true else (bif decide ((48 : UInt8) ≤ c) then (bif decide (c ≤ 57) then some true else (bif (c == 45) then some true else some (c == 46))) else (bif (c == 45) then some true else some (c == 46)))) else (bif decide ((48 : UInt8) ≤ c) then (bif decide (c ≤ 57) then some true else (bif (c == 45) then some true else some (c == 46))) else (bif (c == 45) then some true else some (c == 46)))) : Option Bool) = some (smallC c) := by
  unfold smallC
  cases decide ((97 : UInt8) ≤ c) <;> cases decide (c ≤ 122) <;> cases decide ((48 : UInt8) ≤ c) <;> cases decide (c ≤ 57) <;> cases (c == 45) <;> rfl
theorem envelope_Domain_eq (s : Str) (hs : s.length < 4294967281) : envelope_Domain s = some (domP s) := by
  have hloop : iter (envelope_Domain_l1 s) 0 = some ((firstI (fun _ c => if !smallC c then some () else none) 0 s).elim (.inl ()) .inr) := by
    refine iter_first s _ (Sum.inl ()) Sum.inr ?_ ?_
    · unfold envelope_Domain_l1; rw [dec_len]; rfl
    · intro i c hc
      have hi := lt_get hc
      unfold envelope_Domain_l1
      rw [dec_lt hc, idx_get hc]
      simp only [cond_true, Option.bind_some, u8_eq c 45 (by decide), u8_eq c 46 (by decide), u8_le1 97 c (by decide), u8_le2 122 c (by decide), u8_le1 48 c (by decide), u8_le2 57 c (by decide), dom_char]
      rw [show ((i : Int) + 1) = ((i + 1 : Nat) : Int) by omega, w64_n _ (by omega)]
      cases smallC c <;> rfl
  unfold envelope_Domain domP
  rw [hloop, firstI_any, dots_contains]
  by_cases hn : s = []
  · subst hn; simp
  · have h1 : (s != ([] : Str)) = true := by simpa using hn
    rw [h1]
    simp only [cond_true]
    by_cases hl : s.length ≤ 60
    · have h2 : decide ((s.length : Int) ≤ 60) = true := by simp; omega
      rw [h2]
      have hall : s.any (fun c => !smallC c) = !(s.all smallC) := by simp [List.not_all_eq_any_not]
      rw [hall]
      cases hg : s.all smallC with
      | false => simp [hl]
      | true =>
        simp only [Bool.not_true, Bool.false_eq_true, if_false, Option.elim, Option.bind_some, cond_true, strings_HasPrefix_eq, strings_HasSuffix_eq s [46] (by omega), strings_Contains, if_pos hs]
        have hp : ([46] : Str).isPrefixOf s = (s.head? == some 46) := by
          cases s with
          | nil => rfl
          | cons d r => simp only [List.isPrefixOf, List.head?_cons, Bool.and_true]; rw [Bool.eq_iff_iff]; simp; exact ⟨fun h => h.symm, fun h => h.symm⟩
        have hsf : ([46] : Str).isSuffixOf s = (s.getLast? == some 46) := by
          rw [Bool.eq_iff_iff, List.isSuffixOf_iff_suffix, beq_iff_eq]
          constructor
          · rintro ⟨t, rfl⟩; simp
          · intro h
            obtain ⟨ys, rfl⟩ := List.getLast?_eq_some_iff.1 h
            exact ⟨ys, rfl⟩
        have he : s.isEmpty = false := by simpa using hn
        rw [hp, hsf, he]
        cases s.head? == some 46 <;> cases s.getLast? == some 46 <;> cases Lib.contains s [46, 46] <;> simp [hl]
    · have h2 : decide ((s.length : Int) ≤ 60) = false := by simp; omega
      rw [h2]; simp [hl]
theorem indexByte_atP (s : Str) : Lib.index s [64] = if atP s < s.length then (atP s : Int) else -1 := by
  rw [Lib.index_one]
  unfold atP
  induction s with
  | nil => rfl
  | cons c r ih =>
    rw [Lib.indexByte, List.findIdx_cons]
    cases hc : (c == 64) with
    | true => simp
    | false =>
      simp only [Bool.false_eq_true, if_false, cond_false, List.length_cons]
      rw [ih]
      by_cases h : r.findIdx (· == 64) < r.length
      · simp only [if_pos h, if_pos (show r.findIdx (· == 64) + 1 < r.length + 1 by omega)]
        have : (((r.findIdx (· == 64) : Nat) : Int) == -1) = false := by rw [beq_eq_false_iff_ne]; omega
        rw [this]; simp
      · simp only [if_neg h, if_neg (show ¬ (r.findIdx (· == 64) + 1 < r.length + 1) by omega)]; simp
theorem cut_at (s : Str) : Lib.cut s [64] = if atP s < s.length then (s.take (atP s), s.drop (atP s + 1), true) else (s, [], false) := by
  unfold Lib.cut
  rw [indexByte_atP]
  by_cases h : atP s < s.length
  · rw [if_pos h, if_pos h, if_pos (by omega)]; simp
  · rw [if_neg h, if_neg h, if_neg (by omega)]
def splitP (s : Str) : Str × Str × Bool := if atP s < s.length then (s.take (atP s), s.drop (atP s + 1), addrP s) else (s, [], false)
theorem good_char (c : UInt8) : (lettC c || decide (0 ≤ Lib.indexByte [45, 95, 46, 43, 61] c)) = goodC c := by
  unfold goodC
  by_cases h1 : c = 45
  · subst h1; decide
  by_cases h2 : c = 95
  · subst h2; decide
  by_cases h3 : c = 46
  · subst h3; decide
  by_cases h4 : c = 43
  · subst h4; decide
  by_cases h5 : c = 61
  · subst h5; decide
  rw [beq_eq_false_iff_ne.2 h1, beq_eq_false_iff_ne.2 h2, beq_eq_false_iff_ne.2 h3, beq_eq_false_iff_ne.2 h4, beq_eq_false_iff_ne.2 h5]
  simp [Lib.indexByte, Ne.symm h1, Ne.symm h2, Ne.symm h3, Ne.symm h4, Ne.symm h5]
theorem envelope_Split_eq (s : Str) (hs : s.length < 4294967281) : envelope_Split s = some (splitP s) := by
  have hloop : ∀ v : Str × Str × Bool, v.1.length < 4294967281 → iter (envelope_Split_l1 v) 0 = some ((firstI (fun _ c => if !goodC c then some () else none) 0 v.1).elim (.inl ()) .inr) := by
    intro v hv
    refine iter_first v.1 _ (Sum.inl ()) Sum.inr ?_ ?_
    · unfold envelope_Split_l1; rw [dec_len]; rfl
    · intro i c hc
      have hi := lt_get hc
      unfold envelope_Split_l1
      rw [dec_lt hc, idx_get hc]
      simp only [cond_true, Option.bind_some, basic_Letter_eq, strings_IndexByte]
      rw [show ((i : Int) + 1) = ((i + 1 : Nat) : Int) by omega, w64_n _ (by omega)]
      have hg := good_char c
      cases hl : lettC c with
      | true => rw [hl] at hg; simp only [Bool.true_or] at hg; rw [← hg]; rfl
      | false => rw [hl] at hg; simp only [Bool.false_or] at hg; rw [← hg]; cases decide (0 ≤ Lib.indexByte [45, 95, 46, 43, 61] c) <;> rfl
  unfold envelope_Split strings_Cut
  rw [if_pos hs, cut_at]
  simp only [Option.bind_some]
  unfold splitP
  by_cases h : atP s < s.length
  · simp only [if_pos h, cond_true]
    rw [hloop _ (by simp; omega), firstI_any]
    have hall : (s.take (atP s)).any (fun c => !goodC c) = !((s.take (atP s)).all goodC) := by simp [List.not_all_eq_any_not]
    simp only [hall]
    have hlen : (s.take (atP s)).length = atP s := by simp; omega
    rw [hlen, envelope_Domain_eq _ (by simp; omega)]
    unfold addrP
    by_cases h0 : atP s = 0
    · simp [h0]
    · have hne : (s.take (atP s) != ([] : Str)) = true := by
        simp only [bne_iff_ne, ne_eq]
        intro hx
        have := congrArg List.length hx
        rw [hlen] at this; simp at this; omega
      rw [hne]
      by_cases h60 : atP s ≤ 60
      · have e : decide ((atP s : Int) ≤ 60) = true := by simp; omega
        rw [e]
        cases (s.take (atP s)).all goodC <;> simp [h, h60] <;> omega
      · have e : decide ((atP s : Int) ≤ 60) = false := by simp; omega
        rw [e]; simp [h60]
  · simp [if_neg h]
theorem addrP_split (s : Str) : (splitP s).2.2 = addrP s := by
  unfold splitP
  by_cases h : atP s < s.length
  · rw [if_pos h]
  · rw [if_neg h]; unfold addrP; simp [h]
theorem envelope_Address_eq (s : Str) (hs : s.length < 4294967281) : envelope_Address s = some (addrP s) := by
  unfold envelope_Address; rw [envelope_Split_eq s hs]; simp [addrP_split]

/-! ### small things -/
theorem R_Has_eq (l : List Str) (s : Str) (hl : l.length ≤ 9223372036854775806) : R_Has l s = some (l.contains s) := by
  unfold R_Has
  rw [iter_first l (fun _ x => if x == s then some true else none) (.inl ()) .inr, firstI_any]
  · simp only [Option.bind_some]
    have : l.any (fun x => x == s) = l.contains s := by
      rw [Bool.eq_iff_iff]; simp
    rw [this]
    cases l.contains s <;> rfl
  · unfold R_Has_l1; rw [dec_len]; rfl
  · intro i x hx
    have hi := lt_get hx
    unfold R_Has_l1
    rw [dec_lt hx, idx_get hx]
    simp only [cond_true, Option.bind_some]
    rw [show ((i : Int) + 1) = ((i + 1 : Nat) : Int) by omega, w64_n _ (by omega)]
    cases x == s <;> rfl
theorem R_AddressesOk_eq (l : List Str) (hl : l.length ≤ 9223372036854775806) (hs : ∀ s ∈ l, s.length ≤ 9223372036854775806) : R_AddressesOk l = some (l.all addrP) := by
  unfold R_AddressesOk
  rw [iter_first l (fun _ x => if !addrP x then some false else none) (.inl ()) .inr, firstI_any]
  · simp only [Option.bind_some]
    have : l.any (fun x => !addrP x) = !l.all addrP := by simp [List.not_all_eq_any_not]
    rw [this]
    cases l.all addrP <;> rfl
  · unfold R_AddressesOk_l1; rw [dec_len]; rfl
  · intro i x hx
    have hi := lt_get hx
    unfold R_AddressesOk_l1
    rw [dec_lt hx, idx_get hx]
    simp only [cond_true, Option.bind_some, R_AddressOk_eq x (hs x (List.mem_of_getElem? hx))]
    rw [show ((i : Int) + 1) = ((i + 1 : Nat) : Int) by omega, w64_n _ (by omega)]
    cases addrP x <;> rfl
theorem R_Strings_eq (a b : List Str) (ha : a.length ≤ 9223372036854775806) : R_Strings a b = some (a == b) := by
  unfold R_Strings
  by_cases hlen : a.length = b.length
  · have h1 : ((a.length : Int) != (b.length : Int)) = false := by rw [hlen]; simp
    rw [h1]
    simp only [cond_false]
    rw [iter_first a (fun i x => if b[i]? != some x then some false else none) (.inl ()) .inr]
    · simp only [Option.bind_some]
      cases hf : firstI (fun i x => if b[i]? != some x then some false else none) 0 a with
      | none =>
        rw [firstI_none] at hf
        have : a = b := by
          apply List.ext_getElem?
          intro i
          by_cases hi : i < a.length
          · have := hf i a[i] (List.getElem?_eq_getElem hi)
            rw [Nat.zero_add] at this
            rw [List.getElem?_eq_getElem hi]
            simp at this; exact this.symm
          · rw [List.getElem?_eq_none (by omega), List.getElem?_eq_none (by omega)]
        subst this; simp
      | some r =>
        obtain ⟨i, x, hx, hq⟩ := firstI_some hf
        rw [Nat.zero_add] at hq
        split at hq
        · cases hq
          rename_i hne
          have : (a == b) = false := by
            rw [beq_eq_false_iff_ne]
            rintro rfl
            rw [hx] at hne; simp at hne
          rw [this]; rfl
        · cases hq
    · unfold R_Strings_l1; rw [dec_len]; rfl
    · intro i x hx
      have hi := lt_get hx
      unfold R_Strings_l1
      have hib : i < b.length := by omega
      rw [dec_lt hx, idx_get hx, idx_lt hib, List.getElem?_eq_getElem hib]
      simp only [cond_true, Option.bind_some]
      rw [show ((i : Int) + 1) = ((i + 1 : Nat) : Int) by omega, w64_n _ (by omega)]
      by_cases hxb : x = b[i]
      · subst hxb; simp
      · have e1 : (x != b[i]) = true := by simpa using hxb
        have e2 : (some b[i] != some x) = true := by simp; exact fun h => hxb h.symm
        rw [e1, e2]; rfl
  · have h1 : ((a.length : Int) != (b.length : Int)) = true := by simp; omega
    rw [h1]
    simp only [cond_true]
    have : (a == b) = false := by rw [beq_eq_false_iff_ne]; rintro rfl; exact hlen rfl
    rw [this]
end Go.Proofs.Ytfhfjckjmacekaa

/- Plain lemmas: bulk, counters, copying down in a list. No program is named. -/
namespace Go.Proofs.Ytfhfjckjmacekaa
open Go.RowKit
theorem first_idx {α : Type} (c : α → Bool) (l : List α) : ∀ n : Nat, decide ((0 : Int) ≤ (firstI (fun i x => if c x then some ((i : Nat) : Int) else none) n l).getD (-1)) = l.any c := by
  induction l with
  | nil => intro n; rfl
  | cons x l ih =>
    intro n
    unfold firstI
    cases hc : c x with
    | true => simp [hc]
    | false => simp only [Bool.false_eq_true, if_false, List.any_cons, hc, Bool.false_or]; exact ih (n + 1)
theorem elim_idx (o : Option Int) : Sum.elim (fun _ => some (-1)) (fun b => some b) (o.elim (Sum.inl ()) Sum.inr : Unit ⊕ Int) = some (o.getD (-1)) := by cases o <;> rfl
theorem sc (i : Nat) (h : i < 9223372036854775807) : w64 ((i : Int) + 1) = ((i + 1 : Nat) : Int) := by rw [show ((i : Int) + 1) = ((i + 1 : Nat) : Int) by omega, w64_n _ (by omega)]

theorem bkL_pos {T : Type} (bk : T → Nat) (l : List T) : 1 ≤ bkL bk l := by
  induction l with
  | nil => simp [bkL]
  | cons y l ih => unfold bkL; omega
theorem bkL_mem {T : Type} {bk : T → Nat} {l : List T} {x : T} (h : x ∈ l) : bk x + 1 ≤ bkL bk l := by
  induction l with
  | nil => cases h
  | cons y l ih =>
    unfold bkL
    have hp := bkL_pos bk l
    rcases List.mem_cons.1 h with rfl | h
    · omega
    · have := ih h; omega
theorem bkL_len {T : Type} {bk : T → Nat} (hb : ∀ x, 1 ≤ bk x) (l : List T) : l.length + 1 ≤ bkL bk l := by
  induction l with
  | nil => simp [bkL]
  | cons y l ih => unfold bkL; have := hb y; simp; omega

section
variable {α : Type}
/-- elements that do not go are copied down (slices.DeleteFunc) -/
theorem down_loop (q : α → Bool) (L0 : List α) (Pq : α → Prop) {body : Int × Int × List α → Option (Step (Int × Int × List α) (Int × List α))}
    (hend : ∀ i L, L.length = L0.length → body (i, (L0.length : Int), L) = some (.out (i, L)))
    (hstep : ∀ (i k : Nat) (L : List α) x, L.length = L0.length → L[k]? = some x → i ≤ k → Pq x → body ((i : Int), (k : Int), L) = some (.cont (if q x then ((i : Int), ((k + 1 : Nat) : Int), L) else (((i + 1 : Nat) : Int), ((k + 1 : Nat) : Int), L.set i x)))) :
    ∀ (r : List α) (i k : Nat) (L : List α), L.length = L0.length → L.drop k = r → i ≤ k → k ≤ L.length → (∀ x ∈ L, Pq x) → ∃ L', iter body ((i : Int), (k : Int), L) = some (((i + (r.filter fun x => !q x).length : Nat) : Int), L') ∧ L'.length = L0.length ∧ L'.take (i + (r.filter fun x => !q x).length) = L.take i ++ r.filter fun x => !q x := by
  intro r
  induction r with
  | nil =>
    intro i k L hl hd hik hk _
    have hkl : k = L.length := by
      have := congrArg List.length hd
      simp at this; omega
    subst hkl
    refine ⟨L, ?_, hl, by simp⟩
    rw [hl]
    simpa using iter_out (hend i L hl)
  | cons x r ih =>
    intro i k L hl hd hik hk hP
    have hlt : k < L.length := by
      have := congrArg List.length hd
      simp at this; omega
    have hx : L[k]? = some x := by
      have := List.getElem?_drop (xs := L) (i := k) (j := 0)
      rw [hd] at this
      simpa using this.symm
    have hd' : L.drop (k + 1) = r := by
      have := congrArg (List.drop 1) hd
      simpa [List.drop_drop, Nat.add_comm] using this
    have hs := hstep i k L x hl hx hik (hP x (List.mem_of_getElem? hx))
    cases hq : q x with
    | true =>
      rw [hq, if_pos rfl] at hs
      obtain ⟨L', h1, h2, h3⟩ := ih i (k + 1) L hl hd' (by omega) (by omega) hP
      refine ⟨L', (iter_cont hs).trans ?_, h2, ?_⟩
      · simpa [hq] using h1
      · simpa [hq] using h3
    | false =>
      rw [hq, if_neg (by simp)] at hs
      have hdr : (L.set i x).drop (k + 1) = r := by
        rw [List.drop_set_of_lt (by omega)]; exact hd'
      obtain ⟨L', h1, h2, h3⟩ := ih (i + 1) (k + 1) (L.set i x) (by simpa using hl) hdr (by omega) (by simp; omega) (fun y hy => by
        rcases List.mem_or_eq_of_mem_set hy with h | rfl
        · exact hP y h
        · exact hP _ (List.mem_of_getElem? hx))
      have hf : ((x :: r).filter fun x => !q x) = x :: r.filter fun x => !q x := by simp [hq]
      refine ⟨L', (iter_cont hs).trans ?_, h2, ?_⟩
      · rw [hf, h1]; simp only [List.length_cons]; congr 2; omega
      · rw [hf]
        have e : i + (x :: r.filter fun x => !q x).length = i + 1 + (r.filter fun x => !q x).length := by simp; omega
        rw [e, h3]
        have : (L.set i x).take (i + 1) = L.take i ++ [x] := by
          rw [List.take_add_one]
          have h5 : (L.set i x)[i]? = some x := List.getElem?_set_self (by omega)
          rw [h5, List.take_set_of_le (Nat.le_refl _)]; rfl
        rw [this]; simp
theorem filter_all_of_none {q : α → Bool} {l : List α} (h : ∀ x ∈ l, q x = false) : (l.filter fun x => !q x) = l := by
  rw [List.filter_eq_self]; intro x hx; rw [h x hx]; rfl
end
theorem mget_mputG {V : Type} (m : List (Str × V)) (k : Str) (v : V) (x : Str) : mget (mput m k v) x = if k == x then some v else mget m x := by
  induction m with
  | nil => rfl
  | cons p m ih =>
    obtain ⟨k', v'⟩ := p
    unfold mput
    by_cases h : k' = k
    · subst h
      simp only [beq_self_eq_true, if_true, mget]
      cases k' == x <;> simp
    · have h1 : (k' == k) = false := by simpa using h
      rw [h1]
      simp only [Bool.false_eq_true, if_false, mget]
      rw [ih]
      by_cases h2 : k' = x
      · subst h2
        have : (k == k') = false := by simpa using fun h' => h h'.symm
        simp [this]
      · have : (k' == x) = false := by simpa using h2
        rw [this]; simp

section
variable {α A S O : Type}
/-- a fold that begins in the midst of a list -/
theorem iter_foldFrom (l : List α) (enc : Int → S → A) (f : S → α → S) (out : S → O) (Inv : Nat → S → Prop) {body : A → Option (Step A O)}
    (hl : ∀ s, Inv l.length s → body (enc l.length s) = some (.out (out s)))
    (hs : ∀ (i : Nat) x s, l[i]? = some x → Inv i s → body (enc i s) = some (.cont (enc ((i + 1 : Nat) : Int) (f s x))) ∧ Inv (i + 1) (f s x)) :
    ∀ (r p : List α) (s : S), l = p ++ r → Inv p.length s → iter body (enc (p.length : Int) s) = some (out (r.foldl f s)) := by
  intro r
  induction r with
  | nil => intro p s h hi; have : p = l := by simp [h]
           subst this; exact iter_out (hl s hi)
  | cons x r ih =>
    intro p s h hi
    obtain ⟨h1, h2⟩ := hs p.length x s (by simp [h]) hi
    rw [iter_cont h1]
    have := ih (p ++ [x]) (f s x) (by simp [h]) (by simpa using h2)
    simpa using this
end
end Go.Proofs.Ytfhfjckjmacekaa

/- Envelopes: the plain functions, and what the typed functions compute. -/
namespace Go.Proofs.Ytfhfjckjmacekaa
open Go.RowKit
set_option linter.unusedVariables false
set_option maxHeartbeats 1000000

def nameC (c : UInt8) : Bool := lettC c || c == 45 || c == 95 || c == 46
def nameP (s : Str) : Bool := decide (1 ≤ s.length) && decide (s.length ≤ 60) && s.all nameC
theorem elim_unit_bool (o : Option Unit) (a b : Bool) : Sum.elim (fun _ => some a) (fun _ => some b) (o.elim (Sum.inl ()) Sum.inr : Unit ⊕ Unit) = some (bif o.isSome then b else a) := by cases o <;> rfl
theorem firstI_isSome {α R : Type} (c : α → Bool) (r : R) (l : List α) (n : Nat) : (firstI (fun _ x => if c x then some r else none) n l).isSome = l.any c := by
  rw [firstI_any]; cases l.any c <;> rfl
theorem not_all {α : Type} (l : List α) (p : α → Bool) : l.any (fun x => !p x) = !l.all p := by simp [List.not_all_eq_any_not]
theorem R_NameOk_eq (s : Str) (hs : s.length ≤ 1048576) : R_NameOk s = some (nameP s) := by
  unfold R_NameOk
  rw [iter_first s (fun _ c => if !nameC c then some false else none) (.inl ()) .inr, firstI_any, not_all]
  · simp only [Option.bind_some, R_In_eq]
    unfold nameP
    have e1 : decide ((1 : Int) ≤ (s.length : Int)) = decide (1 ≤ s.length) := by rw [Bool.eq_iff_iff]; simp; omega
    have e2 : decide ((s.length : Int) ≤ 60) = decide (s.length ≤ 60) := by rw [Bool.eq_iff_iff]; simp; omega
    rw [← e1, ← e2]
    cases s.all nameC <;> simp
  · unfold R_NameOk_l1; rw [dec_len]; rfl
  · intro i c hc
    have hi := lt_get hc
    unfold R_NameOk_l1
    rw [dec_lt hc, idx_get hc]
    simp only [cond_true, Option.bind_some, R_letterOrDigit_eq, u8_ne c 45 (by decide), u8_ne c 95 (by decide), u8_ne c 46 (by decide), sc i (by omega)]
    unfold nameC bne
    cases lettC c <;> cases (c == 45) <;> cases (c == 95) <;> cases (c == 46) <;> rfl
theorem basic_Name_eq (s : Str) (hs : s.length ≤ 1048576) : basic_Name s = some (nameP s) := by
  have hloop : iter (basic_Name_l1 s) 0 = some ((firstI (fun _ c => if !nameC c then some () else none) 0 s).elim (.inl ()) .inr) := by
    refine iter_first s _ (Sum.inl ()) Sum.inr ?_ ?_
    · unfold basic_Name_l1; rw [dec_len]; rfl
    · intro i c hc
      have hi := lt_get hc
      unfold basic_Name_l1
      rw [dec_lt hc, idx_get hc]
      simp only [cond_true, Option.bind_some, basic_Letter_eq, u8_eq c 45 (by decide), u8_eq c 95 (by decide), u8_eq c 46 (by decide), sc i (by omega)]
      unfold nameC
      cases lettC c <;> cases (c == 45) <;> cases (c == 95) <;> cases (c == 46) <;> rfl
  unfold basic_Name nameP
  rw [hloop]
  simp only [Option.bind_some, elim_unit_bool, firstI_isSome, not_all]
  by_cases hn : s = []
  · subst hn; rfl
  · have h1 : (s != ([] : Str)) = true := by simpa using hn
    have h2 : decide (1 ≤ s.length) = true := by have := List.length_pos_iff.2 hn; simp; omega
    have e2 : decide ((s.length : Int) ≤ 60) = decide (s.length ≤ 60) := by rw [Bool.eq_iff_iff]; simp; omega
    rw [h1, h2, e2]
    cases decide (s.length ≤ 60) <;> cases s.all nameC <;> rfl

/-! ### recipients, envelopes -/
def noteP (n : Int) : Bool := decide (0 ≤ n) && decide (n ≤ 7)
def recQ (l : List TRecipient) (i : Nat) (r : TRecipient) : Option TFault :=
  if !addrP r.Address then some ⟨10, i⟩ else if !noteP r.Notify then some ⟨3, i⟩ else if (l.take i).any (fun x => x.Address == r.Address) then some ⟨7, i⟩ else none
def recF (l : List TRecipient) : TFault := (firstI (recQ l) 0 l).getD ⟨0, 0⟩
def fromB (s : Str) : Bool := s != ([] : Str) && !addrP s
def envF (e : TEnvelope) : TFault := if fromB e.From then ⟨10, -10⟩ else if decide (e.To.length < 1) || decide (60 < e.To.length) then ⟨2, -11⟩ else if e.Id != ([] : Str) && !nameP e.Id then ⟨10, -12⟩ else recF e.To
def smallR (l : List TRecipient) : Prop := l.length ≤ 1048576 ∧ ∀ a ∈ l, a.Address.length ≤ 1048576
def smallE (e : TEnvelope) : Prop := e.From.length ≤ 1048576 ∧ e.Id.length ≤ 1048576 ∧ smallR e.To
theorem R_Known_eq (l : List TRecipient) (s : Str) (hl : l.length ≤ 1048576) : R_Known l s = some ((firstI (fun i x => if x.Address == s then some ((i : Nat) : Int) else none) 0 l).getD (-1)) := by
  unfold R_Known
  rw [iter_first l (fun i x => if x.Address == s then some ((i : Nat) : Int) else none) (.inl ()) .inr]
  · simp only [Option.bind_some, elim_idx]
  · unfold R_Known_l1; rw [dec_len]; rfl
  · intro i x hx
    have hi := lt_get hx
    unfold R_Known_l1
    rw [dec_lt hx, idx_get hx]
    simp only [cond_true, Option.bind_some, sc i (by omega)]
    cases x.Address == s <;> rfl
theorem R_At_eq (a b : Int) : R_At a b = some ⟨a, b⟩ := rfl
theorem basic_Fault_eq (a b : Int) : basic_Fault a b = some ⟨a, b⟩ := rfl
theorem basic_None_eq : basic_None = some ⟨0, 0⟩ := rfl
theorem basic_Failed_eq (f : TFault) : basic_Failed f = some (f.Code != 0) := rfl
theorem envelope_Notify_eq (n : Int) : envelope_Notify n = some (noteP n) := by unfold envelope_Notify noteP; cases decide (0 ≤ n) <;> rfl
theorem elim_fault (o : Option TFault) (f : TFault) : Sum.elim (fun _ => some f) (fun b => some b) (o.elim (Sum.inl ()) Sum.inr : Unit ⊕ TFault) = some (o.getD f) := by cases o <;> rfl
theorem any_take (l : List TRecipient) (i : Nat) (s : Str) (hl : l.length ≤ 1048576) : decide ((0 : Int) ≤ (firstI (fun i x => if x.Address == s then some ((i : Nat) : Int) else none) 0 (l.take i)).getD (-1)) = (l.take i).any (fun x => x.Address == s) := first_idx (fun x => x.Address == s) (l.take i) 0
theorem R_EnvelopeFault_eq (e : TEnvelope) (h : smallE e) : R_EnvelopeFault e = some (envF e) := by
  obtain ⟨h1, h2, h3, h4⟩ := h
  unfold R_EnvelopeFault envF
  rw [R_AddressOk_eq _ (by omega), R_NameOk_eq _ h2]
  have hloop : iter (R_EnvelopeFault_l1 e) 0 = some ((firstI (recQ e.To) 0 e.To).elim (.inl ()) .inr) := by
    refine iter_first e.To _ (Sum.inl ()) Sum.inr ?_ ?_
    · unfold R_EnvelopeFault_l1; rw [dec_len]; rfl
    · intro i r hr
      have hi := lt_get hr
      have ha := h4 r (List.mem_of_getElem? hr)
      unfold R_EnvelopeFault_l1 recQ
      rw [dec_lt hr, idx_get hr]
      simp only [cond_true, Option.bind_some, R_AddressOk_eq _ (show r.Address.length ≤ 9223372036854775806 by omega), R_At_eq, R_In_eq, cut_0n (Nat.le_of_lt hi), R_Known_eq _ _ (show (e.To.take i).length ≤ 1048576 by simp; omega), any_take _ _ _ h3, sc i (by omega)]
      unfold noteP
      cases addrP r.Address <;> cases (decide (0 ≤ r.Notify) && decide (r.Notify ≤ 7)) <;> cases (e.To.take i).any (fun x => x.Address == r.Address) <;> rfl
  rw [hloop]
  simp only [Option.bind_some, elim_fault, R_In_eq, R_At_eq]
  have e1 : (!(decide ((1 : Int) ≤ (e.To.length : Int)) && decide ((e.To.length : Int) ≤ 60))) = (decide (e.To.length < 1) || decide (60 < e.To.length)) := by generalize e.To.length = n; rw [Bool.eq_iff_iff]; simp; omega
  rw [e1]
  unfold fromB recF
  cases e.From != ([] : Str) <;> cases addrP e.From <;> cases (decide (e.To.length < 1) || decide (60 < e.To.length)) <;> cases e.Id != ([] : Str) <;> cases nameP e.Id <;> rfl
theorem envelope_Recipients_eq (l : List TRecipient) (h : smallR l) : envelope_Recipients l = some (recF l) := by
  obtain ⟨h3, h4⟩ := h
  unfold envelope_Recipients recF
  rw [iter_first l (recQ l) (.inl ()) .inr]
  · simp only [Option.bind_some, basic_None_eq, elim_fault]
  · unfold envelope_Recipients_l1; rw [dec_len]; rfl
  · intro i r hr
    have hi := lt_get hr
    have ha := h4 r (List.mem_of_getElem? hr)
    have hl2 : iter (envelope_Recipients_l2 r (l.take i)) 0 = some ((firstI (fun i x => if x.Address == r.Address then some ((i : Nat) : Int) else none) 0 (l.take i)).elim (.inl ()) .inr) := by
      refine iter_first (l.take i) _ (Sum.inl ()) Sum.inr ?_ ?_
      · unfold envelope_Recipients_l2; rw [dec_len]; rfl
      · intro k x hx
        have hk := lt_get hx
        simp at hk
        unfold envelope_Recipients_l2
        rw [dec_lt hx, idx_get hx]
        simp only [cond_true, Option.bind_some, sc k (by omega)]
        cases x.Address == r.Address <;> rfl
    unfold envelope_Recipients_l1 recQ
    rw [dec_lt hr, idx_get hr]
    simp only [cond_true, Option.bind_some, envelope_Address_eq _ (show r.Address.length < 4294967281 by omega), basic_Fault_eq, envelope_Notify_eq, cut_0n (Nat.le_of_lt hi), hl2, elim_idx, any_take _ _ _ h3, sc i (by omega)]
    cases addrP r.Address <;> cases noteP r.Notify <;> cases (l.take i).any (fun x => x.Address == r.Address) <;> rfl
theorem envelope_Validate_eq (e : TEnvelope) (h : smallE e) : envelope_Validate e = some (envF e) := by
  obtain ⟨h1, h2, h3⟩ := h
  unfold envelope_Validate envF
  rw [envelope_Address_eq _ (by omega), basic_Name_eq _ h2, envelope_Recipients_eq _ h3]
  have e1 : decide ((e.To.length : Int) < 1) = decide (e.To.length < 1) := by generalize e.To.length = n; rw [Bool.eq_iff_iff]; simp; omega
  have e2 : decide ((60 : Int) < (e.To.length : Int)) = decide (60 < e.To.length) := by rw [Bool.eq_iff_iff]; simp; omega
  simp only [Option.bind_some, basic_Fault_eq, e1, e2]
  unfold fromB
  cases e.From != ([] : Str) <;> cases addrP e.From <;> cases decide (e.To.length < 1) <;> cases decide (60 < e.To.length) <;> cases e.Id != ([] : Str) <;> cases nameP e.Id <;> rfl
theorem smallE_of {e : TEnvelope} (h : TEnvelope.bk e ≤ 1048576) : smallE e := by
  unfold TEnvelope.bk at h
  dsimp only at h
  refine ⟨by omega, by omega, ?_, fun a ha => ?_⟩
  · have := bkL_len (bk := TRecipient.bk) (fun x => by unfold TRecipient.bk; omega) e.To; omega
  · have h5 := bkL_mem (bk := TRecipient.bk) ha; have h6 : TRecipient.bk a = a.Address.length + 1 + 1 + 1 := rfl; omega
theorem smallR_of {l : List TRecipient} (h : bkL TRecipient.bk l ≤ 1048576) : smallR l := by
  refine ⟨?_, fun a ha => ?_⟩
  · have := bkL_len (bk := TRecipient.bk) (fun x => by unfold TRecipient.bk; omega) l; omega
  · have h5 := bkL_mem (bk := TRecipient.bk) ha; have h6 : TRecipient.bk a = a.Address.length + 1 + 1 + 1 := rfl; omega
end Go.Proofs.Ytfhfjckjmacekaa

/- Envelopes by domains: the plain functions, and what the typed functions compute. -/
namespace Go.Proofs.Ytfhfjckjmacekaa
open Go.RowKit
set_option linter.unusedVariables false
set_option maxHeartbeats 1000000

instance : DecidableEq TRecipient := fun a b => decidable_of_iff (a.Address = b.Address ∧ a.Notify = b.Notify) (by cases a; cases b; simp)
instance : DecidableEq TFault := fun a b => decidable_of_iff (a.Code = b.Code ∧ a.Index = b.Index) (by cases a; cases b; simp)
instance : DecidableEq TEnvelope := fun a b => decidable_of_iff (a.From = b.From ∧ a.To = b.To ∧ a.Id = b.Id) (by cases a; cases b; simp)
theorem rec_eq (a b : TRecipient) : allEq [(a.Address == b.Address), (a.Notify == b.Notify)] = (a == b) := by
  cases a; cases b
  rw [Bool.eq_iff_iff]
  simp [allEq]
theorem R_SameRecipients_eq (a b : List TRecipient) (ha : a.length ≤ 1048576) : R_SameRecipients a b = some (a == b) := by
  unfold R_SameRecipients
  by_cases hlen : a.length = b.length
  · have h1 : ((a.length : Int) != (b.length : Int)) = false := by rw [hlen]; simp
    rw [h1]
    simp only [cond_false]
    rw [iter_first a (fun i x => if b[i]? != some x then some false else none) (.inl ()) .inr]
    · simp only [Option.bind_some]
      cases hf : firstI (fun i x => if b[i]? != some x then some false else none) 0 a with
      | none =>
        rw [firstI_none] at hf
        have : a = b := by
          apply List.ext_getElem?
          intro i
          by_cases hi : i < a.length
          · have := hf i a[i] (List.getElem?_eq_getElem hi)
            rw [Nat.zero_add] at this
            rw [List.getElem?_eq_getElem hi]
            simp at this; exact this.symm
          · rw [List.getElem?_eq_none (by omega), List.getElem?_eq_none (by omega)]
        subst this; simp
      | some r =>
        obtain ⟨i, x, hx, hq⟩ := firstI_some hf
        rw [Nat.zero_add] at hq
        split at hq
        · cases hq
          rename_i hne
          have : (a == b) = false := by
            rw [beq_eq_false_iff_ne]
            rintro rfl
            rw [hx] at hne; simp at hne
          rw [this]; rfl
        · cases hq
    · unfold R_SameRecipients_l1; rw [dec_len]; rfl
    · intro i x hx
      have hi := lt_get hx
      unfold R_SameRecipients_l1
      have hib : i < b.length := by omega
      rw [dec_lt hx, idx_get hx, idx_lt hib, List.getElem?_eq_getElem hib]
      simp only [cond_true, Option.bind_some, sc i (by omega), rec_eq]
      by_cases hxb : x = b[i]
      · subst hxb; simp
      · have e1 : (x == b[i]) = false := by simpa using hxb
        have e2 : (some b[i] != some x) = true := by simp; exact fun h => hxb h.symm
        rw [e1, e2]; rfl
  · have h1 : ((a.length : Int) != (b.length : Int)) = true := by simp; omega
    rw [h1]
    simp only [cond_true]
    have : (a == b) = false := by rw [beq_eq_false_iff_ne]; rintro rfl; exact hlen rfl
    rw [this]
def domOf (s : Str) : Str := if atP s < s.length then s.drop (atP s + 1) else []
theorem splitP_dom (s : Str) : (splitP s).2.1 = domOf s := by
  unfold splitP domOf
  by_cases h : atP s < s.length
  · rw [if_pos h, if_pos h]
  · rw [if_neg h, if_neg h]
theorem R_DomainOf_eq (s : Str) (hs : s.length ≤ 1048576) : R_DomainOf s = some (domOf s) := by
  unfold R_DomainOf domOf
  rw [R_sign_eq s (by omega)]
  have hle : atP s ≤ s.length := List.findIdx_le_length
  simp only [Option.bind_some]
  by_cases h : atP s < s.length
  · have e : (((atP s : Nat) : Int) == (s.length : Int)) = false := by rw [beq_eq_false_iff_ne]; omega
    rw [e, if_pos h, sc _ (by omega)]
    simp only [cond_false]
    rw [cut_nl (by omega)]; rfl
  · have e : (((atP s : Nat) : Int) == (s.length : Int)) = true := by rw [beq_iff_eq]; omega
    rw [e, if_neg h]; rfl
theorem slices_Contains_eq (l : List Str) (s : Str) (hl : l.length ≤ 1048576) : slices_Contains_string_string l s = some (l.contains s) := by
  unfold slices_Contains_string_string slices_Index_string_string
  rw [iter_first l (fun i x => if x == s then some ((i : Nat) : Int) else none) (.inl ()) .inr]
  · simp only [Option.bind_some, elim_idx, first_idx (fun x => x == s) l 0]
    congr 1
    rw [Bool.eq_iff_iff]; simp
  · unfold slices_Index_string_string_l1; rw [dec_len]; rfl
  · intro i x hx
    have hi := lt_get hx
    unfold slices_Index_string_string_l1
    rw [dec_lt hx, idx_get hx]
    have e : (s == x) = (x == s) := by rw [Bool.eq_iff_iff]; simp; exact ⟨fun h => h.symm, fun h => h.symm⟩
    simp only [cond_true, Option.bind_some, sc i (by omega), e]
    cases x == s <;> rfl
def addD (acc : List Str) (r : TRecipient) : List Str := if acc.contains (domOf r.Address) then acc else acc ++ [domOf r.Address]
def domsP (l : List TRecipient) : List Str := l.foldl addD []
def domsE (e : TEnvelope) : List Str × TFault := if (envF e).Code != 0 then ([], envF e) else (domsP e.To, ⟨0, 0⟩)
theorem addD_len (acc : List Str) (r : TRecipient) : (addD acc r).length ≤ acc.length + 1 := by unfold addD; split <;> simp
theorem envelope_Domains_eq (e : TEnvelope) (h : smallE e) : envelope_Domains e = some (domsE e) := by
  unfold envelope_Domains domsE
  rw [envelope_Validate_eq e h]
  simp only [Option.bind_some, basic_Failed_eq, basic_None_eq]
  obtain ⟨_, _, h3, h4⟩ := h
  cases (envF e).Code != 0 with
  | true => rfl
  | false =>
    simp only [cond_false, Bool.false_eq_true, if_false]
    have := (iter_fold e.To (fun i acc => (i, acc)) addD (fun acc => acc) (fun i acc => acc.length ≤ i) (body := envelope_Domains_l1 e) (fun s hs => by unfold envelope_Domains_l1; simp [dec_len]) (fun i r acc hr hi => by
      have hlt := lt_get hr
      have ha := h4 r (List.mem_of_getElem? hr)
      refine ⟨?_, Nat.le_trans (addD_len acc r) (by omega)⟩
      unfold envelope_Domains_l1
      dsimp only
      rw [dec_lt hr, idx_get hr]
      simp only [cond_true, Option.bind_some, envelope_Split_eq _ (show r.Address.length < 4294967281 by omega), splitP_dom, slices_Contains_eq acc _ (by omega), sc i (by omega)]
      unfold addD
      cases acc.contains (domOf r.Address) with
      | true => rfl
      | false => simp only [Bool.not_false, cond_true, Bool.false_eq_true, if_false]; rw [app_ok (by simp; omega)]; rfl) ([] : List Str) (by simp)).1
    rw [this]; rfl
def inDom (d : Str) (r : TRecipient) : Bool := domOf r.Address == d
def forE (e : TEnvelope) (d : Str) : TEnvelope × TFault :=
  if (envF e).Code != 0 then (⟨[], [], []⟩, envF e) else if e.To.filter (inDom d) = [] then (⟨[], [], []⟩, ⟨6, -13⟩) else (⟨e.From, e.To.filter (inDom d), e.Id⟩, ⟨0, 0⟩)
theorem clr0_take {α : Type} (l : List α) (i : Nat) (z : α) (h : i ≤ l.length) : (clr0 l i z).take i = l.take i := by
  unfold clr0; simp [List.take_append, h]
theorem envelope_For_eq (e : TEnvelope) (d : Str) (h : smallE e) : envelope_For e d = some (forE e d) := by
  unfold envelope_For forE
  rw [envelope_Validate_eq e h]
  simp only [Option.bind_some, basic_Failed_eq, basic_None_eq, basic_Fault_eq]
  obtain ⟨_, _, h3, h4⟩ := h
  cases (envF e).Code != 0 with
  | true => rfl
  | false =>
    simp only [cond_false, Bool.false_eq_true, if_false]
    rw [app_ok (by simp; omega)]
    simp only [List.nil_append, Option.bind_some]
    rw [nilE_same _ _ _ (fun he => by rw [List.isEmpty_iff.1 he])]
    simp only [Option.bind_some]
    have hl1 : iter (envelope_For_l1 d e.To) 0 = some ((firstI (fun i x => if !inDom d x then some ((i : Nat) : Int) else none) 0 e.To).elim (.inl ()) .inr) := by
      refine iter_first e.To _ (Sum.inl ()) Sum.inr ?_ ?_
      · unfold envelope_For_l1; rw [dec_len]; rfl
      · intro i r hr
        have hlt := lt_get hr
        have ha := h4 r (List.mem_of_getElem? hr)
        unfold envelope_For_l1
        rw [dec_lt hr, idx_get hr]
        simp only [cond_true, Option.bind_some, envelope_Split_eq _ (show r.Address.length < 4294967281 by omega), splitP_dom, sc i (by omega)]
        unfold inDom bne
        cases domOf r.Address == d <;> rfl
    rw [hl1]
    simp only [Option.bind_some, elim_idx]
    have key : ∀ X : Option (List TRecipient), X = some (e.To.filter (inDom d)) → (X.bind fun j10 => bif ((j10.length : Int) == 0) then some ((⟨[], [], []⟩ : TEnvelope), (⟨6, -13⟩ : TFault)) else some (⟨e.From, j10, e.Id⟩, ⟨0, 0⟩)) = some (if e.To.filter (inDom d) = [] then (⟨[], [], []⟩, ⟨6, -13⟩) else (⟨e.From, e.To.filter (inDom d), e.Id⟩, ⟨0, 0⟩)) := by
      rintro _ rfl
      simp only [Option.bind_some]
      by_cases hn : e.To.filter (inDom d) = []
      · rw [hn]; simp
      · have : (((e.To.filter (inDom d)).length : Int) == 0) = false := by
          rw [beq_eq_false_iff_ne]
          have := List.length_pos_iff.2 hn
          omega
        rw [this, if_neg hn]; rfl
    refine key _ ?_
    cases hf : firstI (fun i x => if !inDom d x then some ((i : Nat) : Int) else none) 0 e.To with
    | none =>
      rw [firstI_none] at hf
      have hall : e.To.filter (inDom d) = e.To := by
        rw [List.filter_eq_self]
        intro x hx
        obtain ⟨i, hi⟩ := List.mem_iff_getElem?.1 hx
        have := hf i x hi
        cases hq : inDom d x with
        | true => rfl
        | false => rw [hq] at this; simp at this
      rw [hall]; rfl
    | some j =>
      obtain ⟨j, rfl, x, hx, hxq, hbefore⟩ : ∃ n : Nat, j = (n : Int) ∧ ∃ x, e.To[n]? = some x ∧ inDom d x = false ∧ ∀ y ∈ e.To.take n, inDom d y = true := by
        have aux : ∀ (r : List TRecipient) (n : Nat) (j : Int), firstI (fun i x => if !inDom d x then some ((i : Nat) : Int) else none) n r = some j → ∃ m : Nat, j = ((n + m : Nat) : Int) ∧ ∃ x, r[m]? = some x ∧ inDom d x = false ∧ ∀ y ∈ r.take m, inDom d y = true := by
          intro r
          induction r with
          | nil => intro n j hj; cases hj
          | cons y r ih =>
            intro n j hj
            unfold firstI at hj
            cases hy : inDom d y with
            | false => rw [hy] at hj; simp at hj; exact ⟨0, by omega, y, rfl, hy, by simp⟩
            | true =>
              rw [hy] at hj
              simp only [Bool.not_true, Bool.false_eq_true, if_false] at hj
              obtain ⟨m, h1, x, h2, h3, h4⟩ := ih (n + 1) j hj
              refine ⟨m + 1, by omega, x, by simpa using h2, h3, fun z hz => ?_⟩
              rw [List.take_succ_cons] at hz
              rcases List.mem_cons.1 hz with rfl | hz
              · exact hy
              · exact h4 z hz
        obtain ⟨m, h1, h2⟩ := aux e.To 0 j hf
        exact ⟨m, by omega, h2⟩
      have hjl := lt_get hx
      have hne : (((j : Nat) : Int) == -1) = false := by rw [beq_eq_false_iff_ne]; omega
      simp only [Option.getD_some, hne, cond_false, sc j (by omega)]
      obtain ⟨L', q1, q2, q3⟩ := down_loop (fun r => !inDom d r) e.To (fun r => r.Address.length ≤ 1048576) (body := envelope_For_l2 d) (fun i L hL => by unfold envelope_For_l2; simp [hL, dec_len]) (fun i k L r hL hr hik ha => by
        have hlt := lt_get hr
        have hil : i < L.length := by omega
        unfold envelope_For_l2
        dsimp only
        rw [dec_lt hr, idx_get hr, idx_lt hil]
        simp only [cond_true, Option.bind_some, envelope_Split_eq _ (show r.Address.length < 4294967281 by omega), splitP_dom, sc i (by omega), sc k (by omega)]
        unfold inDom bne
        cases domOf r.Address == d <;> rfl) (e.To.drop (j + 1)) j (j + 1) e.To rfl rfl (by omega) (by omega) h4
      have e9 : (fun r => !!inDom d r) = inDom d := by funext r; simp
      rw [e9] at q1 q3
      rw [q1]
      simp only [Option.bind_some]
      have hfil : e.To.filter (inDom d) = e.To.take j ++ (e.To.drop (j + 1)).filter (inDom d) := by
        conv => lhs; rw [← List.take_append_drop j e.To, List.filter_append]
        have h5 : (e.To.take j).filter (inDom d) = e.To.take j := List.filter_eq_self.2 hbefore
        have h6 : e.To.drop j = x :: e.To.drop (j + 1) := by
          rw [List.drop_eq_getElem_cons hjl]
          congr 1
          rw [List.getElem?_eq_getElem hjl] at hx
          exact Option.some.inj hx
        rw [h5, h6, List.filter_cons, hxq]; simp
      have hlen : j + ((e.To.drop (j + 1)).filter (inDom d)).length ≤ L'.length := by
        rw [q2]
        have := List.length_filter_le (inDom d) (e.To.drop (j + 1))
        simp at this; omega
      rw [cut_nl hlen]
      simp only [Option.bind_some, Int.toNat_natCast]
      rw [cut_0n (by unfold clr0; simp; omega), clr0_take _ _ _ hlen, q3, hfil]; rfl
end Go.Proofs.Ytfhfjckjmacekaa

/- The union of recipients: the plain functions, and what the typed functions compute. -/
namespace Go.Proofs.Ytfhfjckjmacekaa
open Go.RowKit
set_option linter.unusedVariables false
set_option maxHeartbeats 1000000

/-! ### conditions -/
def eithS (a b : Int) (s : Int × Int) : Int × Int := (bif (iRem (iQuo a s.2) 2 == 1 || iRem (iQuo b s.2) 2 == 1) then w64 (s.1 + s.2) else s.1, w64 (2 * s.2))
def eithP (a b : Int) : Int := (eithS a b (eithS a b (eithS a b (0, 1)))).1
theorem eith_step (a b n k : Int) (hk : k ≤ 4) (h0 : (k == 0) = false) : R_Either_l1 a b (n, k) = some (.cont (eithS a b (n, k))) := by
  unfold R_Either_l1 eithS
  have h1 : decide (k ≤ 4) = true := by simp; exact hk
  have h2 : nz k = some true := by unfold nz; rw [h0]; rfl
  dsimp only
  rw [h1, h2]
  simp only [cond_true, Option.bind_some]
  cases iRem (iQuo a k) 2 == 1 <;> cases iRem (iQuo b k) 2 == 1 <;> rfl
theorem R_Either_eq (a b : Int) : R_Either a b = some (eithP a b) := by
  unfold R_Either
  have e1 : (eithS a b (0, 1)).2 = 2 := show w64 (2 * 1) = 2 by decide
  have e2 : ∀ n, (eithS a b (n, 2)).2 = 4 := fun n => show w64 (2 * 2) = 4 by decide
  have e3 : ∀ n, (eithS a b (n, 4)).2 = 8 := fun n => show w64 (2 * 4) = 8 by decide
  rw [iter_cont (eith_step a b 0 1 (by decide) (by decide))]
  have f1 : eithS a b (0, 1) = ((eithS a b (0, 1)).1, 2) := Prod.ext rfl e1
  rw [f1, iter_cont (eith_step a b _ 2 (by decide) (by decide))]
  have f2 : ∀ n, eithS a b (n, 2) = ((eithS a b (n, 2)).1, 4) := fun n => Prod.ext rfl (e2 n)
  rw [f2, iter_cont (eith_step a b _ 4 (by decide) (by decide))]
  have f3 : ∀ n, eithS a b (n, 4) = ((eithS a b (n, 4)).1, 8) := fun n => Prod.ext rfl (e3 n)
  rw [f3]
  have hlast : ∀ n : Int, R_Either_l1 a b (n, 8) = some (.out n) := by intro n; unfold R_Either_l1; rfl
  rw [iter_out (hlast _)]
  unfold eithP
  rw [f1, f2]; rfl
theorem eith_small : ∀ a b : Fin 8, eithP (a.val : Int) (b.val : Int) = iOr (a.val : Int) (b.val : Int) ∧ noteP (eithP (a.val : Int) (b.val : Int)) = true := by decide +kernel
theorem note_fin {n : Int} (h : noteP n = true) : ∃ a : Fin 8, n = (a.val : Int) := by
  unfold noteP at h
  simp at h
  exact ⟨⟨n.toNat, by omega⟩, by simp; omega⟩
theorem eith_or {a b : Int} (ha : noteP a = true) (hb : noteP b = true) : eithP a b = iOr a b ∧ noteP (iOr a b) = true := by
  obtain ⟨x, rfl⟩ := note_fin ha
  obtain ⟨y, rfl⟩ := note_fin hb
  obtain ⟨h1, h2⟩ := eith_small x y
  exact ⟨h1, h1 ▸ h2⟩

/-! ### one recipient for each address -/
def orL (n : Int) (l : List TRecipient) : Int := l.foldl (fun n r => iOr n r.Notify) n
def sameA (s : Str) (r : TRecipient) : Bool := r.Address == s
/-- one for each address, as the first of them stands -/
def mergeP : Nat → List TRecipient → List TRecipient
  | 0, _ => []
  | _, [] => []
  | n + 1, r :: t => ⟨r.Address, orL r.Notify (t.filter (sameA r.Address))⟩ :: mergeP n (t.filter fun x => !sameA r.Address x)
theorem mergeP_enough : ∀ (n m : Nat) (l : List TRecipient), l.length ≤ n → l.length ≤ m → mergeP n l = mergeP m l := by
  intro n
  induction n with
  | zero => intro m l h1 h2; have : l = [] := List.length_eq_zero_iff.1 (by omega); subst this; cases m <;> rfl
  | succ n ih =>
    intro m l h1 h2
    cases l with
    | nil => cases m <;> rfl
    | cons r t =>
      cases m with
      | zero => simp at h2
      | succ m =>
        unfold mergeP
        congr 1
        have := List.length_filter_le (fun x => !sameA r.Address x) t
        simp at h1 h2
        exact ih m _ (by omega) (by omega)
def merged (l : List TRecipient) : List TRecipient := mergeP l.length l
theorem merged_cons (r : TRecipient) (t : List TRecipient) : merged (r :: t) = ⟨r.Address, orL r.Notify (t.filter (sameA r.Address))⟩ :: merged (t.filter fun x => !sameA r.Address x) := by
  unfold merged
  rw [List.length_cons, mergeP]
  congr 1
  have := List.length_filter_le (fun x => !sameA r.Address x) t
  exact mergeP_enough _ _ _ this (Nat.le_refl _)
def hasA (out : List TRecipient) (s : Str) : Bool := out.any (sameA s)
def putR (out : List TRecipient) (r : TRecipient) : List TRecipient := if hasA out r.Address then out.map (fun x => if sameA r.Address x then ⟨x.Address, iOr x.Notify r.Notify⟩ else x) else out ++ [r]
theorem put_merged : ∀ (l out : List TRecipient), l.foldl putR out = out.map (fun x => ⟨x.Address, orL x.Notify (l.filter (sameA x.Address))⟩) ++ merged (l.filter fun x => !hasA out x.Address) := by
  intro l
  induction l with
  | nil => intro out; simp [orL, merged, mergeP]
  | cons r t ih =>
    intro out
    rw [List.foldl_cons, ih]
    unfold putR
    cases hh : hasA out r.Address with
    | true =>
      simp only [if_true, List.map_map]
      have hs : ∀ s, hasA (out.map fun x => if sameA r.Address x then (⟨x.Address, iOr x.Notify r.Notify⟩ : TRecipient) else x) s = hasA out s := by
        intro s
        unfold hasA
        rw [List.any_map]
        congr 1
        funext x
        show sameA s (if sameA r.Address x then _ else x) = sameA s x
        by_cases hq : sameA r.Address x = true
        · rw [if_pos hq]; rfl
        · rw [if_neg hq]
      have h1 : (r :: t).filter (fun x => !hasA out x.Address) = t.filter fun x => !hasA out x.Address := by rw [List.filter_cons, hh]; rfl
      rw [h1]
      simp only [hs]
      congr 1
      apply List.map_congr_left
      intro x hx
      simp only [Function.comp]
      by_cases hr : sameA r.Address x = true
      · rw [if_pos hr]
        have : r.Address = x.Address := by simpa [sameA] using (beq_iff_eq.1 hr).symm
        have h2 : (r :: t).filter (sameA x.Address) = r :: t.filter (sameA x.Address) := by
          rw [List.filter_cons]; simp [sameA, this]
        rw [h2]; rfl
      · rw [if_neg hr]
        have h2 : (r :: t).filter (sameA x.Address) = t.filter (sameA x.Address) := by
          rw [List.filter_cons]
          have : sameA x.Address r = false := by
            rw [Bool.eq_false_iff]; intro h; exact hr (by simp [sameA] at h ⊢; exact h.symm)
          rw [this]; rfl
        rw [h2]
    | false =>
      simp only [Bool.false_eq_true, if_false, List.map_append, List.map_cons, List.map_nil, List.append_assoc]
      have h1 : (r :: t).filter (fun x => !hasA out x.Address) = r :: t.filter fun x => !hasA out x.Address := by rw [List.filter_cons, hh]; rfl
      rw [h1, merged_cons]
      have hno : ∀ x ∈ out, sameA x.Address r = false := by
        intro x hx
        unfold hasA at hh
        rw [List.any_eq_false] at hh
        have := hh x hx
        rw [Bool.eq_false_iff]
        intro h
        exact this (by simp [sameA] at h ⊢; exact h.symm)
      congr 1
      · apply List.map_congr_left
        intro x hx
        rw [List.filter_cons, hno x hx]; rfl
      · have h3 : (t.filter fun x => !hasA out x.Address).filter (sameA r.Address) = t.filter (sameA r.Address) := by
          rw [List.filter_filter]
          apply List.filter_congr
          intro x hx
          by_cases hs : sameA r.Address x = true
          · have : x.Address = r.Address := by simpa [sameA] using hs
            rw [hs, this, hh]; rfl
          · rw [Bool.not_eq_true] at hs; rw [hs]; rfl
        have h4 : (t.filter fun x => !hasA out x.Address).filter (fun x => !sameA r.Address x) = t.filter fun x => !hasA (out ++ [r]) x.Address := by
          rw [List.filter_filter]
          apply List.filter_congr
          intro x hx
          unfold hasA
          rw [List.any_append]
          simp only [List.any_cons, List.any_nil, Bool.or_false, Bool.not_or]
          have : sameA x.Address r = sameA r.Address x := by unfold sameA; rw [Bool.eq_iff_iff]; simp; exact ⟨fun h => h.symm, fun h => h.symm⟩
          rw [this, Bool.and_comm]
        rw [h3, h4]; rfl
theorem put_all (l : List TRecipient) : l.foldl putR [] = merged l := by
  rw [put_merged]
  have : l.filter (fun x => !hasA [] x.Address) = l := List.filter_eq_self.2 (fun x _ => by simp [hasA])
  rw [this]; rfl
/-- the same by the reference's way -/
def refM : List TRecipient → List TRecipient → List TRecipient
  | out, [] => out
  | out, r :: t => refM (if hasA out r.Address then out else out ++ [⟨r.Address, orL r.Notify (t.filter (sameA r.Address))⟩]) t
theorem refM_eq : ∀ (l out : List TRecipient), refM out l = out ++ merged (l.filter fun x => !hasA out x.Address) := by
  intro l
  induction l with
  | nil => intro out; simp [refM, merged, mergeP]
  | cons r t ih =>
    intro out
    unfold refM
    rw [ih]
    cases hh : hasA out r.Address with
    | true =>
      simp only [if_true]
      rw [List.filter_cons, hh]; rfl
    | false =>
      simp only [Bool.false_eq_true, if_false]
      have h1 : (r :: t).filter (fun x => !hasA out x.Address) = r :: t.filter fun x => !hasA out x.Address := by rw [List.filter_cons, hh]; rfl
      rw [h1, merged_cons, List.append_assoc]
      have h3 : (t.filter fun x => !hasA out x.Address).filter (sameA r.Address) = t.filter (sameA r.Address) := by
        rw [List.filter_filter]
        apply List.filter_congr
        intro x hx
        by_cases hs : sameA r.Address x = true
        · have : x.Address = r.Address := by simpa [sameA] using hs
          rw [hs, this, hh]; rfl
        · rw [Bool.not_eq_true] at hs; rw [hs]; rfl
      have h4 : (t.filter fun x => !hasA out x.Address).filter (fun x => !sameA r.Address x) = t.filter fun x => !hasA (out ++ [⟨r.Address, orL r.Notify (t.filter (sameA r.Address))⟩]) x.Address := by
        rw [List.filter_filter]
        apply List.filter_congr
        intro x hx
        unfold hasA
        rw [List.any_append]
        simp only [List.any_cons, List.any_nil, Bool.or_false, Bool.not_or]
        have : sameA x.Address (⟨r.Address, orL r.Notify (t.filter (sameA r.Address))⟩ : TRecipient) = sameA r.Address x := by unfold sameA; rw [Bool.eq_iff_iff]; simp; exact ⟨fun h => h.symm, fun h => h.symm⟩
        rw [this, Bool.and_comm]
      rw [h3, h4]; rfl
theorem refM_all (l : List TRecipient) : refM [] l = merged l := by
  rw [refM_eq]
  have : l.filter (fun x => !hasA [] x.Address) = l := List.filter_eq_self.2 (fun x _ => by simp [hasA])
  rw [this]; rfl
theorem orL_filter (s : Str) : ∀ (l : List TRecipient) (n : Int), noteP n = true → (∀ r ∈ l, noteP r.Notify = true) → l.foldl (fun n r => if r.Address == s then eithP n r.Notify else n) n = orL n (l.filter (sameA s)) := by
  intro l
  induction l with
  | nil => intro n _ _; rfl
  | cons r t ih =>
    intro n hn h
    have hr := h r (by simp)
    obtain ⟨e1, e2⟩ := eith_or hn hr
    rw [List.foldl_cons, List.filter_cons]
    unfold sameA
    by_cases hs : (r.Address == s) = true
    · rw [if_pos hs, if_pos hs, ih _ (by rw [e1]; exact e2) (fun x hx => h x (by simp [hx])), e1]; rfl
    · rw [if_neg hs, if_neg hs, ih _ hn (fun x hx => h x (by simp [hx]))]; rfl
end Go.Proofs.Ytfhfjckjmacekaa

/- The union of recipients: what the typed functions compute; the closed example. -/
namespace Go.Proofs.Ytfhfjckjmacekaa
open Go.RowKit
set_option linter.unusedVariables false
set_option maxHeartbeats 1000000

def mq (i : Nat) (r : TRecipient) : Option TFault := if !addrP r.Address then some ⟨10, i⟩ else if !noteP r.Notify then some ⟨3, i⟩ else none
def mergeE (l : List TRecipient) : List TRecipient × TFault := if 300 < l.length then ([], ⟨2, -1⟩) else match firstI mq 0 l with | some f => ([], f) | none => (merged l, ⟨0, 0⟩)
theorem firstI_cons {α R : Type} (q : Nat → α → Option R) (i : Nat) (x : α) (r : List α) : firstI q i (x :: r) = match q i x with | some y => some y | none => firstI q (i + 1) r := rfl
def posA (out : List TRecipient) (s : Str) : Option Nat := out.findIdx? (sameA s)
theorem posA_has (out : List TRecipient) (s : Str) : (posA out s).isSome = hasA out s := by unfold posA hasA; exact List.findIdx?_isSome
theorem posA_app (out : List TRecipient) (r : TRecipient) (s : Str) (h : hasA out r.Address = false) : posA (out ++ [r]) s = if r.Address == s then some out.length else posA out s := by
  unfold posA
  rw [List.findIdx?_append]
  by_cases hs : (r.Address == s) = true
  · rw [if_pos hs]
    have e : r.Address = s := beq_iff_eq.1 hs
    subst e
    have : out.findIdx? (sameA r.Address) = none := by
      have := posA_has out r.Address
      rw [h] at this
      unfold posA at this
      simpa using this
    rw [this]
    simp [sameA]
  · rw [if_neg hs]
    have : sameA s r = false := by unfold sameA; simpa using hs
    simp [List.findIdx?_cons, this]
theorem posA_map (out : List TRecipient) (f : TRecipient → TRecipient) (hf : ∀ x, (f x).Address = x.Address) (s : Str) : posA (out.map f) s = posA out s := by
  unfold posA
  rw [List.findIdx?_map]
  congr 1
  funext x
  simp [Function.comp, sameA, hf]
theorem posA_get : ∀ (out : List TRecipient) (s : Str) (k : Nat), posA out s = some k → ∃ x, out[k]? = some x ∧ x.Address = s := by
  intro out s k h
  unfold posA at h
  rw [List.findIdx?_eq_some_iff_getElem] at h
  obtain ⟨h1, h2, _⟩ := h
  exact ⟨out[k], List.getElem?_eq_getElem h1, by simpa [sameA] using h2⟩
theorem set_map (s : Str) (f : TRecipient → TRecipient) : ∀ (out : List TRecipient) (k : Nat) (x : TRecipient), (out.map (·.Address)).Nodup → posA out s = some k → out[k]? = some x → out.set k (f x) = out.map (fun y => if sameA s y then f y else y) := by
  intro out
  induction out with
  | nil => intro k x _ h; simp [posA] at h
  | cons y out ih =>
    intro k x hn hp hk
    rw [List.map_cons, List.nodup_cons] at hn
    unfold posA at hp
    rw [List.findIdx?_cons] at hp
    by_cases hy : sameA s y = true
    · rw [if_pos hy] at hp
      cases hp
      simp at hk; subst hk
      rw [List.set_cons_zero, List.map_cons, if_pos hy]
      congr 1
      symm
      rw [List.map_congr_left (g := id)]
      · simp
      · intro z hz
        have : ¬ sameA s z = true := by
          intro h
          have e1 : y.Address = s := by simpa [sameA] using hy
          have e2 : z.Address = s := by simpa [sameA] using h
          exact hn.1 (by rw [e1, ← e2]; exact List.mem_map_of_mem hz)
        rw [if_neg this]; rfl
    · rw [if_neg hy] at hp
      cases hq : out.findIdx? (sameA s) with
      | none => rw [hq] at hp; simp at hp
      | some k' =>
        rw [hq] at hp
        simp at hp
        subst hp
        rw [List.set_cons_succ, List.map_cons, if_neg hy, ih k' x hn.2 hq (by simpa using hk)]
structure MInv (i : Nat) (out : List TRecipient) (m : List (Str × Int)) : Prop where
  len : out.length ≤ i
  nd : (out.map (·.Address)).Nodup
  mp : ∀ s, mget m s = (posA out s).map fun k => ((k : Nat) : Int)
theorem MInv.put {i : Nat} {out : List TRecipient} {m : List (Str × Int)} (h : MInv i out m) (r : TRecipient) : MInv (i + 1) (putR out r) (if hasA out r.Address then m else mput m r.Address (out.length : Int)) := by
  unfold putR
  cases hh : hasA out r.Address with
  | true =>
    simp only [if_true]
    have hf : ∀ x : TRecipient, (if sameA r.Address x then (⟨x.Address, iOr x.Notify r.Notify⟩ : TRecipient) else x).Address = x.Address := by intro x; split <;> rfl
    refine ⟨by simp; have := h.len; omega, ?_, fun s => ?_⟩
    · rw [List.map_map, show ((·.Address) ∘ fun x : TRecipient => if sameA r.Address x then (⟨x.Address, iOr x.Notify r.Notify⟩ : TRecipient) else x) = (·.Address) from funext hf]; exact h.nd
    · rw [posA_map _ _ hf]; exact h.mp s
  | false =>
    simp only [Bool.false_eq_true, if_false]
    refine ⟨by simp; exact h.len, ?_, fun s => ?_⟩
    · rw [List.map_append, List.nodup_append]
      refine ⟨h.nd, by simp, ?_⟩
      intro a ha b hb
      simp at hb; subst hb
      rintro rfl
      obtain ⟨x, hx, hxe⟩ := List.mem_map.1 ha
      unfold hasA at hh
      rw [List.any_eq_false] at hh
      exact hh x hx (by simp [sameA, hxe])
    · rw [mget_mputG, posA_app _ _ _ hh, h.mp s]
      by_cases hs : (r.Address == s) = true
      · rw [if_pos hs, if_pos hs]; rfl
      · rw [if_neg hs, if_neg hs]
theorem envelope_Merge_eq (l : List TRecipient) (h : smallR l) : envelope_Merge l = some (mergeE l) := by
  obtain ⟨h3, h4⟩ := h
  unfold envelope_Merge mergeE
  by_cases h300 : 300 < l.length
  · have : decide ((300 : Int) < (l.length : Int)) = true := by simp; omega
    rw [this, if_pos h300]; rfl
  · have : decide ((300 : Int) < (l.length : Int)) = false := by simp; omega
    rw [this, if_neg h300]
    simp only [cond_false]
    rw [iter_listI (body := envelope_Merge_l1 l) (s0 := ((0 : Int), ([] : List TRecipient), ([] : List (Str × Int)))) (S := List TRecipient × List (Str × Int)) l (fun i s => ((i : Int), s.1, s.2)) (fun i r s => match firstI mq i r with | some f => Sum.inr ([], f) | none => Sum.inl (r.foldl putR s.1)) (fun i r s => MInv i s.1 s.2)
      (fun s hi => by unfold envelope_Merge_l1; simp [dec_len, firstI])
      (fun p x r s hl hi => by
        have hx : l[p.length]? = some x := by rw [hl]; simp
        have hlt := lt_get hx
        have ha := h4 x (List.mem_of_getElem? hx)
        have hil := hi.len
        have hmp := hi.mp x.Address
        have hq0 : mq p.length x = if !addrP x.Address then some ⟨10, (p.length : Int)⟩ else if !noteP x.Notify then some ⟨3, (p.length : Int)⟩ else none := rfl
        rw [firstI_cons, hq0]
        unfold envelope_Merge_l1
        dsimp only
        rw [dec_lt hx, idx_get hx]
        simp only [cond_true, Option.bind_some, envelope_Address_eq _ (show x.Address.length < 4294967281 by omega), envelope_Notify_eq, basic_Fault_eq]
        cases hA : addrP x.Address with
        | false => left; rfl
        | true =>
          cases hN : noteP x.Notify with
          | false => left; rfl
          | true =>
            right
            simp only [Bool.not_true, cond_false, Bool.false_eq_true, if_false]
            refine ⟨(putR s.1 x, if hasA s.1 x.Address then s.2 else mput s.2 x.Address (s.1.length : Int)), ?_, rfl, hi.put x⟩
            unfold envelope_Merge_k2
            rw [hmp]
            cases hp : posA s.1 x.Address with
            | some k =>
              obtain ⟨y, hy, hya⟩ := posA_get _ _ _ hp
              have hh : hasA s.1 x.Address = true := by rw [← posA_has, hp]; rfl
              simp only [Option.map_some, Option.isSome_some, cond_true, Option.getD_some, idx_get hy, Option.bind_some, Int.toNat_natCast, sc p.length (by omega), hh, if_true]
              unfold putR
              rw [hh, if_pos rfl, set_map x.Address (fun y => ⟨y.Address, iOr y.Notify x.Notify⟩) s.1 k y hi.nd hp hy]
            | none =>
              have hh : hasA s.1 x.Address = false := by rw [← posA_has, hp]; rfl
              simp only [Option.map_none, Option.isSome_none, cond_false, hh, Bool.false_eq_true, if_false]
              rw [app_ok (by simp; omega)]
              simp only [Option.bind_some, sc p.length (by omega)]
              unfold putR
              rw [hh]; rfl) ([], []) rfl ⟨Nat.le_refl _, by simp, fun s => rfl⟩]
    simp only [Option.bind_some, basic_None_eq, put_all]
    cases firstI mq 0 l with
    | some f => rfl
    | none => rfl
theorem R_Merged_eq (l : List TRecipient) (h : l.length ≤ 1048576) (hn : ∀ r ∈ l, noteP r.Notify = true) : R_Merged l = some (merged l) := by
  unfold R_Merged
  rw [iter_listI (body := R_Merged_l1 l) (s0 := ((0 : Int), ([] : List TRecipient))) (S := List TRecipient) l (fun i s => ((i : Int), s)) (fun i r s => refM s r) (fun i r s => s.length ≤ i)
    (fun s hi => by unfold R_Merged_l1; simp [dec_len, refM])
    (fun p x r s hl hi => by
      have hx : l[p.length]? = some x := by rw [hl]; simp
      have hlt := lt_get hx
      have hnx := hn x (List.mem_of_getElem? hx)
      right
      refine ⟨_, ?_, rfl, ?_⟩
      · unfold R_Merged_l1
        dsimp only
        rw [dec_lt hx, idx_get hx]
        simp only [cond_true, Option.bind_some, R_Known_eq _ _ (show s.length ≤ 1048576 by omega), sc p.length (by omega)]
        have hk : decide ((0 : Int) ≤ (firstI (fun i y => if y.Address == x.Address then some ((i : Nat) : Int) else none) 0 s).getD (-1)) = hasA s x.Address := first_idx (fun y => y.Address == x.Address) s 0
        rw [hk]
        cases hh : hasA s x.Address with
        | true => rfl
        | false =>
          have hin := iter_foldFrom l (fun i (n : Int) => (i, n)) (fun n y => if y.Address == x.Address then eithP n y.Notify else n) (fun n => n) (fun _ _ => True) (body := R_Merged_l2 l x)
            (fun n _ => by unfold R_Merged_l2; simp [dec_len]) (fun i y n hy _ => by
              have hlt2 := lt_get hy
              refine ⟨?_, trivial⟩
              unfold R_Merged_l2
              dsimp only
              rw [dec_lt hy, idx_get hy]
              simp only [cond_true, Option.bind_some, R_Either_eq, sc i (by omega)]
              cases y.Address == x.Address <;> rfl) r (p ++ [x]) x.Notify (by simp [hl]) trivial
          have e : (((p ++ [x]).length : Nat) : Int) = ((p.length + 1 : Nat) : Int) := by simp
          rw [e] at hin
          rw [hin, orL_filter x.Address r x.Notify hnx (fun y hy => hn y (by rw [hl]; simp [hy]))]
          simp only [cond_false, Option.bind_some, Bool.false_eq_true, if_false]
          rw [app_ok (by simp; omega)]; rfl
      · split
        · omega
        · simp; omega) ([] : List TRecipient) rfl (Nat.zero_le _)]
  simp only [Option.bind_some, refM_all]
theorem L_envelopes_eq : L_envelopes = some true := by
  unfold L_envelopes
  have s1 : smallE ⟨[], [⟨[97, 64, 120], 0⟩, ⟨[98, 64, 121], 1⟩], []⟩ := ⟨by decide, by decide, by decide, by intro a ha; simp at ha; rcases ha with rfl | rfl <;> decide⟩
  have s2 : smallE ⟨[], [], []⟩ := ⟨by decide, by decide, by decide, by intro a ha; simp at ha⟩
  have s3 : smallR [⟨[97, 64, 98], 1⟩, ⟨[97, 64, 98], 4⟩] := ⟨by decide, by intro a ha; simp at ha; rcases ha with rfl | rfl <;> decide⟩
  rw [envelope_Domains_eq _ s1, envelope_For_eq _ _ s1, envelope_Merge_eq _ s3, envelope_Validate_eq _ s2]
  have e1 : domsE ⟨[], [⟨[97, 64, 120], 0⟩, ⟨[98, 64, 121], 1⟩], []⟩ = ([[120], [121]], ⟨0, 0⟩) := by decide +kernel
  have e2 : forE ⟨[], [⟨[97, 64, 120], 0⟩, ⟨[98, 64, 121], 1⟩], []⟩ [121] = (⟨[], [⟨[98, 64, 121], 1⟩], []⟩, ⟨0, 0⟩) := by decide +kernel
  have e3 : mergeE [⟨[97, 64, 98], 1⟩, ⟨[97, 64, 98], 4⟩] = ([⟨[97, 64, 98], 5⟩], ⟨0, 0⟩) := by decide +kernel
  have e4 : envF ⟨[], [], []⟩ = ⟨2, -11⟩ := by decide +kernel
  rw [e1, e2, e3, e4]
  simp only [Option.bind_some, R_Strings_eq _ _ (show ([[120], [121]] : List Str).length ≤ 9223372036854775806 by decide), R_SameRecipients_eq _ _ (show ([⟨[98, 64, 121], 1⟩] : List TRecipient).length ≤ 1048576 by decide), R_SameRecipients_eq _ _ (show ([⟨[97, 64, 98], 5⟩] : List TRecipient).length ≤ 1048576 by decide), R_At_eq]
  rfl
end Go.Proofs.Ytfhfjckjmacekaa

/- The law EnvelopeDomainsMatchSpec, as a plain statement. -/
namespace Go.Proofs.Ytfhfjckjmacekaa
open Go.RowKit
set_option linter.unusedVariables false
theorem recF_ok (l : List TRecipient) (h : (recF l).Code = 0) : recF l = ⟨0, 0⟩ := by
  unfold recF at h ⊢
  cases hf : firstI (recQ l) 0 l with
  | none => rfl
  | some f =>
    exfalso
    obtain ⟨i, x, hx, hq⟩ := firstI_some hf
    rw [hf] at h
    unfold recQ at hq
    split at hq
    · cases hq; simp at h
    · split at hq
      · cases hq; simp at h
      · split at hq
        · cases hq; simp at h
        · cases hq
theorem envF_ok (e : TEnvelope) (h : (envF e).Code = 0) : envF e = ⟨0, 0⟩ := by
  unfold envF at h ⊢
  split
  · rename_i h1; rw [if_pos h1] at h; simp at h
  · rename_i h1
    rw [if_neg h1] at h
    split
    · rename_i h2; rw [if_pos h2] at h; simp at h
    · rename_i h2
      rw [if_neg h2] at h
      split
      · rename_i h3; rw [if_pos h3] at h; simp at h
      · rename_i h3
        rw [if_neg h3] at h
        exact recF_ok _ h
theorem fold_pair (d : Str) : ∀ (l to : List TRecipient) (all : List Str), l.foldl (fun (s : List TRecipient × List Str) r => (if inDom d r then s.1 ++ [r] else s.1, addD s.2 r)) (to, all) = (to ++ l.filter (inDom d), l.foldl addD all) := by
  intro l
  induction l with
  | nil => intro to all; simp
  | cons r t ih =>
    intro to all
    rw [List.foldl_cons, List.foldl_cons, List.filter_cons, ih]
    cases inDom d r <;> simp
theorem fault_self (f : TFault) : allEq [(f.Code == f.Code), (f.Index == f.Index)] = true := by simp [allEq]
theorem L_EnvelopeDomainsMatchSpec_true (a0 : TEnvelope) (a1 : Str) (o0 : TEnvelope.ok a0) (o1 : okStr a1) (hk : TEnvelope.bk a0 + (fun s => s.length + 1) a1 ≤ 1048576) : L_EnvelopeDomainsMatchSpec a0 a1 = some true := by
  have hs : smallE a0 := smallE_of (by omega)
  unfold L_EnvelopeDomainsMatchSpec
  rw [R_EnvelopeFault_eq _ hs, envelope_Domains_eq _ hs, envelope_For_eq _ _ hs, L_envelopes_eq]
  simp only [Option.bind_some, Bool.not_true, cond_false, cond_true]
  unfold domsE forE
  by_cases hc : (envF a0).Code = 0
  · have hf := envF_ok a0 hc
    have h0 : ((envF a0).Code != 0) = false := by simp [hc]
    rw [h0]
    simp only [Bool.false_eq_true, if_false, hf, fault_self, Bool.not_true, cond_false, Option.bind_some]
    obtain ⟨_, _, h3, h4⟩ := hs
    have hl := (iter_fold a0.To (fun i (s : List TRecipient × List Str) => (i, s.1, s.2)) (fun s r => (if inDom a1 r then s.1 ++ [r] else s.1, addD s.2 r)) (fun s => (s.1, s.2)) (fun i s => s.1.length ≤ i ∧ s.2.length ≤ i) (body := L_EnvelopeDomainsMatchSpec_l1 a0 a1)
      (fun s hi => by unfold L_EnvelopeDomainsMatchSpec_l1; simp [dec_len]) (fun i r s hr hi => by
        have hlt := lt_get hr
        have ha := h4 r (List.mem_of_getElem? hr)
        refine ⟨?_, ?_, Nat.le_trans (addD_len _ _) (by omega)⟩
        · unfold L_EnvelopeDomainsMatchSpec_l1
          dsimp only
          rw [dec_lt hr, idx_get hr]
          simp only [cond_true, Option.bind_some, R_DomainOf_eq _ ha, R_Has_eq s.2 _ (by omega), sc i (by omega)]
          unfold addD inDom
          cases s.2.contains (domOf r.Address) <;> cases domOf r.Address == a1 <;> simp [app_ok (show s.1.length + [r].length ≤ 5864062014805 by simp; omega), app_ok (show s.2.length + [domOf r.Address].length ≤ 8796093022208 by simp; omega)]
        · dsimp only
          split
          · simp; omega
          · omega) (([] : List TRecipient), ([] : List Str)) (by simp)).1
    rw [hl, fold_pair]
    simp only [Option.bind_some, List.nil_append]
    have hdl : (domsP a0.To).length ≤ 9223372036854775806 := by
      have : ∀ (l : List TRecipient) (acc : List Str), (l.foldl addD acc).length ≤ acc.length + l.length := by
        intro l
        induction l with
        | nil => intro acc; simp
        | cons r t ih => intro acc; have := ih (addD acc r); have := addD_len acc r; simp; omega
      have := this a0.To []
      unfold domsP; simp at this; omega
    rw [R_Strings_eq _ _ hdl]
    have e1 : (domsP a0.To == a0.To.foldl addD []) = true := by unfold domsP; simp
    rw [e1]
    have hfl := List.length_filter_le (inDom a1) a0.To
    by_cases hn : a0.To.filter (inDom a1) = []
    · rw [hn]; rfl
    · have : (((a0.To.filter (inDom a1)).length : Int) == 0) = false := by
        rw [beq_eq_false_iff_ne]
        have := List.length_pos_iff.2 hn
        omega
      rw [this, if_neg hn]
      simp only [Bool.not_true, cond_false, Option.bind_some, beq_self_eq_true, cond_true]
      rw [R_SameRecipients_eq _ _ (by omega)]
      simp [allEq]
  · have h0 : ((envF a0).Code != 0) = true := by simpa using hc
    rw [h0]
    simp only [if_true, fault_self, Bool.not_true, cond_false, Option.bind_some, cond_true]
    rfl
end Go.Proofs.Ytfhfjckjmacekaa
