/- Part 1 of the proof of the law ForwardStepMatchesSpec: what it needs. -/
import Derived.Test.YtfhfjckjmacekaaGreatC3
import Derived.Test.YtfhfjckjmacekaaGreatProg
import Derived.Lib.IndexMore
import Derived.Lib.IndexAny
set_option linter.unusedVariables false
set_option linter.unusedSimpArgs false
/- Go's structures as Lean's, and their cells. Written by program. -/
namespace Go.Proofs.YtfhfjckjmacekaaGreat
open Go.RowKit
structure TFault where
  Code : Int
  Index : Int
def TFault.pc (x : TFault) : List PV := [pI x.Code, pI x.Index]
structure TAlias where
  Address : Str
  To : List Str
def TAlias.pc (x : TAlias) : List PV := [pS x.Address, pL cS x.To]
structure TRecipient where
  Address : Str
  Notify : Int
def TRecipient.pc (x : TRecipient) : List PV := [pS x.Address, pI x.Notify]
structure TEnvelope where
  From : Str
  To : List TRecipient
  Id : Str
def TEnvelope.pc (x : TEnvelope) : List PV := [pS x.From, pL TRecipient.pc x.To, pS x.Id]
structure TField where
  Name : Str
  Value : Str
def TField.pc (x : TField) : List PV := [pS x.Name, pS x.Value]
structure TMessage where
  Fields : List TField
  Body : List UInt8
def TMessage.pc (x : TMessage) : List PV := [pL TField.pc x.Fields, pL cU x.Body]
structure TMail where
  Envelope : TEnvelope
  Message : TMessage
def TMail.pc (x : TMail) : List PV := [pS x.Envelope.From, pL TRecipient.pc x.Envelope.To, pS x.Envelope.Id, pL TField.pc x.Message.Fields, pL cU x.Message.Body]
structure TForward where
  Address : Str
  To : List Str
  Keep : Bool
def TForward.pc (x : TForward) : List PV := [pS x.Address, pL cS x.To, pB x.Keep]
end Go.Proofs.YtfhfjckjmacekaaGreat

/- Rows of the table of types. Written by program. -/
namespace Go.Proofs.YtfhfjckjmacekaaGreat
open Go.RowKit
set_option maxRecDepth 100000
set_option maxHeartbeats 40000000
set_option linter.unusedVariables false
theorem mixed : Tryz.prog.follows .mixedOrders = true := by kernel_rfl
theorem cmp_api_Fault : CmpOk Tryz.prog 24 := ⟨by kernel_rfl, by kernel_rfl⟩
theorem cmp_api_Field : CmpOk Tryz.prog 62 := ⟨by kernel_rfl, by kernel_rfl⟩
theorem cmp_api_Recipient : CmpOk Tryz.prog 64 := ⟨by kernel_rfl, by kernel_rfl⟩
theorem pl_api_Alias (w : World) : Sem.run Tryz.prog (Array.mapM (fun (f : Field) => do pure (f.offset, ← sizeOf f.type)) #[⟨"Address", 9, 0, false, "", "", 0⟩, ⟨"To", 26, 1, false, "", "", 16⟩]) w = .ok #[(0, 1), (1, 1)] w := by kernel_rfl
theorem pl_api_Envelope (w : World) : Sem.run Tryz.prog (Array.mapM (fun (f : Field) => do pure (f.offset, ← sizeOf f.type)) #[⟨"From", 9, 0, false, "", "", 0⟩, ⟨"To", 35, 1, false, "", "", 16⟩, ⟨"Id", 9, 2, false, "", "", 40⟩]) w = .ok #[(0, 1), (1, 1), (2, 1)] w := by kernel_rfl
theorem pl_api_Fault (w : World) : Sem.run Tryz.prog (Array.mapM (fun (f : Field) => do pure (f.offset, ← sizeOf f.type)) #[⟨"Code", 3, 0, false, "", "", 0⟩, ⟨"Index", 3, 1, false, "", "", 8⟩]) w = .ok #[(0, 1), (1, 1)] w := by kernel_rfl
theorem pl_api_Field (w : World) : Sem.run Tryz.prog (Array.mapM (fun (f : Field) => do pure (f.offset, ← sizeOf f.type)) #[⟨"Name", 9, 0, false, "", "", 0⟩, ⟨"Value", 9, 1, false, "", "", 16⟩]) w = .ok #[(0, 1), (1, 1)] w := by kernel_rfl
theorem pl_api_Forward (w : World) : Sem.run Tryz.prog (Array.mapM (fun (f : Field) => do pure (f.offset, ← sizeOf f.type)) #[⟨"Address", 9, 0, false, "", "", 0⟩, ⟨"To", 26, 1, false, "", "", 16⟩, ⟨"Keep", 4, 2, false, "", "", 40⟩]) w = .ok #[(0, 1), (1, 1), (2, 1)] w := by kernel_rfl
theorem pl_api_Mail (w : World) : Sem.run Tryz.prog (Array.mapM (fun (f : Field) => do pure (f.offset, ← sizeOf f.type)) #[⟨"Envelope", 37, 0, false, "", "", 0⟩, ⟨"Message", 41, 3, false, "", "", 56⟩]) w = .ok #[(0, 3), (3, 2)] w := by kernel_rfl
theorem pl_api_Message (w : World) : Sem.run Tryz.prog (Array.mapM (fun (f : Field) => do pure (f.offset, ← sizeOf f.type)) #[⟨"Fields", 38, 0, false, "", "", 0⟩, ⟨"Body", 39, 1, false, "", "", 24⟩]) w = .ok #[(0, 1), (1, 1)] w := by kernel_rfl
theorem pl_api_Recipient (w : World) : Sem.run Tryz.prog (Array.mapM (fun (f : Field) => do pure (f.offset, ← sizeOf f.type)) #[⟨"Address", 9, 0, false, "", "", 0⟩, ⟨"Notify", 3, 1, false, "", "", 16⟩]) w = .ok #[(0, 1), (1, 1)] w := by kernel_rfl
theorem ty_api_Alias : TyOk Tryz.prog 79 2 40 (.agg #[.string ⟨#[]⟩, .slice none 0 0]) (.struct #[⟨"Address", 9, 0, false, "", "", 0⟩, ⟨"To", 26, 1, false, "", "", 16⟩]) := ⟨by kernel_rfl, by kernel_rfl⟩
theorem ty_api_Envelope : TyOk Tryz.prog 37 3 56 (.agg #[.string ⟨#[]⟩, .slice none 0 0, .string ⟨#[]⟩]) (.struct #[⟨"From", 9, 0, false, "", "", 0⟩, ⟨"To", 35, 1, false, "", "", 16⟩, ⟨"Id", 9, 2, false, "", "", 40⟩]) := ⟨by kernel_rfl, by kernel_rfl⟩
theorem ty_api_Fault : TyOk Tryz.prog 24 2 16 (.agg #[.int .i64 0, .int .i64 0]) (.struct #[⟨"Code", 3, 0, false, "", "", 0⟩, ⟨"Index", 3, 1, false, "", "", 8⟩]) := ⟨by kernel_rfl, by kernel_rfl⟩
theorem ty_api_Field : TyOk Tryz.prog 62 2 32 (.agg #[.string ⟨#[]⟩, .string ⟨#[]⟩]) (.struct #[⟨"Name", 9, 0, false, "", "", 0⟩, ⟨"Value", 9, 1, false, "", "", 16⟩]) := ⟨by kernel_rfl, by kernel_rfl⟩
theorem ty_api_Forward : TyOk Tryz.prog 58 3 48 (.agg #[.string ⟨#[]⟩, .slice none 0 0, .bool false]) (.struct #[⟨"Address", 9, 0, false, "", "", 0⟩, ⟨"To", 26, 1, false, "", "", 16⟩, ⟨"Keep", 4, 2, false, "", "", 40⟩]) := ⟨by kernel_rfl, by kernel_rfl⟩
theorem ty_api_Mail : TyOk Tryz.prog 43 5 104 (.agg #[.string ⟨#[]⟩, .slice none 0 0, .string ⟨#[]⟩, .slice none 0 0, .slice none 0 0]) (.struct #[⟨"Envelope", 37, 0, false, "", "", 0⟩, ⟨"Message", 41, 3, false, "", "", 56⟩]) := ⟨by kernel_rfl, by kernel_rfl⟩
theorem ty_api_Message : TyOk Tryz.prog 41 2 48 (.agg #[.slice none 0 0, .slice none 0 0]) (.struct #[⟨"Fields", 38, 0, false, "", "", 0⟩, ⟨"Body", 39, 1, false, "", "", 24⟩]) := ⟨by kernel_rfl, by kernel_rfl⟩
theorem ty_api_Recipient : TyOk Tryz.prog 64 2 24 (.agg #[.string ⟨#[]⟩, .int .i64 0]) (.struct #[⟨"Address", 9, 0, false, "", "", 0⟩, ⟨"Notify", 3, 1, false, "", "", 16⟩]) := ⟨by kernel_rfl, by kernel_rfl⟩
theorem ty_bool : TyOk Tryz.prog 4 1 1 (.bool false) .bool := ⟨by kernel_rfl, by kernel_rfl⟩
theorem ty_int : TyOk Tryz.prog 3 1 8 (.int .i64 0) (.int .i64) := ⟨by kernel_rfl, by kernel_rfl⟩
theorem ty_int32 : TyOk Tryz.prog 21 1 4 (.int .i32 0) (.int .i32) := ⟨by kernel_rfl, by kernel_rfl⟩
theorem ty_map_string_bool : TyOk Tryz.prog 85 1 8 (.map none) (.map 9 4) := ⟨by kernel_rfl, by kernel_rfl⟩
theorem ty_map_string_s_string : TyOk Tryz.prog 83 1 8 (.map none) (.map 9 26) := ⟨by kernel_rfl, by kernel_rfl⟩
theorem ty_s_api_Alias : TyOk Tryz.prog 50 1 24 (.slice none 0 0) (.slice 79) := ⟨by kernel_rfl, by kernel_rfl⟩
theorem ty_s_api_Field : TyOk Tryz.prog 38 1 24 (.slice none 0 0) (.slice 62) := ⟨by kernel_rfl, by kernel_rfl⟩
theorem ty_s_api_Forward : TyOk Tryz.prog 22 1 24 (.slice none 0 0) (.slice 58) := ⟨by kernel_rfl, by kernel_rfl⟩
theorem ty_s_api_Mail : TyOk Tryz.prog 44 1 24 (.slice none 0 0) (.slice 43) := ⟨by kernel_rfl, by kernel_rfl⟩
theorem ty_s_api_Recipient : TyOk Tryz.prog 35 1 24 (.slice none 0 0) (.slice 64) := ⟨by kernel_rfl, by kernel_rfl⟩
theorem ty_s_s_api_Field : TyOk Tryz.prog 120 1 24 (.slice none 0 0) (.slice 38) := ⟨by kernel_rfl, by kernel_rfl⟩
theorem ty_s_string : TyOk Tryz.prog 26 1 24 (.slice none 0 0) (.slice 9) := ⟨by kernel_rfl, by kernel_rfl⟩
theorem ty_s_uint8 : TyOk Tryz.prog 39 1 24 (.slice none 0 0) (.slice 5) := ⟨by kernel_rfl, by kernel_rfl⟩
theorem ty_string : TyOk Tryz.prog 9 1 16 (.string ⟨#[]⟩) .string := ⟨by kernel_rfl, by kernel_rfl⟩
theorem ty_uint8 : TyOk Tryz.prog 5 1 1 (.int .u8 0) (.int .u8) := ⟨by kernel_rfl, by kernel_rfl⟩
def tab : Tab := [(79, ⟨2, 40, (.agg #[.string ⟨#[]⟩, .slice none 0 0]), (.struct #[⟨"Address", 9, 0, false, "", "", 0⟩, ⟨"To", 26, 1, false, "", "", 16⟩]), (some #[(0, 1), (1, 1)])⟩), (37, ⟨3, 56, (.agg #[.string ⟨#[]⟩, .slice none 0 0, .string ⟨#[]⟩]), (.struct #[⟨"From", 9, 0, false, "", "", 0⟩, ⟨"To", 35, 1, false, "", "", 16⟩, ⟨"Id", 9, 2, false, "", "", 40⟩]), (some #[(0, 1), (1, 1), (2, 1)])⟩), (24, ⟨2, 16, (.agg #[.int .i64 0, .int .i64 0]), (.struct #[⟨"Code", 3, 0, false, "", "", 0⟩, ⟨"Index", 3, 1, false, "", "", 8⟩]), (some #[(0, 1), (1, 1)])⟩), (62, ⟨2, 32, (.agg #[.string ⟨#[]⟩, .string ⟨#[]⟩]), (.struct #[⟨"Name", 9, 0, false, "", "", 0⟩, ⟨"Value", 9, 1, false, "", "", 16⟩]), (some #[(0, 1), (1, 1)])⟩), (58, ⟨3, 48, (.agg #[.string ⟨#[]⟩, .slice none 0 0, .bool false]), (.struct #[⟨"Address", 9, 0, false, "", "", 0⟩, ⟨"To", 26, 1, false, "", "", 16⟩, ⟨"Keep", 4, 2, false, "", "", 40⟩]), (some #[(0, 1), (1, 1), (2, 1)])⟩), (43, ⟨5, 104, (.agg #[.string ⟨#[]⟩, .slice none 0 0, .string ⟨#[]⟩, .slice none 0 0, .slice none 0 0]), (.struct #[⟨"Envelope", 37, 0, false, "", "", 0⟩, ⟨"Message", 41, 3, false, "", "", 56⟩]), (some #[(0, 3), (3, 2)])⟩), (41, ⟨2, 48, (.agg #[.slice none 0 0, .slice none 0 0]), (.struct #[⟨"Fields", 38, 0, false, "", "", 0⟩, ⟨"Body", 39, 1, false, "", "", 24⟩]), (some #[(0, 1), (1, 1)])⟩), (64, ⟨2, 24, (.agg #[.string ⟨#[]⟩, .int .i64 0]), (.struct #[⟨"Address", 9, 0, false, "", "", 0⟩, ⟨"Notify", 3, 1, false, "", "", 16⟩]), (some #[(0, 1), (1, 1)])⟩), (4, ⟨1, 1, (.bool false), .bool, none⟩), (3, ⟨1, 8, (.int .i64 0), (.int .i64), none⟩), (21, ⟨1, 4, (.int .i32 0), (.int .i32), none⟩), (85, ⟨1, 8, (.map none), (.map 9 4), none⟩), (83, ⟨1, 8, (.map none), (.map 9 26), none⟩), (50, ⟨1, 24, (.slice none 0 0), (.slice 79), none⟩), (38, ⟨1, 24, (.slice none 0 0), (.slice 62), none⟩), (22, ⟨1, 24, (.slice none 0 0), (.slice 58), none⟩), (44, ⟨1, 24, (.slice none 0 0), (.slice 43), none⟩), (35, ⟨1, 24, (.slice none 0 0), (.slice 64), none⟩), (120, ⟨1, 24, (.slice none 0 0), (.slice 38), none⟩), (26, ⟨1, 24, (.slice none 0 0), (.slice 9), none⟩), (39, ⟨1, 24, (.slice none 0 0), (.slice 5), none⟩), (9, ⟨1, 16, (.string ⟨#[]⟩), .string, none⟩), (5, ⟨1, 1, (.int .u8 0), (.int .u8), none⟩)]
theorem tk : TabOk Tryz.prog tab := (tab_consP ty_api_Alias pl_api_Alias (tab_consP ty_api_Envelope pl_api_Envelope (tab_consP ty_api_Fault pl_api_Fault (tab_consP ty_api_Field pl_api_Field (tab_consP ty_api_Forward pl_api_Forward (tab_consP ty_api_Mail pl_api_Mail (tab_consP ty_api_Message pl_api_Message (tab_consP ty_api_Recipient pl_api_Recipient (tab_cons ty_bool (tab_cons ty_int (tab_cons ty_int32 (tab_cons ty_map_string_bool (tab_cons ty_map_string_s_string (tab_cons ty_s_api_Alias (tab_cons ty_s_api_Field (tab_cons ty_s_api_Forward (tab_cons ty_s_api_Mail (tab_cons ty_s_api_Recipient (tab_cons ty_s_s_api_Field (tab_cons ty_s_string (tab_cons ty_s_uint8 (tab_cons ty_string (tab_cons ty_uint8 tab_nil)))))))))))))))))))))))
end Go.Proofs.YtfhfjckjmacekaaGreat

/- How the laws' arguments are read. Written by program. -/
namespace Go.Proofs.YtfhfjckjmacekaaGreat
open Go.RowKit
set_option maxRecDepth 100000
set_option linter.unusedVariables false
theorem op_string : Opens Tryz.prog 9 1 cS okStr (fun s => s.length + 1) := opens_S ty_string.u (by kernel_rfl)
theorem op_s_string : Opens Tryz.prog 26 1 (cL cS) (okL okStr) (bkL (fun s => s.length + 1)) := opens_L op_string rfl ty_s_string.u (by kernel_rfl)
theorem op_bool : Opens Tryz.prog 4 1 cB (fun _ => True) (fun _ => 1) := opens_B ty_bool.u (by kernel_rfl)
def TForward.ok (x : TForward) : Prop := okStr x.Address ∧ (okL okStr) x.To ∧ (fun _ => True) x.Keep
def TForward.bk (x : TForward) : Nat := (fun s => s.length + 1) x.Address + (bkL (fun s => s.length + 1)) x.To + (fun _ => 1) x.Keep + 1
instance : Inhabited TForward := ⟨⟨default, default, default⟩⟩
theorem op_api_Forward : Opens Tryz.prog 58 3 TForward.pc TForward.ok TForward.bk := ⟨by kernel_rfl, fun _ => rfl, fun {H enc W fuel cs d} h => by
  obtain ⟨xs, n, _, rfl, hl, hlen, hf⟩ := DataW.trod_struct ty_api_Forward.u h
  have hl2 : cs.length = 3 := hl.trans (by kernel_rfl)
  match xs, hlen with
  | [y0, y1, y2], _ =>
    obtain ⟨x0, r0, o0, b0⟩ := op_string.op (show _ = some y0 from hf 0 _ rfl)
    replace r0 : RelC W _ (List.take (Tryz.prog.cellsOf 9) (List.drop 0 cs)) := r0
    rw [op_string.cells] at r0
    obtain ⟨x1, r1, o1, b1⟩ := op_s_string.op (show _ = some y1 from hf 1 _ rfl)
    replace r1 : RelC W _ (List.take (Tryz.prog.cellsOf 26) (List.drop 1 cs)) := r1
    rw [op_s_string.cells] at r1
    obtain ⟨x2, r2, o2, b2⟩ := op_bool.op (show _ = some y2 from hf 2 _ rfl)
    replace r2 : RelC W _ (List.take (Tryz.prog.cellsOf 4) (List.drop 2 cs)) := r2
    rw [op_bool.cells] at r2
    exact ⟨⟨x0, x1, x2⟩, (relC_seg (off := 0) rfl r0 (relC_seg (off := 1) rfl r1 (relC_seg (off := 2) rfl r2 (relC_end hl2)))), ⟨o0, o1, o2⟩, by simp only [List.map, Rows.uptoBulk, Rows.uptoBulkAll, TForward.bk]; omega⟩⟩
theorem op_s_api_Forward : Opens Tryz.prog 22 1 (cL TForward.pc) (okL TForward.ok) (bkL TForward.bk) := opens_L op_api_Forward rfl ty_s_api_Forward.u (by kernel_rfl)
theorem op_int : Opens Tryz.prog 3 1 cI ok64 (fun _ => 1) := opens_I ty_int.u (by kernel_rfl)
def TRecipient.ok (x : TRecipient) : Prop := okStr x.Address ∧ ok64 x.Notify
def TRecipient.bk (x : TRecipient) : Nat := (fun s => s.length + 1) x.Address + (fun _ => 1) x.Notify + 1
instance : Inhabited TRecipient := ⟨⟨default, default⟩⟩
theorem op_api_Recipient : Opens Tryz.prog 64 2 TRecipient.pc TRecipient.ok TRecipient.bk := ⟨by kernel_rfl, fun _ => rfl, fun {H enc W fuel cs d} h => by
  obtain ⟨xs, n, _, rfl, hl, hlen, hf⟩ := DataW.trod_struct ty_api_Recipient.u h
  have hl2 : cs.length = 2 := hl.trans (by kernel_rfl)
  match xs, hlen with
  | [y0, y1], _ =>
    obtain ⟨x0, r0, o0, b0⟩ := op_string.op (show _ = some y0 from hf 0 _ rfl)
    replace r0 : RelC W _ (List.take (Tryz.prog.cellsOf 9) (List.drop 0 cs)) := r0
    rw [op_string.cells] at r0
    obtain ⟨x1, r1, o1, b1⟩ := op_int.op (show _ = some y1 from hf 1 _ rfl)
    replace r1 : RelC W _ (List.take (Tryz.prog.cellsOf 3) (List.drop 1 cs)) := r1
    rw [op_int.cells] at r1
    exact ⟨⟨x0, x1⟩, (relC_seg (off := 0) rfl r0 (relC_seg (off := 1) rfl r1 (relC_end hl2))), ⟨o0, o1⟩, by simp only [List.map, Rows.uptoBulk, Rows.uptoBulkAll, TRecipient.bk]; omega⟩⟩
theorem op_s_api_Recipient : Opens Tryz.prog 35 1 (cL TRecipient.pc) (okL TRecipient.ok) (bkL TRecipient.bk) := opens_L op_api_Recipient rfl ty_s_api_Recipient.u (by kernel_rfl)
def TEnvelope.ok (x : TEnvelope) : Prop := okStr x.From ∧ (okL TRecipient.ok) x.To ∧ okStr x.Id
def TEnvelope.bk (x : TEnvelope) : Nat := (fun s => s.length + 1) x.From + (bkL TRecipient.bk) x.To + (fun s => s.length + 1) x.Id + 1
instance : Inhabited TEnvelope := ⟨⟨default, default, default⟩⟩
theorem op_api_Envelope : Opens Tryz.prog 37 3 TEnvelope.pc TEnvelope.ok TEnvelope.bk := ⟨by kernel_rfl, fun _ => rfl, fun {H enc W fuel cs d} h => by
  obtain ⟨xs, n, _, rfl, hl, hlen, hf⟩ := DataW.trod_struct ty_api_Envelope.u h
  have hl2 : cs.length = 3 := hl.trans (by kernel_rfl)
  match xs, hlen with
  | [y0, y1, y2], _ =>
    obtain ⟨x0, r0, o0, b0⟩ := op_string.op (show _ = some y0 from hf 0 _ rfl)
    replace r0 : RelC W _ (List.take (Tryz.prog.cellsOf 9) (List.drop 0 cs)) := r0
    rw [op_string.cells] at r0
    obtain ⟨x1, r1, o1, b1⟩ := op_s_api_Recipient.op (show _ = some y1 from hf 1 _ rfl)
    replace r1 : RelC W _ (List.take (Tryz.prog.cellsOf 35) (List.drop 1 cs)) := r1
    rw [op_s_api_Recipient.cells] at r1
    obtain ⟨x2, r2, o2, b2⟩ := op_string.op (show _ = some y2 from hf 2 _ rfl)
    replace r2 : RelC W _ (List.take (Tryz.prog.cellsOf 9) (List.drop 2 cs)) := r2
    rw [op_string.cells] at r2
    exact ⟨⟨x0, x1, x2⟩, (relC_seg (off := 0) rfl r0 (relC_seg (off := 1) rfl r1 (relC_seg (off := 2) rfl r2 (relC_end hl2)))), ⟨o0, o1, o2⟩, by simp only [List.map, Rows.uptoBulk, Rows.uptoBulkAll, TEnvelope.bk]; omega⟩⟩
def TField.ok (x : TField) : Prop := okStr x.Name ∧ okStr x.Value
def TField.bk (x : TField) : Nat := (fun s => s.length + 1) x.Name + (fun s => s.length + 1) x.Value + 1
instance : Inhabited TField := ⟨⟨default, default⟩⟩
theorem op_api_Field : Opens Tryz.prog 62 2 TField.pc TField.ok TField.bk := ⟨by kernel_rfl, fun _ => rfl, fun {H enc W fuel cs d} h => by
  obtain ⟨xs, n, _, rfl, hl, hlen, hf⟩ := DataW.trod_struct ty_api_Field.u h
  have hl2 : cs.length = 2 := hl.trans (by kernel_rfl)
  match xs, hlen with
  | [y0, y1], _ =>
    obtain ⟨x0, r0, o0, b0⟩ := op_string.op (show _ = some y0 from hf 0 _ rfl)
    replace r0 : RelC W _ (List.take (Tryz.prog.cellsOf 9) (List.drop 0 cs)) := r0
    rw [op_string.cells] at r0
    obtain ⟨x1, r1, o1, b1⟩ := op_string.op (show _ = some y1 from hf 1 _ rfl)
    replace r1 : RelC W _ (List.take (Tryz.prog.cellsOf 9) (List.drop 1 cs)) := r1
    rw [op_string.cells] at r1
    exact ⟨⟨x0, x1⟩, (relC_seg (off := 0) rfl r0 (relC_seg (off := 1) rfl r1 (relC_end hl2))), ⟨o0, o1⟩, by simp only [List.map, Rows.uptoBulk, Rows.uptoBulkAll, TField.bk]; omega⟩⟩
theorem op_s_api_Field : Opens Tryz.prog 38 1 (cL TField.pc) (okL TField.ok) (bkL TField.bk) := opens_L op_api_Field rfl ty_s_api_Field.u (by kernel_rfl)
theorem op_uint8 : Opens Tryz.prog 5 1 cU (fun _ => True) (fun _ => 1) := opens_U ty_uint8.u (by kernel_rfl)
theorem op_s_uint8 : Opens Tryz.prog 39 1 (cL cU) (okL (fun _ => True)) (bkL (fun _ => 1)) := opens_L op_uint8 rfl ty_s_uint8.u (by kernel_rfl)
def TMessage.ok (x : TMessage) : Prop := (okL TField.ok) x.Fields ∧ (okL (fun _ => True)) x.Body
def TMessage.bk (x : TMessage) : Nat := (bkL TField.bk) x.Fields + (bkL (fun _ => 1)) x.Body + 1
instance : Inhabited TMessage := ⟨⟨default, default⟩⟩
theorem op_api_Message : Opens Tryz.prog 41 2 TMessage.pc TMessage.ok TMessage.bk := ⟨by kernel_rfl, fun _ => rfl, fun {H enc W fuel cs d} h => by
  obtain ⟨xs, n, _, rfl, hl, hlen, hf⟩ := DataW.trod_struct ty_api_Message.u h
  have hl2 : cs.length = 2 := hl.trans (by kernel_rfl)
  match xs, hlen with
  | [y0, y1], _ =>
    obtain ⟨x0, r0, o0, b0⟩ := op_s_api_Field.op (show _ = some y0 from hf 0 _ rfl)
    replace r0 : RelC W _ (List.take (Tryz.prog.cellsOf 38) (List.drop 0 cs)) := r0
    rw [op_s_api_Field.cells] at r0
    obtain ⟨x1, r1, o1, b1⟩ := op_s_uint8.op (show _ = some y1 from hf 1 _ rfl)
    replace r1 : RelC W _ (List.take (Tryz.prog.cellsOf 39) (List.drop 1 cs)) := r1
    rw [op_s_uint8.cells] at r1
    exact ⟨⟨x0, x1⟩, (relC_seg (off := 0) rfl r0 (relC_seg (off := 1) rfl r1 (relC_end hl2))), ⟨o0, o1⟩, by simp only [List.map, Rows.uptoBulk, Rows.uptoBulkAll, TMessage.bk]; omega⟩⟩
def TMail.ok (x : TMail) : Prop := TEnvelope.ok x.Envelope ∧ TMessage.ok x.Message
def TMail.bk (x : TMail) : Nat := TEnvelope.bk x.Envelope + TMessage.bk x.Message + 1
instance : Inhabited TMail := ⟨⟨default, default⟩⟩
theorem op_api_Mail : Opens Tryz.prog 43 5 TMail.pc TMail.ok TMail.bk := ⟨by kernel_rfl, fun _ => rfl, fun {H enc W fuel cs d} h => by
  obtain ⟨xs, n, _, rfl, hl, hlen, hf⟩ := DataW.trod_struct ty_api_Mail.u h
  have hl2 : cs.length = 5 := hl.trans (by kernel_rfl)
  match xs, hlen with
  | [y0, y1], _ =>
    obtain ⟨x0, r0, o0, b0⟩ := op_api_Envelope.op (show _ = some y0 from hf 0 _ rfl)
    replace r0 : RelC W _ (List.take (Tryz.prog.cellsOf 37) (List.drop 0 cs)) := r0
    rw [op_api_Envelope.cells] at r0
    obtain ⟨x1, r1, o1, b1⟩ := op_api_Message.op (show _ = some y1 from hf 1 _ rfl)
    replace r1 : RelC W _ (List.take (Tryz.prog.cellsOf 41) (List.drop 3 cs)) := r1
    rw [op_api_Message.cells] at r1
    exact ⟨⟨x0, x1⟩, (relC_seg (off := 0) rfl r0 (relC_seg (off := 3) rfl r1 (relC_end hl2))), ⟨o0, o1⟩, by simp only [List.map, Rows.uptoBulk, Rows.uptoBulkAll, TMail.bk]; omega⟩⟩
end Go.Proofs.YtfhfjckjmacekaaGreat

/- Functions of the program as Lean functions: what they compute. Written by program. -/
namespace Go.Proofs.YtfhfjckjmacekaaGreat
open Go.RowKit
set_option maxRecDepth 100000
set_option maxHeartbeats 40000000
set_option linter.unusedVariables false
def R_In (a0 : Int) (a1 : Int) (a2 : Int) : Option Bool :=
  ((bif decide (a1 ≤ a0) then some (decide (a0 ≤ a2)) else some false) : Option Bool).bind fun (j1 : Bool) => some j1
def R_At (a0 : Int) (a1 : Int) : Option TFault :=
  some ((TFault.mk a0 a1))
def R_Has_l1 (a0 : List Str) (a1 : Str) (s1 : Int) : Option (Step Int (Unit ⊕ Bool)) :=
  (bif decide (s1 < (a0.length : Int)) then (idx a0 s1).bind fun v7 => (bif (v7 == a1) then some (.out (.inr true)) else some (.cont (w64 (s1 + 1)))) else some (.out (.inl (()))))
noncomputable def R_Has (a0 : List Str) (a1 : Str) : Option Bool :=
  (iter (R_Has_l1 a0 a1) 0).bind (Sum.elim (fun b2 => some false) (fun b3 => some b3))
def R_letterOrDigit (a0 : UInt8) : Option Bool :=
  ((R_In ((a0.toNat : Int)) 97 122).bind fun v2 => (bif v2 then some true else (R_In ((a0.toNat : Int)) 65 90).bind fun v5 => (bif v5 then some true else (R_In ((a0.toNat : Int)) 48 57).bind fun v8 => some v8)) : Option Bool).bind fun (j1 : Bool) => some j1
def R_sign_l1 (a0 : Str) (s1 : Int) : Option (Step Int (Unit ⊕ Int)) :=
  (bif decide (s1 < (a0.length : Int)) then (idx a0 s1).bind fun v7 => (bif ((v7.toNat : Int) == 64) then some (.out (.inr s1)) else some (.cont (w64 (s1 + 1)))) else some (.out (.inl (()))))
noncomputable def R_sign (a0 : Str) : Option Int :=
  (iter (R_sign_l1 a0) 0).bind (Sum.elim (fun b2 => some ((a0.length : Int))) (fun b3 => some b3))
def R_DomainOk_l1 (a0 : Str) (s1 : Int) : Option (Step Int (Unit ⊕ Bool)) :=
  (bif decide (s1 < (a0.length : Int)) then (idx a0 s1).bind fun v7 => ((idx a0 s1).bind fun v10 => (bif ((v10.toNat : Int) == 46) then (bif (s1 == 0) then some true else (bif (s1 == (w64 ((a0.length : Int) - 1))) then some true else (idx a0 ((w64 (s1 - 1)))).bind fun v15 => some (((v15.toNat : Int) == 46)))) else some false) : Option Bool).bind fun (j9 : Bool) => (bif j9 then some (.out (.inr false)) else ((R_In ((v7.toNat : Int)) 97 122).bind fun v19 => (bif (!v19) then (R_In ((v7.toNat : Int)) 48 57).bind fun v22 => (bif (!v22) then (idx a0 s1).bind fun v25 => (bif ((v25.toNat : Int) != 45) then (idx a0 s1).bind fun v28 => some (((v28.toNat : Int) != 46)) else some false) else some false) else some false) : Option Bool).bind fun (j18 : Bool) => (bif j18 then some (.out (.inr false)) else some (.cont (w64 (s1 + 1))))) else some (.out (.inl (()))))
noncomputable def R_DomainOk (a0 : Str) : Option Bool :=
  (iter (R_DomainOk_l1 a0) 0).bind (Sum.elim (fun b2 => (R_In ((a0.length : Int)) 1 60).bind fun v31 => some v31) (fun b3 => some b3))
def R_AddressOk_l1 (a0 : Str) (v1 : Int) (s3 : Int) : Option (Step Int (Unit ⊕ Bool)) :=
  (bif decide (s3 < v1) then (idx a0 s3).bind fun v9 => ((R_letterOrDigit v9).bind fun v12 => (bif (!v12) then (bif ((v9.toNat : Int) != 45) then (bif ((v9.toNat : Int) != 95) then (bif ((v9.toNat : Int) != 46) then (bif ((v9.toNat : Int) != 43) then some (((v9.toNat : Int) != 61)) else some false) else some false) else some false) else some false) else some false) : Option Bool).bind fun (j11 : Bool) => (bif j11 then some (.out (.inr false)) else some (.cont (w64 (s3 + 1)))) else some (.out (.inl (()))))
noncomputable def R_AddressOk (a0 : Str) : Option Bool :=
  (R_sign a0).bind fun v1 => (iter (R_AddressOk_l1 a0 v1) 0).bind (Sum.elim (fun b4 => ((R_In v1 1 60).bind fun v21 => (bif v21 then (bif decide (v1 < (a0.length : Int)) then (cut a0 ((w64 (v1 + 1))) ((a0.length : Int))).bind fun v25 => (R_DomainOk v25).bind fun v27 => some v27 else some false) else some false) : Option Bool).bind fun (j20 : Bool) => some j20) (fun b5 => some b5))
noncomputable def R_AddressesOk_l1 (a0 : List Str) (s1 : Int) : Option (Step Int (Unit ⊕ Bool)) :=
  (bif decide (s1 < (a0.length : Int)) then (idx a0 s1).bind fun v7 => (R_AddressOk v7).bind fun v9 => (bif (!v9) then some (.out (.inr false)) else some (.cont (w64 (s1 + 1)))) else some (.out (.inl (()))))
noncomputable def R_AddressesOk (a0 : List Str) : Option Bool :=
  (iter (R_AddressesOk_l1 a0) 0).bind fun o => match o with | .inl b2 => some true | .inr b3 => some b3
def R_targets_l1 (a0 : List TAlias) (a1 : Str) (s1 : Int) : Option (Step Int (Unit ⊕ ((List Str) × Bool))) :=
  (bif decide (s1 < (a0.length : Int)) then (idx a0 s1).bind fun v7 => (bif (v7.Address == a1) then (idx a0 s1).bind fun v10 => some (.out (.inr ((v10.To, true)))) else some (.cont (w64 (s1 + 1)))) else some (.out (.inl (()))))
noncomputable def R_targets (a0 : List TAlias) (a1 : Str) : Option ((List Str) × Bool) :=
  (iter (R_targets_l1 a0 a1) 0).bind fun o => match o with | .inl b2 => some (([], false)) | .inr b3 => some ((b3.1, b3.2))
def basic_Fault (a0 : Int) (a1 : Int) : Option TFault :=
  some ((TFault.mk a0 a1))
def basic_None  : Option TFault :=
  some ((TFault.mk 0 0))
def basic_Failed (a0 : TFault) : Option Bool :=
  some ((a0.Code != 0))
def basic_Time (a0 : Int) : Option Bool :=
  ((bif decide ((-68719476736) ≤ a0) then some (decide (a0 ≤ 68719476736)) else some false) : Option Bool).bind fun (j1 : Bool) => some j1
def basic_Letter (a0 : UInt8) : Option Bool :=
  ((bif decide (97 ≤ (a0.toNat : Int)) then (bif decide ((a0.toNat : Int) ≤ 122) then some true else (bif decide (65 ≤ (a0.toNat : Int)) then (bif decide ((a0.toNat : Int) ≤ 90) then some true else (bif decide (48 ≤ (a0.toNat : Int)) then some (decide ((a0.toNat : Int) ≤ 57)) else some false)) else (bif decide (48 ≤ (a0.toNat : Int)) then some (decide ((a0.toNat : Int) ≤ 57)) else some false))) else (bif decide (65 ≤ (a0.toNat : Int)) then (bif decide ((a0.toNat : Int) ≤ 90) then some true else (bif decide (48 ≤ (a0.toNat : Int)) then some (decide ((a0.toNat : Int) ≤ 57)) else some false)) else (bif decide (48 ≤ (a0.toNat : Int)) then some (decide ((a0.toNat : Int) ≤ 57)) else some false))) : Option Bool).bind fun (j1 : Bool) => some j1
def R_Strings_l1 (a0 : List Str) (a1 : List Str) (s2 : Int) : Option (Step Int (Unit ⊕ Bool)) :=
  (bif decide (s2 < (a0.length : Int)) then (idx a0 s2).bind fun v8 => (idx a1 s2).bind fun v10 => (bif (v8 != v10) then some (.out (.inr false)) else some (.cont (w64 (s2 + 1)))) else some (.out (.inl (()))))
noncomputable def R_Strings (a0 : List Str) (a1 : List Str) : Option Bool :=
  (bif ((a0.length : Int) != (a1.length : Int)) then some false else (iter (R_Strings_l1 a0 a1) 0).bind (Sum.elim (fun b3 => some true) (fun b4 => some b4)))
def R_Lines_l1 (a0 : List UInt8) (s1 : Int × Int × (List Str)) : Option (Step (Int × Int × (List Str)) (Int × (List Str))) :=
  (bif decide (s1.2.1 < (a0.length : Int)) then (((idx a0 s1.2.1).bind fun v7 => (bif ((v7.toNat : Int) == 10) then (idx a0 ((w64 (s1.2.1 - 1)))).bind fun v10 => (bif ((v10.toNat : Int) == 13) then some (decide (s1.1 < s1.2.1)) else some false) else some false) : Option Bool).bind fun (j6 : Bool) => (bif j6 then (cut a0 s1.1 ((w64 (s1.2.1 - 1)))).bind fun v14 => (app 8796093022208 s1.2.2 (([v14] : List Str))).bind fun v16 => some (((w64 (s1.2.1 + 1)), v16)) else some ((s1.1, s1.2.2))) : Option (Int × (List Str))).bind fun (j5 : Int × (List Str)) => some (.cont (j5.1, (w64 (s1.2.1 + 1)), j5.2)) else some (.out ((s1.1, s1.2.2))))
noncomputable def R_Lines (a0 : List UInt8) : Option ((List Str) × (List UInt8)) :=
  (iter (R_Lines_l1 a0) ((0, 1, ([] : List Str)))).bind fun b2 => (cut a0 b2.1 ((a0.length : Int))).bind fun v18 => some ((b2.2, v18))
def R_undotted (a0 : Str) : Option Str :=
  ((bif decide (0 < (a0.length : Int)) then (idx a0 0).bind fun v3 => some (((v3.toNat : Int) == 46)) else some false) : Option Bool).bind fun (j1 : Bool) => (bif j1 then (cut a0 1 ((a0.length : Int))).bind fun v6 => some v6 else some a0)
def R_Received_l1 (v1 : (List Str) × (List UInt8)) (s3 : Int × Int × (List UInt8)) : Option (Step (Int × Int × (List UInt8)) ((List UInt8) ⊕ ((List UInt8) × Int × Bool))) :=
  (bif decide (s3.2.1 < (v1.1.length : Int)) then (idx v1.1 s3.2.1).bind fun v9 => (idx v1.1 s3.2.1).bind fun v11 => (bif (v11 == ([46] : Str)) then some (.out (.inr ((s3.2.2, (w64 ((w64 (s3.1 + (v9.length : Int))) + 2)), decide (12000 < (s3.2.2.length : Int)))))) else (idx v1.1 s3.2.1).bind fun v14 => (R_undotted v14).bind fun v16 => (app 140737488355328 s3.2.2 v16).bind fun v18 => (app 140737488355328 v18 (([(13 : UInt8), (10 : UInt8)] : List UInt8))).bind fun v20 => some (.cont ((w64 ((w64 (s3.1 + (v9.length : Int))) + 2)), (w64 (s3.2.1 + 1)), v20))) else some (.out (.inl s3.2.2)))
noncomputable def R_Received (a0 : List UInt8) : Option ((List UInt8) × Int × Bool) :=
  (R_Lines a0).bind fun v1 => (iter (R_Received_l1 v1) ((0, 0, ([] : List UInt8)))).bind fun o => match o with | .inl b4 => (R_undotted v1.2).bind fun v22 => (((bif (v1.2 == ([46] : Str)) then some true else some ((v1.2 == ([46, 13] : Str)))) : Option Bool).bind fun (j25 : Bool) => (bif j25 then some (([] : Str)) else some v22) : Option Str).bind fun (j24 : Str) => some (([], 0, decide (12000 < (w64 ((b4.length : Int) + (j24.length : Int)))))) | .inr b5 => some ((b5.1, b5.2.1, b5.2.2))
noncomputable def R_Reached_l1 (a1 : List Str) (s1 : Int × (List Str)) : Option (Step (Int × (List Str)) (List Str)) :=
  (bif decide (s1.1 < (a1.length : Int)) then ((idx a1 s1.1).bind fun v6 => (R_Has s1.2 v6).bind fun v8 => (bif (!v8) then (idx a1 s1.1).bind fun v11 => (app 8796093022208 s1.2 (([v11] : List Str))).bind fun v13 => some v13 else some s1.2) : Option (List Str)).bind fun (j5 : List Str) => some (.cont ((w64 (s1.1 + 1)), j5)) else some (.out s1.2))
noncomputable def R_Reached_l3 (v21 : (List Str) × Bool) (s23 : Int × (List Str)) : Option (Step (Int × (List Str)) (List Str)) :=
  (bif decide (s23.1 < (v21.1.length : Int)) then ((idx v21.1 s23.1).bind fun v28 => (R_Has s23.2 v28).bind fun v30 => (bif (!v30) then (idx v21.1 s23.1).bind fun v33 => (app 8796093022208 s23.2 (([v33] : List Str))).bind fun v35 => some v35 else some s23.2) : Option (List Str)).bind fun (j27 : List Str) => some (.cont ((w64 (s23.1 + 1)), j27)) else some (.out s23.2))
noncomputable def R_Reached_l2 (a0 : List TAlias) (s15 : Int × (List Str)) : Option (Step (Int × (List Str)) (List Str)) :=
  (bif decide (s15.1 < (s15.2.length : Int)) then (idx s15.2 s15.1).bind fun v19 => (R_targets a0 v19).bind fun v21 => (iter (R_Reached_l3 v21) ((0, s15.2))).bind fun b24 => some (.cont ((w64 (s15.1 + 1)), b24)) else some (.out s15.2))
noncomputable def R_Reached (a0 : List TAlias) (a1 : List Str) : Option (List Str) :=
  (iter (R_Reached_l1 a1) ((0, ([] : List Str)))).bind fun b2 => (iter (R_Reached_l2 a0) ((0, b2))).bind fun b16 => some b16
def R_AliasesFault_l2 (a0 : List TAlias) (s4 : Int) (s31 : Int) : Option (Step Int (Unit ⊕ TFault)) :=
  (bif decide (s31 < s4) then (idx a0 s31).bind fun v37 => (idx a0 s4).bind fun v39 => (bif (v37.Address == v39.Address) then (R_At 7 s4).bind fun v42 => some (.out (.inr v42)) else some (.cont (w64 (s31 + 1)))) else some (.out (.inl (()))))
noncomputable def R_AliasesFault_l1 (a0 : List TAlias) (s4 : Int) : Option (Step Int (Unit ⊕ TFault)) :=
  (bif decide (s4 < (a0.length : Int)) then (idx a0 s4).bind fun v10 => (R_AddressOk v10.Address).bind fun v12 => (bif (!v12) then (R_At 10 s4).bind fun v15 => some (.out (.inr v15)) else (idx a0 s4).bind fun v17 => (R_In ((v17.To.length : Int)) 1 60).bind fun v19 => (bif (!v19) then (R_At 2 s4).bind fun v22 => some (.out (.inr v22)) else (idx a0 s4).bind fun v24 => (R_AddressesOk v24.To).bind fun v26 => (bif (!v26) then (R_At 10 s4).bind fun v29 => some (.out (.inr v29)) else (iter (R_AliasesFault_l2 a0 s4) 0).bind fun o => match o with | .inl b32 => some (.cont (w64 (s4 + 1))) | .inr b33 => some (.out (.inr b33))))) else some (.out (.inl (()))))
noncomputable def R_AliasesFault (a0 : List TAlias) : Option TFault :=
  (bif decide (40 < (a0.length : Int)) then (R_At 2 ((-1))).bind fun v2 => some v2 else (iter (R_AliasesFault_l1 a0) 0).bind fun o => match o with | .inl b5 => some ((TFault.mk 0 0)) | .inr b6 => some b6)
noncomputable def R_Expanded_l1 (a0 : List TAlias) (v12 : List Str) (s14 : Int × (List Str)) : Option (Step (Int × (List Str)) (List Str)) :=
  (bif decide (s14.1 < (v12.length : Int)) then ((idx v12 s14.1).bind fun v19 => (R_targets a0 v19).bind fun v21 => (bif (!v21.2) then (idx v12 s14.1).bind fun v24 => (app 8796093022208 s14.2 (([v24] : List Str))).bind fun v26 => some v26 else some s14.2) : Option (List Str)).bind fun (j18 : List Str) => some (.cont ((w64 (s14.1 + 1)), j18)) else some (.out s14.2))
noncomputable def R_Expanded (a0 : List TAlias) (a1 : Str) : Option ((List Str) × TFault) :=
  (R_AliasesFault a0).bind fun v1 => (((bif (v1.Code == 0) then (R_AddressOk a1).bind fun v6 => some ((!v6)) else some false) : Option Bool).bind fun (j4 : Bool) => (bif j4 then (R_At 10 ((-2))).bind fun v9 => some ((v9.Code, v9.Index)) else some ((v1.Code, v1.Index))) : Option (Int × Int)).bind fun (j3 : Int × Int) => (bif (j3.1 != 0) then some (([], (TFault.mk j3.1 j3.2))) else (R_Reached a0 (([a1] : List Str))).bind fun v12 => (iter (R_Expanded_l1 a0 v12) ((0, ([] : List Str)))).bind fun b15 => some ((b15, (TFault.mk j3.1 j3.2))))
def retry_times_l1 (a0 : List Int) (s1 : Int) : Option (Step Int (Unit ⊕ Bool)) :=
  (bif decide (s1 < (a0.length : Int)) then (idx a0 s1).bind fun v7 => (basic_Time v7).bind fun v9 => (bif (!v9) then some (.out (.inr false)) else some (.cont (w64 (s1 + 1)))) else some (.out (.inl (()))))
noncomputable def retry_times (a0 : List Int) : Option Bool :=
  (iter (retry_times_l1 a0) 0).bind fun o => match o with | .inl b2 => some true | .inr b3 => some b3
noncomputable def retry_Late (a0 : Int) (a1 : Int) (a2 : Int) : Option (Bool × TFault) :=
  (retry_times (([a0, a1, a2] : List Int))).bind fun v1 => (bif (!v1) then (basic_Fault 3 ((-2))).bind fun v4 => some ((false, v4)) else ((bif decide (a1 < a0) then some true else some (decide (a2 < a1))) : Option Bool).bind fun (j6 : Bool) => (bif j6 then (basic_Fault 19 ((-4))).bind fun v9 => some ((false, v9)) else ((bif decide (a1 < (w64 (a0 + 14400))) then (basic_None).bind fun v13 => some ((decide ((w64 (a0 + 14400)) ≤ a2), v13.Code, v13.Index)) else (basic_None).bind fun v15 => some ((false, v15.Code, v15.Index))) : Option (Bool × Int × Int)).bind fun (j11 : Bool × Int × Int) => some ((j11.1, (TFault.mk j11.2.1 j11.2.2)))))
def bytes_Equal (a0 : List UInt8) (a1 : List UInt8) : Option Bool :=
  some ((a0 == a1))
def bytes_HasPrefix (a0 : List UInt8) (a1 : List UInt8) : Option Bool :=
  ((bif decide ((a1.length : Int) ≤ (a0.length : Int)) then (cut a0 0 ((a1.length : Int))).bind fun v3 => (bytes_Equal v3 a1).bind fun v5 => some v5 else some false) : Option Bool).bind fun (j1 : Bool) => some j1
def bytes_HasSuffix (a0 : List UInt8) (a1 : List UInt8) : Option Bool :=
  ((bif decide ((a1.length : Int) ≤ (a0.length : Int)) then (cut a0 ((w64 ((a0.length : Int) - (a1.length : Int)))) ((a0.length : Int))).bind fun v3 => (bytes_Equal v3 a1).bind fun v5 => some v5 else some false) : Option Bool).bind fun (j1 : Bool) => some j1
def bytes_TrimPrefix (a0 : List UInt8) (a1 : List UInt8) : Option (List UInt8) :=
  (bytes_HasPrefix a0 a1).bind fun v1 => (bif v1 then (cut a0 ((a1.length : Int)) ((a0.length : Int))).bind fun v4 => some v4 else some a0)
end Go.Proofs.YtfhfjckjmacekaaGreat

/- Library functions as Lean functions. -/
namespace Go.Proofs.YtfhfjckjmacekaaGreat
open Go.RowKit
def bytes_Index (a b : List UInt8) : Option Int := if a.length < 4294967281 ∧ b.length = 2 then some (Lib.index a b) else none
def strings_IndexByte (s : Str) (c : UInt8) : Option Int := some (Lib.indexByte s c)
def strings_Contains (s t : Str) : Option Bool := if s.length < 4294967281 then some (Lib.contains s t) else none
def strings_Cut (s t : Str) : Option (Str × Str × Bool) := if s.length < 4294967281 then some (Lib.cut s t) else none
end Go.Proofs.YtfhfjckjmacekaaGreat

/- Functions of the program as Lean functions: what they compute. Written by program. -/
namespace Go.Proofs.YtfhfjckjmacekaaGreat
open Go.RowKit
set_option maxRecDepth 100000
set_option maxHeartbeats 40000000
set_option linter.unusedVariables false
def unicode_utf8_ValidRune (a0 : Int) : Option Bool :=
  ((bif decide (0 ≤ a0) then some (decide (a0 < 55296)) else some false) : Option Bool).bind fun (j1 : Bool) => (bif j1 then some true else ((bif decide (57343 < a0) then some (decide (a0 ≤ 1114111)) else some false) : Option Bool).bind fun (j4 : Bool) => (bif j4 then some true else some false))
def strings_IndexRune_l1 (a0 : Str) (s7 : Nat) : Option (Step Nat (Unit ⊕ Int)) :=
  (bif decide (s7 < a0.length) then (bif ((runeAt a0 s7) == 65533) then some (.out (.inr (((s7 : Nat) : Int)))) else some (.cont (s7 + wideAt a0 s7))) else some (.out (.inl (()))))
def strings_IndexRune_l4 (a0 : Str) (a1 : Int) (j23 : Int × Int) (s36 : Int) : Option (Step Int Unit) :=
  (bif decide (s36 < (((runeS a1)).length : Int)) then (idx a0 ((w64 (j23.2 - s36)))).bind fun v40 => (idx ((runeS a1)) ((w64 (j23.1 - s36)))).bind fun v42 => (bif ((v40.toNat : Int) != (v42.toNat : Int)) then none else some (.cont (w64 (s36 + 1)))) else some (.out (())))
noncomputable def strings_IndexRune_k3 (a0 : Str) (a1 : Int) (j23 : Int × Int) : Option (Step Int (Unit ⊕ Int)) :=
  (iter (strings_IndexRune_l4 a0 a1 j23) 1).bind fun b37 => some (.out (.inr ((w64 (j23.2 - j23.1)))))
noncomputable def strings_IndexRune_l2 (a0 : Str) (a1 : Int) (s17 : Int) : Option (Step Int (Unit ⊕ Int)) :=
  (bif decide (s17 < (a0.length : Int)) then (idx a0 s17).bind fun v24 => (idx ((runeS a1)) ((w64 ((((runeS a1)).length : Int) - 1)))).bind fun v26 => (bif ((v24.toNat : Int) != (v26.toNat : Int)) then (cut a0 ((w64 (s17 + 1))) ((a0.length : Int))).bind fun v29 => (idx ((runeS a1)) ((w64 ((((runeS a1)).length : Int) - 1)))).bind fun v31 => (strings_IndexByte v29 v31).bind fun v33 => (bif decide (v33 < 0) then some (.out (.inr ((-1)))) else (strings_IndexRune_k3 a0 a1 ((w64 ((((runeS a1)).length : Int) - 1)), (w64 (s17 + (w64 (v33 + 1))))))) else (strings_IndexRune_k3 a0 a1 ((w64 ((((runeS a1)).length : Int) - 1)), s17))) else some (.out (.inl (()))))
noncomputable def strings_IndexRune (a0 : Str) (a1 : Int) : Option Int :=
  ((bif decide (0 ≤ a1) then some (decide (a1 < 128)) else some false) : Option Bool).bind fun (j1 : Bool) => (bif j1 then (strings_IndexByte a0 ((toU8 a1))).bind fun v4 => some v4 else (bif (a1 == 65533) then (iter (strings_IndexRune_l1 a0) 0).bind (Sum.elim (fun b8 => some ((-1))) (fun b9 => some b9)) else (unicode_utf8_ValidRune a1).bind fun v14 => (bif (!v14) then some ((-1)) else (iter (strings_IndexRune_l2 a0 a1) ((w64 ((((runeS a1)).length : Int) - 1)))).bind (Sum.elim (fun b18 => some ((-1))) (fun b19 => some b19)))))
def strings_shouldUseASCIISet (a0 : Int) : Option Bool :=
  some (decide (8 < a0))
noncomputable def strings_IndexAnyP_l1 (a0 : Str) (a1 : Str) (s12 : Nat) : Option (Step Nat (Unit ⊕ Int)) :=
  (bif decide (s12 < a0.length) then (strings_IndexRune a1 ((runeAt a0 s12))).bind fun v18 => (bif decide (0 ≤ v18) then some (.out (.inr (((s12 : Nat) : Int)))) else some (.cont (s12 + wideAt a0 s12))) else some (.out (.inl (()))))
noncomputable def strings_IndexAnyP (a0 : Str) (a1 : Str) : Option Int :=
  (bif (a1 == ([] : Str)) then some ((-1)) else (bif ((a1.length : Int) == 1) then (idx a1 0).bind fun v3 => ((bif decide (128 ≤ (v3.toNat : Int)) then some 65533 else some ((v3.toNat : Int))) : Option Int).bind fun (j5 : Int) => (strings_IndexRune a0 j5).bind fun v7 => some v7 else (strings_shouldUseASCIISet ((a0.length : Int))).bind fun v9 => (bif v9 then none else (iter (strings_IndexAnyP_l1 a0 a1) 0).bind (Sum.elim (fun b13 => some ((-1))) (fun b14 => some b14)))))
end Go.Proofs.YtfhfjckjmacekaaGreat

/- Library functions as Lean functions. -/
namespace Go.Proofs.YtfhfjckjmacekaaGreat
open Go.RowKit
def asciiL (t : Str) : Bool := t.all fun c => decide (c.toNat < 128)
def strings_IndexAny (s t : Str) : Option Int := if s.length < 4294967281 ∧ t.length < 4294967281 ∧ 2 ≤ t.length ∧ asciiL t = true then some (Lib.indexAny s t) else none
end Go.Proofs.YtfhfjckjmacekaaGreat

/- Functions of the program as Lean functions: what they compute. Written by program. -/
namespace Go.Proofs.YtfhfjckjmacekaaGreat
open Go.RowKit
set_option maxRecDepth 100000
set_option maxHeartbeats 40000000
set_option linter.unusedVariables false
def lines_Split_l1 (a0 : List UInt8) (s4 : Int × Int × (List Str)) : Option (Step (Int × Int × (List Str)) ((Int × (List Str)) ⊕ (Int × (List Str) × Int × Int))) :=
  (cut a0 s4.1 ((a0.length : Int))).bind fun v9 => (bytes_Index v9 (([(13 : UInt8), (10 : UInt8)] : List UInt8))).bind fun v11 => (bif decide (v11 < 0) then some (.out (.inl ((s4.2.1, s4.2.2)))) else (cut a0 s4.1 ((w64 (s4.1 + v11)))).bind fun v14 => (bif decide (4000 < (v14.length : Int)) then (basic_Fault 1 ((s4.2.2.length : Int))).bind fun v17 => some (.out (.inr ((s4.2.1, s4.2.2, v17.Code, v17.Index)))) else (app 8796093022208 s4.2.2 (([v14] : List Str))).bind fun v19 => some (.cont ((w64 (s4.1 + (w64 (v11 + 2)))), (w64 ((w64 (s4.1 + v11)) + 2)), v19))))
noncomputable def lines_Split (a0 : List UInt8) : Option ((List Str) × (List UInt8) × TFault) :=
  (bif decide (40000 < (a0.length : Int)) then (basic_Fault 1 ((-1))).bind fun v2 => some (([], [], v2)) else (iter (lines_Split_l1 a0) ((0, 0, ([] : List Str)))).bind fun o => match o with | .inl b5 => (cut a0 b5.1 ((a0.length : Int))).bind fun v21 => (app 140737488355328 ([] : List UInt8) v21).bind fun v23 => (basic_None).bind fun v25 => some ((b5.2, v23, v25)) | .inr b6 => some (([], [], (TFault.mk b6.2.2.1 b6.2.2.2))))
def lines_Stuff_l1 (a0 : List UInt8) (s11 : Int × (List UInt8)) : Option (Step (Int × (List UInt8)) (List UInt8)) :=
  (cut a0 s11.1 ((a0.length : Int))).bind fun v14 => (bytes_Index v14 (([(13 : UInt8), (10 : UInt8)] : List UInt8))).bind fun v16 => ((bif decide (v16 < 0) then some ((true, s11.2)) else (cut a0 s11.1 ((w64 (s11.1 + v16)))).bind fun v20 => ((bytes_HasPrefix v20 (([(46 : UInt8)] : List UInt8))).bind fun v23 => (bif v23 then (app 140737488355328 s11.2 (([(46 : UInt8)] : List UInt8))).bind fun v26 => some v26 else some s11.2) : Option (List UInt8)).bind fun (j22 : List UInt8) => (app 140737488355328 j22 v20).bind fun v28 => (app 140737488355328 v28 (([13, 10] : Str))).bind fun v30 => some ((false, v30))) : Option (Bool × (List UInt8))).bind fun (j18 : Bool × (List UInt8)) => (bif j18.1 then some (.out j18.2) else some (.cont ((w64 (s11.1 + (w64 (v16 + 2)))), j18.2)))
noncomputable def lines_Stuff (a0 : List UInt8) : Option ((List UInt8) × TFault) :=
  (bif decide (12000 < (a0.length : Int)) then (basic_Fault 1 ((-1))).bind fun v2 => some ((([] : List UInt8), v2)) else ((bif decide (0 < (a0.length : Int)) then (bytes_HasSuffix a0 (([(13 : UInt8), (10 : UInt8)] : List UInt8))).bind fun v6 => some ((!v6)) else some false) : Option Bool).bind fun (j4 : Bool) => (bif j4 then (basic_Fault 5 ((-2))).bind fun v9 => some ((([] : List UInt8), v9)) else (iter (lines_Stuff_l1 a0) ((0, ([] : List UInt8)))).bind fun b12 => (app 140737488355328 b12 (([46, 13, 10] : Str))).bind fun v33 => (basic_None).bind fun v35 => some ((v33, v35))))
end Go.Proofs.YtfhfjckjmacekaaGreat

/- Functions of the program as Lean functions: what they compute. Written by program. -/
namespace Go.Proofs.YtfhfjckjmacekaaGreat
open Go.RowKit
set_option maxRecDepth 100000
set_option maxHeartbeats 40000000
set_option linter.unusedVariables false
def lines_Unstuff_l1 (a0 : List UInt8) (s4 : Int × Int × (List UInt8)) : Option (Step (Int × Int × (List UInt8)) ((Int × (List UInt8)) ⊕ (Int × (List UInt8) × Int × Int × Bool × Int × (List UInt8)))) :=
  (cut a0 s4.1 ((a0.length : Int))).bind fun v9 => (bytes_Index v9 (([(13 : UInt8), (10 : UInt8)] : List UInt8))).bind fun v11 => (bif decide (v11 < 0) then some (.out (.inl ((s4.2.1, s4.2.2)))) else (cut a0 s4.1 ((w64 (s4.1 + v11)))).bind fun v14 => (bif (v14 == ([46] : Str)) then (bif decide (12000 < (s4.2.2.length : Int)) then (basic_Fault 1 ((-2))).bind fun v18 => some (.out (.inr (((w64 ((w64 (s4.1 + v11)) + 2)), s4.2.2, v18.Code, v18.Index, false, 0, [])))) else (basic_None).bind fun v20 => some (.out (.inr (((w64 ((w64 (s4.1 + v11)) + 2)), s4.2.2, v20.Code, v20.Index, true, (w64 ((w64 (s4.1 + v11)) + 2)), s4.2.2))))) else (bytes_TrimPrefix v14 (([(46 : UInt8)] : List UInt8))).bind fun v22 => (app 140737488355328 s4.2.2 v22).bind fun v24 => (app 140737488355328 v24 (([13, 10] : Str))).bind fun v26 => some (.cont ((w64 (s4.1 + (w64 (v11 + 2)))), (w64 ((w64 (s4.1 + v11)) + 2)), v26))))
noncomputable def lines_Unstuff (a0 : List UInt8) : Option ((List UInt8) × Int × Bool × TFault) :=
  (bif decide (40000 < (a0.length : Int)) then (basic_Fault 1 ((-1))).bind fun v2 => some (([], 0, false, v2)) else (iter (lines_Unstuff_l1 a0) ((0, 0, ([] : List UInt8)))).bind fun o => match o with | .inl b5 => ((cut a0 b5.1 ((a0.length : Int))).bind fun v29 => ((bif (v29 != ([46] : Str)) then some ((v29 != ([46, 13] : Str))) else some false) : Option Bool).bind fun (j31 : Bool) => (bif j31 then (cut a0 b5.1 ((a0.length : Int))).bind fun v34 => (bytes_TrimPrefix v34 (([(46 : UInt8)] : List UInt8))).bind fun v36 => some ((w64 ((b5.2.length : Int) + (v36.length : Int)))) else some ((b5.2.length : Int))) : Option Int).bind fun (j28 : Int) => (bif decide (12000 < j28) then (basic_Fault 1 ((-2))).bind fun v39 => some (([], 0, false, v39)) else (basic_None).bind fun v41 => some (([], 0, false, v41))) | .inr b6 => some ((b6.2.2.2.2.2.2, b6.2.2.2.2.2.1, b6.2.2.2.2.1, (TFault.mk b6.2.2.1 b6.2.2.2.1))))
end Go.Proofs.YtfhfjckjmacekaaGreat

/- Functions of the program as Lean functions: what they compute. Written by program. -/
namespace Go.Proofs.YtfhfjckjmacekaaGreat
open Go.RowKit
set_option maxRecDepth 100000
set_option maxHeartbeats 40000000
set_option linter.unusedVariables false
noncomputable def L_splits  : Option Bool :=
  (lines_Split (([(97 : UInt8), (13 : UInt8), (10 : UInt8), (98 : UInt8)] : List UInt8))).bind fun v1 => (lines_Stuff ([])).bind fun v3 => (lines_Unstuff (([(46 : UInt8), (46 : UInt8), (13 : UInt8), (10 : UInt8), (46 : UInt8), (13 : UInt8), (10 : UInt8), (120 : UInt8)] : List UInt8))).bind fun v5 => (lines_Stuff (([(97 : UInt8)] : List UInt8))).bind fun v7 => ((bif (v1.2.2.Code == 0) then (bif (v3.2.Code == 0) then (bif (v5.2.2.2.Code == 0) then (R_At 5 ((-2))).bind fun v13 => (bif (allEq [(v7.2.Code == v13.Code), (v7.2.Index == v13.Index)]) then (R_Strings v1.1 (([([97] : Str)] : List Str))).bind fun v16 => (bif v16 then (bif (v1.2.1 == ([98] : Str)) then (bif (v3.1 == ([46, 13, 10] : Str)) then (bif (v5.1 == ([46, 13, 10] : Str)) then (bif (v5.2.1 == 7) then some v5.2.2.1 else some false) else some false) else some false) else some false) else some false) else some false) else some false) else some false) else some false) : Option Bool).bind fun (j9 : Bool) => some j9
def L_LinesMatchSpec_l1 (v1 : (List Str) × (List UInt8) × TFault) (v12 : (List Str) × (List UInt8)) (s14 : Int) : Option (Step Int (Unit ⊕ Bool)) :=
  (bif decide (s14 < (v12.1.length : Int)) then (idx v12.1 s14).bind fun v20 => (bif decide (4000 < (v20.length : Int)) then ((R_At 1 s14).bind fun v24 => (bif (allEq [(v1.2.2.Code == v24.Code), (v1.2.2.Index == v24.Index)]) then (bif ((v1.1.length : Int) == 0) then some (((v1.2.1.length : Int) == 0)) else some false) else some false) : Option Bool).bind fun (j23 : Bool) => some (.out (.inr j23)) else some (.cont (w64 (s14 + 1)))) else some (.out (.inl (()))))
noncomputable def L_LinesMatchSpec (a0 : List UInt8) : Option Bool :=
  (lines_Split a0).bind fun v1 => (L_splits).bind fun v3 => (bif (!v3) then some false else (bif decide (40000 < (a0.length : Int)) then ((R_At 1 ((-1))).bind fun v8 => (bif (allEq [(v1.2.2.Code == v8.Code), (v1.2.2.Index == v8.Index)]) then (bif ((v1.1.length : Int) == 0) then some (((v1.2.1.length : Int) == 0)) else some false) else some false) : Option Bool).bind fun (j7 : Bool) => some j7 else (R_Lines a0).bind fun v12 => (iter (L_LinesMatchSpec_l1 v1 v12) 0).bind fun o => match o with | .inl b15 => ((bif (v1.2.2.Code == 0) then (R_Strings v1.1 v12.1).bind fun v30 => (bif v30 then some ((v1.2.1 == v12.2)) else some false) else some false) : Option Bool).bind fun (j28 : Bool) => some j28 | .inr b16 => some b16))
def L_LinesJoin_l1 (v1 : (List Str) × (List UInt8) × TFault) (s17 : Int × (List UInt8)) : Option (Step (Int × (List UInt8)) (List UInt8)) :=
  (bif decide (s17.1 < (v1.1.length : Int)) then (idx v1.1 s17.1).bind fun v21 => (app 140737488355328 s17.2 v21).bind fun v23 => (app 140737488355328 v23 (([(13 : UInt8), (10 : UInt8)] : List UInt8))).bind fun v25 => some (.cont ((w64 (s17.1 + 1)), v25)) else some (.out s17.2))
noncomputable def L_LinesJoin (a0 : List UInt8) (a1 : List UInt8) : Option Bool :=
  (lines_Split a0).bind fun v1 => (lines_Split a1).bind fun v3 => ((L_splits).bind fun v6 => (bif (!v6) then some true else (bif (v1.2.2.Code != 0) then some true else (bif (v3.2.2.Code != 0) then some true else some (decide (40000 < (w64 ((a0.length : Int) + (a1.length : Int)))))))) : Option Bool).bind fun (j5 : Bool) => (bif j5 then ((L_splits).bind fun v13 => (bif v13 then (bif (v1.2.2.Code == 0) then some true else some (((v1.1.length : Int) == 0))) else some false) : Option Bool).bind fun (j12 : Bool) => some j12 else (iter (L_LinesJoin_l1 v1) ((0, ([] : List UInt8)))).bind fun b18 => (cat b18 v1.2.1).bind fun v27 => (bif (v27 != a0) then some false else (bif decide (0 < (v1.2.1.length : Int)) then some true else (app 140737488355328 b18 a1).bind fun v31 => (lines_Split v31).bind fun v33 => (app 8796093022208 (([] : List Str)) v1.1).bind fun v35 => (app 8796093022208 v35 v3.1).bind fun v37 => ((bif (v33.2.2.Code == 0) then (R_Strings v33.1 v37).bind fun v41 => (bif v41 then some ((v33.2.1 == v3.2.1)) else some false) else some false) : Option Bool).bind fun (j39 : Bool) => some j39)))
def R_Sent_l1 (a0 : List UInt8) (s1 : Int × Int × (List Str)) : Option (Step (Int × Int × (List Str)) (Int × (List Str))) :=
  (bif decide (s1.2.1 < (a0.length : Int)) then (((idx a0 s1.2.1).bind fun v7 => (bif ((v7.toNat : Int) == 10) then (idx a0 ((w64 (s1.2.1 - 1)))).bind fun v10 => (bif ((v10.toNat : Int) == 13) then some (decide (s1.1 < s1.2.1)) else some false) else some false) : Option Bool).bind fun (j6 : Bool) => (bif j6 then (cut a0 s1.1 ((w64 (s1.2.1 - 1)))).bind fun v14 => (app 8796093022208 s1.2.2 (([v14] : List Str))).bind fun v16 => some (((w64 (s1.2.1 + 1)), v16)) else some ((s1.1, s1.2.2))) : Option (Int × (List Str))).bind fun (j5 : Int × (List Str)) => some (.cont (j5.1, (w64 (s1.2.1 + 1)), j5.2)) else some (.out ((s1.1, s1.2.2))))
def R_Sent_l2 (v20 : List Str) (s22 : Int × (List UInt8)) : Option (Step (Int × (List UInt8)) (List UInt8)) :=
  (bif decide (s22.1 < (v20.length : Int)) then ((((idx v20 s22.1).bind fun v29 => (bif decide (0 < (v29.length : Int)) then (idx v20 s22.1).bind fun v32 => (idx v32 0).bind fun v34 => some (((v34.toNat : Int) == 46)) else some false) : Option Bool).bind fun (j28 : Bool) => (bif j28 then (app 140737488355328 s22.2 (([(46 : UInt8)] : List UInt8))).bind fun v37 => some v37 else some s22.2) : Option (List UInt8)).bind fun (j27 : List UInt8) => (idx v20 s22.1).bind fun v39 => (app 140737488355328 j27 v39).bind fun v41 => (bif decide ((w64 (s22.1 + 1)) < (v20.length : Int)) then (app 140737488355328 v41 (([(13 : UInt8), (10 : UInt8)] : List UInt8))).bind fun v44 => some v44 else some v41) : Option (List UInt8)).bind fun (j26 : List UInt8) => some (.cont ((w64 (s22.1 + 1)), j26)) else some (.out s22.2))
noncomputable def R_Sent (a0 : List UInt8) : Option (List UInt8) :=
  (iter (R_Sent_l1 a0) ((0, 1, ([] : List Str)))).bind fun b2 => (cut a0 b2.1 ((a0.length : Int))).bind fun v18 => (app 8796093022208 b2.2 (([v18] : List Str))).bind fun v20 => (iter (R_Sent_l2 v20) ((0, ([] : List UInt8)))).bind fun b23 => (app 140737488355328 b23 (([(46 : UInt8), (13 : UInt8), (10 : UInt8)] : List UInt8))).bind fun v46 => some v46
noncomputable def L_LinesDataMatchSpec (a0 : List UInt8) : Option Bool :=
  (lines_Stuff a0).bind fun v1 => (lines_Unstuff a0).bind fun v3 => (L_splits).bind fun v5 => (bif (!v5) then some false else (R_Lines a0).bind fun v8 => ((bif decide (12000 < (a0.length : Int)) then (R_At 1 ((-1))).bind fun v12 => some ((v12.Code, v12.Index)) else (bif decide (0 < (v8.2.length : Int)) then (R_At 5 ((-2))).bind fun v15 => some ((v15.Code, v15.Index)) else some ((0, 0)))) : Option (Int × Int)).bind fun (j10 : Int × Int) => ((bif (!(allEq [(v1.2.Code == j10.1), (v1.2.Index == j10.2)])) then some true else (bif (j10.1 != 0) then (bif decide (0 < (v1.1.length : Int)) then some true else (bif (j10.1 == 0) then (R_Sent a0).bind fun v22 => some ((v1.1 != v22)) else some false)) else (bif (j10.1 == 0) then (R_Sent a0).bind fun v25 => some ((v1.1 != v25)) else some false))) : Option Bool).bind fun (j17 : Bool) => (bif j17 then some false else (bif decide (40000 < (a0.length : Int)) then ((R_At 1 ((-1))).bind fun v30 => (bif (allEq [(v3.2.2.2.Code == v30.Code), (v3.2.2.2.Index == v30.Index)]) then (bif ((v3.1.length : Int) == 0) then (bif (v3.2.1 == 0) then some ((!v3.2.2.1)) else some false) else some false) else some false) : Option Bool).bind fun (j29 : Bool) => some j29 else (R_Received a0).bind fun v35 => (bif v35.2.2 then ((R_At 1 ((-2))).bind fun v39 => (bif (allEq [(v3.2.2.2.Code == v39.Code), (v3.2.2.2.Index == v39.Index)]) then (bif ((v3.1.length : Int) == 0) then (bif (v3.2.1 == 0) then some ((!v3.2.2.1)) else some false) else some false) else some false) : Option Bool).bind fun (j38 : Bool) => some j38 else ((bif (v3.2.2.2.Code == 0) then (bif (v3.2.2.1 == decide (0 < v35.2.1)) then (bif (v3.2.1 == v35.2.1) then some ((v3.1 == v35.1)) else some false) else some false) else some false) : Option Bool).bind fun (j44 : Bool) => some j44))))
noncomputable def L_LinesArriveAsSent (a0 : List UInt8) (a1 : List UInt8) (a2 : Int) : Option Bool :=
  (lines_Stuff a0).bind fun v1 => ((L_splits).bind fun v4 => (bif (!v4) then some true else (bif (v1.2.Code != 0) then some true else some (decide (10000 < (a1.length : Int))))) : Option Bool).bind fun (j3 : Bool) => (bif j3 then ((L_splits).bind fun v10 => (bif v10 then (bif (v1.2.Code == 0) then some true else some (((v1.1.length : Int) == 0))) else some false) : Option Bool).bind fun (j9 : Bool) => some j9 else (app 140737488355328 (([] : List UInt8)) v1.1).bind fun v14 => (app 140737488355328 v14 a1).bind fun v16 => (lines_Unstuff v16).bind fun v18 => ((bif (v18.2.2.2.Code != 0) then some true else (bif (!v18.2.2.1) then some true else (bif (v18.2.1 != (v1.1.length : Int)) then some true else some ((v18.1 != a0))))) : Option Bool).bind fun (j20 : Bool) => (bif j20 then some false else (R_In a2 0 ((w64 ((v1.1.length : Int) - 1)))).bind fun v25 => (bif (!v25) then some true else (cut v1.1 0 a2).bind fun v28 => (lines_Unstuff v28).bind fun v30 => ((bif (v30.2.2.2.Code == 0) then some ((!v30.2.2.1)) else some false) : Option Bool).bind fun (j32 : Bool) => some j32)))
end Go.Proofs.YtfhfjckjmacekaaGreat

/- Functions of the program as Lean functions: what they compute. Written by program. -/
namespace Go.Proofs.YtfhfjckjmacekaaGreat
open Go.RowKit
set_option maxRecDepth 100000
set_option maxHeartbeats 40000000
set_option linter.unusedVariables false
def internal_stringslite_HasPrefix (a0 : Str) (a1 : Str) : Option Bool :=
  ((bif decide ((a1.length : Int) ≤ (a0.length : Int)) then (cut a0 0 ((a1.length : Int))).bind fun v3 => some ((v3 == a1)) else some false) : Option Bool).bind fun (j1 : Bool) => some j1
def strings_HasPrefix (a0 : Str) (a1 : Str) : Option Bool :=
  (internal_stringslite_HasPrefix a0 a1).bind fun v1 => some v1
def internal_stringslite_HasSuffix (a0 : Str) (a1 : Str) : Option Bool :=
  ((bif decide ((a1.length : Int) ≤ (a0.length : Int)) then (cut a0 ((w64 ((a0.length : Int) - (a1.length : Int)))) ((a0.length : Int))).bind fun v3 => some ((v3 == a1)) else some false) : Option Bool).bind fun (j1 : Bool) => some j1
def strings_HasSuffix (a0 : Str) (a1 : Str) : Option Bool :=
  (internal_stringslite_HasSuffix a0 a1).bind fun v1 => some v1
def envelope_Domain_l1 (a0 : Str) (s5 : Int) : Option (Step Int (Unit ⊕ Unit)) :=
  (bif decide (s5 < (a0.length : Int)) then (idx a0 s5).bind fun v11 => ((bif decide (97 ≤ (v11.toNat : Int)) then (bif decide ((v11.toNat : Int) ≤ 122) then some true else (bif decide (48 ≤ (v11.toNat : Int)) then (bif decide ((v11.toNat : Int) ≤ 57) then some true else (bif ((v11.toNat : Int) == 45) then some true else some (((v11.toNat : Int) == 46)))) else (bif ((v11.toNat : Int) == 45) then some true else some (((v11.toNat : Int) == 46))))) else (bif decide (48 ≤ (v11.toNat : Int)) then (bif decide ((v11.toNat : Int) ≤ 57) then some true else (bif ((v11.toNat : Int) == 45) then some true else some (((v11.toNat : Int) == 46)))) else (bif ((v11.toNat : Int) == 45) then some true else some (((v11.toNat : Int) == 46))))) : Option Bool).bind fun (j13 : Bool) => (bif (!j13) then some (.out (.inr (()))) else some (.cont (w64 (s5 + 1)))) else some (.out (.inl (()))))
noncomputable def envelope_Domain (a0 : Str) : Option Bool :=
  ((bif (a0 != ([] : Str)) then (bif decide ((a0.length : Int) ≤ 60) then ((iter (envelope_Domain_l1 a0) 0).bind (Sum.elim (fun b6 => some true) (fun b7 => some false)) : Option Bool).bind fun (j4 : Bool) => (bif j4 then (strings_HasPrefix a0 (([46] : Str))).bind fun v26 => (bif (!v26) then (strings_HasSuffix a0 (([46] : Str))).bind fun v29 => (bif (!v29) then (strings_Contains a0 (([46, 46] : Str))).bind fun v32 => some ((!v32)) else some false) else some false) else some false) else some false) else some false) : Option Bool).bind fun (j1 : Bool) => some j1
def envelope_Split_l1 (v1 : Str × Str × Bool) (s8 : Int) : Option (Step Int (Unit ⊕ Unit)) :=
  (bif decide (s8 < (v1.1.length : Int)) then (idx v1.1 s8).bind fun v14 => ((basic_Letter v14).bind fun v17 => (bif v17 then some true else (strings_IndexByte (([45, 95, 46, 43, 61] : Str)) v14).bind fun v20 => some (decide (0 ≤ v20))) : Option Bool).bind fun (j16 : Bool) => (bif (!j16) then some (.out (.inr (()))) else some (.cont (w64 (s8 + 1)))) else some (.out (.inl (()))))
noncomputable def envelope_Split (a0 : Str) : Option (Str × Str × Bool) :=
  (strings_Cut a0 (([64] : Str))).bind fun v1 => ((bif v1.2.2 then (bif (v1.1 != ([] : Str)) then (bif decide ((v1.1.length : Int) ≤ 60) then ((iter (envelope_Split_l1 v1) 0).bind (Sum.elim (fun b9 => some true) (fun b10 => some false)) : Option Bool).bind fun (j7 : Bool) => (bif j7 then (envelope_Domain v1.2.1).bind fun v24 => some v24 else some false) else some false) else some false) else some false) : Option Bool).bind fun (j3 : Bool) => some ((v1.1, v1.2.1, j3))
noncomputable def envelope_Address (a0 : Str) : Option Bool :=
  (envelope_Split a0).bind fun v1 => some v1.2.2
noncomputable def alias_Validate_l2 (v10 : TAlias) (s23 : Int) : Option (Step Int (Unit ⊕ Int)) :=
  (bif decide (s23 < (v10.To.length : Int)) then (idx v10.To s23).bind fun v29 => (envelope_Address v29).bind fun v31 => (bif (!v31) then some (.out (.inr s23)) else some (.cont (w64 (s23 + 1)))) else some (.out (.inl (()))))
def alias_Validate_l3 (v10 : TAlias) (v37 : List TAlias) (s40 : Int) : Option (Step Int (Unit ⊕ Int)) :=
  (bif decide (s40 < (v37.length : Int)) then (idx v37 s40).bind fun v46 => (bif (v46.Address == v10.Address) then some (.out (.inr s40)) else some (.cont (w64 (s40 + 1)))) else some (.out (.inl (()))))
noncomputable def alias_Validate_l1 (a0 : List TAlias) (s4 : Int) : Option (Step Int (Unit ⊕ TFault)) :=
  (bif decide (s4 < (a0.length : Int)) then (idx a0 s4).bind fun v10 => (envelope_Address v10.Address).bind fun v12 => (bif (!v12) then (basic_Fault 10 s4).bind fun v15 => some (.out (.inr v15)) else ((bif decide ((v10.To.length : Int) < 1) then some true else some (decide (60 < (v10.To.length : Int)))) : Option Bool).bind fun (j17 : Bool) => (bif j17 then (basic_Fault 2 s4).bind fun v20 => some (.out (.inr v20)) else ((iter (alias_Validate_l2 v10) 0).bind (Sum.elim (fun b24 => some ((-1))) (fun b25 => some b25)) : Option Int).bind fun (j22 : Int) => (bif decide (0 ≤ j22) then (basic_Fault 10 s4).bind fun v35 => some (.out (.inr v35)) else (cut a0 0 s4).bind fun v37 => ((iter (alias_Validate_l3 v10 v37) 0).bind (Sum.elim (fun b41 => some ((-1))) (fun b42 => some b42)) : Option Int).bind fun (j39 : Int) => (bif decide (0 ≤ j39) then (basic_Fault 7 s4).bind fun v50 => some (.out (.inr v50)) else some (.cont (w64 (s4 + 1))))))) else some (.out (.inl (()))))
noncomputable def alias_Validate (a0 : List TAlias) : Option TFault :=
  (bif decide (40 < (a0.length : Int)) then (basic_Fault 2 ((-1))).bind fun v2 => some v2 else (iter (alias_Validate_l1 a0) 0).bind (Sum.elim (fun b5 => (basic_None).bind fun v52 => some v52) (fun b6 => some b6)))
end Go.Proofs.YtfhfjckjmacekaaGreat

/- Functions of the program as Lean functions: what they compute. Written by program. -/
namespace Go.Proofs.YtfhfjckjmacekaaGreat
open Go.RowKit
set_option maxRecDepth 100000
set_option maxHeartbeats 40000000
set_option linter.unusedVariables false
def alias_Expand_l1 (a0 : List TAlias) (s11 : Int × (List (Str × (List Str)))) : Option (Step (Int × (List (Str × (List Str)))) (List (Str × (List Str)))) :=
  (bif decide (s11.1 < (a0.length : Int)) then (idx a0 s11.1).bind fun v15 => some (.cont ((w64 (s11.1 + 1)), (mput s11.2 v15.Address v15.To))) else some (.out s11.2))
def alias_Expand_l2 (a0 : List TAlias) (s17 : Int × (List (Str × (List Str)))) : Option (Step (Int × (List (Str × (List Str)))) (List (Str × (List Str)))) :=
  (bif decide (s17.1 < (a0.length : Int)) then (idx a0 s17.1).bind fun v21 => some (.cont ((w64 (s17.1 + 1)), (mput s17.2 v21.Address v21.To))) else some (.out s17.2))
def alias_Expand_l3 (a1 : Str) (s23 : Int × (List Str) × (List (Str × Bool))) : Option (Step (Int × (List Str) × (List (Str × Bool))) ((List Str) × (List (Str × Bool)))) :=
  (bif decide (s23.1 < ((([a1] : List Str)).length : Int)) then ((idx (([a1] : List Str)) s23.1).bind fun v28 => (bif (!(((mget s23.2.2 v28).getD false))) then (app 8796093022208 s23.2.1 (([v28] : List Str))).bind fun v31 => some ((v31, (mput s23.2.2 v28 true))) else some ((s23.2.1, s23.2.2))) : Option ((List Str) × (List (Str × Bool)))).bind fun (j27 : (List Str) × (List (Str × Bool))) => some (.cont ((w64 (s23.1 + 1)), j27.1, j27.2)) else some (.out ((s23.2.1, s23.2.2))))
def alias_Expand_l5 (b18 : List (Str × (List Str))) (v37 : Str) (s45 : Int × (List Str) × (List (Str × Bool))) : Option (Step (Int × (List Str) × (List (Str × Bool))) ((List Str) × (List (Str × Bool)))) :=
  (bif decide (s45.1 < ((((mget b18 v37).getD (([] : List Str)))).length : Int)) then ((idx (((mget b18 v37).getD (([] : List Str)))) s45.1).bind fun v50 => (bif (!(((mget s45.2.2 v50).getD false))) then (app 8796093022208 s45.2.1 (([v50] : List Str))).bind fun v53 => some ((v53, (mput s45.2.2 v50 true))) else some ((s45.2.1, s45.2.2))) : Option ((List Str) × (List (Str × Bool)))).bind fun (j49 : (List Str) × (List (Str × Bool))) => some (.cont ((w64 (s45.1 + 1)), j49.1, j49.2)) else some (.out ((s45.2.1, s45.2.2))))
def alias_Expand_l6 (b18 : List (Str × (List Str))) (v37 : Str) (s57 : Int × (List Str) × (List (Str × Bool))) : Option (Step (Int × (List Str) × (List (Str × Bool))) ((List Str) × (List (Str × Bool)))) :=
  (bif decide (s57.1 < ((((mget b18 v37).getD (([] : List Str)))).length : Int)) then ((idx (((mget b18 v37).getD (([] : List Str)))) s57.1).bind fun v62 => (bif (!(((mget s57.2.2 v62).getD false))) then (app 8796093022208 s57.2.1 (([v62] : List Str))).bind fun v65 => some ((v65, (mput s57.2.2 v62 true))) else some ((s57.2.1, s57.2.2))) : Option ((List Str) × (List (Str × Bool)))).bind fun (j61 : (List Str) × (List (Str × Bool))) => some (.cont ((w64 (s57.1 + 1)), j61.1, j61.2)) else some (.out ((s57.2.1, s57.2.2))))
noncomputable def alias_Expand_l4 (b12 : List (Str × (List Str))) (b18 : List (Str × (List Str))) (s33 : (List Str) × (List (Str × Bool)) × (List Str)) : Option (Step ((List Str) × (List (Str × Bool)) × (List Str)) (List Str)) :=
  (bif decide (0 < (s33.1.length : Int)) then (idx s33.1 0).bind fun v37 => (cut s33.1 1 ((s33.1.length : Int))).bind fun v39 => (optElim (mget b12 v37) (fun v41 => (notNil v41).bind fun v43 => (iter (alias_Expand_l5 b18 v37) ((0, v39, s33.2.1))).bind fun b46 => some (.cont (b46.1, b46.2, s33.2.2))) ((app 8796093022208 s33.2.2 (([v37] : List Str))).bind fun v55 => (iter (alias_Expand_l6 b18 v37) ((0, v39, s33.2.1))).bind fun b58 => some (.cont (b58.1, b58.2, v55)))) else some (.out s33.2.2))
noncomputable def alias_Expand (a0 : List TAlias) (a1 : Str) : Option ((List Str) × TFault) :=
  (alias_Validate a0).bind fun v1 => (basic_Failed v1).bind fun v3 => (bif v3 then some (([], v1)) else (envelope_Address a1).bind fun v6 => (bif (!v6) then (basic_Fault 10 ((-2))).bind fun v9 => some (([], v9)) else (iter (alias_Expand_l1 a0) ((0, ([] : List (Str × (List Str)))))).bind fun b12 => (iter (alias_Expand_l2 a0) ((0, ([] : List (Str × (List Str)))))).bind fun b18 => (iter (alias_Expand_l3 a1) ((0, ([] : List Str), ([] : List (Str × Bool))))).bind fun b24 => (iter (alias_Expand_l4 b12 b18) ((b24.1, b24.2, ([] : List Str)))).bind fun b34 => (basic_None).bind fun v67 => some ((b34, v67))))
def alias_Loops_l2 (a0 : List TAlias) (s13 : Int × (List (Str × (List Str)))) : Option (Step (Int × (List (Str × (List Str)))) (List (Str × (List Str)))) :=
  (bif decide (s13.1 < (a0.length : Int)) then (idx a0 s13.1).bind fun v17 => some (.cont ((w64 (s13.1 + 1)), (mput s13.2 v17.Address v17.To))) else some (.out s13.2))
def alias_Loops_l3 (v11 : TAlias) (s19 : Int × (List Str) × (List (Str × Bool))) : Option (Step (Int × (List Str) × (List (Str × Bool))) ((List Str) × (List (Str × Bool)))) :=
  (bif decide (s19.1 < (v11.To.length : Int)) then ((idx v11.To s19.1).bind fun v24 => (bif (!(((mget s19.2.2 v24).getD false))) then (app 8796093022208 s19.2.1 (([v24] : List Str))).bind fun v27 => some ((v27, (mput s19.2.2 v24 true))) else some ((s19.2.1, s19.2.2))) : Option ((List Str) × (List (Str × Bool)))).bind fun (j23 : (List Str) × (List (Str × Bool))) => some (.cont ((w64 (s19.1 + 1)), j23.1, j23.2)) else some (.out ((s19.2.1, s19.2.2))))
def alias_Loops_l5 (b14 : List (Str × (List Str))) (v35 : Str) (s42 : Int × (List Str) × (List (Str × Bool))) : Option (Step (Int × (List Str) × (List (Str × Bool))) ((List Str) × (List (Str × Bool)))) :=
  (bif decide (s42.1 < ((((mget b14 v35).getD (([] : List Str)))).length : Int)) then ((idx (((mget b14 v35).getD (([] : List Str)))) s42.1).bind fun v47 => (bif (!(((mget s42.2.2 v47).getD false))) then (app 8796093022208 s42.2.1 (([v47] : List Str))).bind fun v50 => some ((v50, (mput s42.2.2 v47 true))) else some ((s42.2.1, s42.2.2))) : Option ((List Str) × (List (Str × Bool)))).bind fun (j46 : (List Str) × (List (Str × Bool))) => some (.cont ((w64 (s42.1 + 1)), j46.1, j46.2)) else some (.out ((s42.2.1, s42.2.2))))
noncomputable def alias_Loops_l4 (s6 : Int × (List Str)) (v11 : TAlias) (b14 : List (Str × (List Str))) (s29 : (List Str) × (List (Str × Bool))) : Option (Step ((List Str) × (List (Str × Bool))) (Unit ⊕ (List Str))) :=
  (bif decide (0 < (s29.1.length : Int)) then (idx s29.1 0).bind fun v35 => (cut s29.1 1 ((s29.1.length : Int))).bind fun v37 => (bif (v35 == v11.Address) then (app 8796093022208 s6.2 (([v35] : List Str))).bind fun v40 => some (.out (.inr v40)) else (iter (alias_Loops_l5 b14 v35) ((0, v37, s29.2))).bind fun b43 => some (.cont (b43.1, b43.2))) else some (.out (.inl (()))))
noncomputable def alias_Loops_l1 (a0 : List TAlias) (s6 : Int × (List Str)) : Option (Step (Int × (List Str)) (List Str)) :=
  (bif decide (s6.1 < (a0.length : Int)) then ((idx a0 s6.1).bind fun v11 => (iter (alias_Loops_l2 a0) ((0, ([] : List (Str × (List Str)))))).bind fun b14 => (iter (alias_Loops_l3 v11) ((0, ([] : List Str), ([] : List (Str × Bool))))).bind fun b20 => (iter (alias_Loops_l4 s6 v11 b14) ((b20.1, b20.2))).bind (Sum.elim (fun b30 => some s6.2) (fun b31 => some b31)) : Option (List Str)).bind fun (j10 : List Str) => some (.cont ((w64 (s6.1 + 1)), j10)) else some (.out s6.2))
noncomputable def alias_Loops (a0 : List TAlias) : Option ((List Str) × TFault) :=
  (alias_Validate a0).bind fun v1 => (basic_Failed v1).bind fun v3 => (bif v3 then some (([], v1)) else (iter (alias_Loops_l1 a0) ((0, ([] : List Str)))).bind fun b7 => (basic_None).bind fun v52 => some ((b7, v52)))
noncomputable def L_expands  : Option Bool :=
  (alias_Expand (([(TAlias.mk (([97, 64, 120] : Str)) (([([98, 64, 120] : Str), ([99, 64, 120] : Str)] : List Str))), (TAlias.mk (([98, 64, 120] : Str)) (([([97, 64, 120] : Str), ([100, 64, 120] : Str)] : List Str)))] : List TAlias)) (([97, 64, 120] : Str))).bind fun v1 => (alias_Loops (([(TAlias.mk (([97, 64, 120] : Str)) (([([98, 64, 120] : Str), ([99, 64, 120] : Str)] : List Str))), (TAlias.mk (([98, 64, 120] : Str)) (([([97, 64, 120] : Str), ([100, 64, 120] : Str)] : List Str)))] : List TAlias))).bind fun v3 => (alias_Expand (([(TAlias.mk (([97, 64, 120] : Str)) (([([98, 64, 120] : Str), ([99, 64, 120] : Str)] : List Str))), (TAlias.mk (([98, 64, 120] : Str)) (([([97, 64, 120] : Str), ([100, 64, 120] : Str)] : List Str)))] : List TAlias)) (([97] : Str))).bind fun v5 => ((bif (v1.2.Code == 0) then (bif (v3.2.Code == 0) then (R_At 10 ((-2))).bind fun v10 => (bif (allEq [(v5.2.Code == v10.Code), (v5.2.Index == v10.Index)]) then (R_Strings v1.1 (([([99, 64, 120] : Str), ([100, 64, 120] : Str)] : List Str))).bind fun v13 => (bif v13 then (R_Strings v3.1 (([([97, 64, 120] : Str), ([98, 64, 120] : Str)] : List Str))).bind fun v16 => some v16 else some false) else some false) else some false) else some false) : Option Bool).bind fun (j7 : Bool) => some j7
noncomputable def L_AliasMatchesSpec (a0 : List TAlias) (a1 : Str) : Option Bool :=
  (alias_Expand a0 a1).bind fun v1 => (R_Expanded a0 a1).bind fun v3 => ((L_expands).bind fun v6 => (bif v6 then (alias_Validate a0).bind fun v9 => (R_AliasesFault a0).bind fun v11 => (bif (allEq [(v9.Code == v11.Code), (v9.Index == v11.Index)]) then (bif (allEq [(v1.2.Code == v3.2.Code), (v1.2.Index == v3.2.Index)]) then (R_Strings v1.1 v3.1).bind fun v15 => some v15 else some false) else some false) else some false) : Option Bool).bind fun (j5 : Bool) => some j5
noncomputable def L_AliasLoopsMatchSpec_l1 (a0 : List TAlias) (v1 : TFault) (s5 : Int × (List Str)) : Option (Step (Int × (List Str)) (List Str)) :=
  ((bif decide (s5.1 < (a0.length : Int)) then some ((v1.Code == 0)) else some false) : Option Bool).bind fun (j8 : Bool) => (bif j8 then ((idx a0 s5.1).bind fun v12 => (R_Reached a0 v12.To).bind fun v14 => (idx a0 s5.1).bind fun v16 => (R_Has v14 v16.Address).bind fun v18 => (bif v18 then (idx a0 s5.1).bind fun v21 => (app 8796093022208 s5.2 (([v21.Address] : List Str))).bind fun v23 => some v23 else some s5.2) : Option (List Str)).bind fun (j11 : List Str) => some (.cont ((w64 (s5.1 + 1)), j11)) else some (.out s5.2))
noncomputable def L_AliasLoopsMatchSpec (a0 : List TAlias) : Option Bool :=
  (R_AliasesFault a0).bind fun v1 => (alias_Loops a0).bind fun v3 => (iter (L_AliasLoopsMatchSpec_l1 a0 v1) ((0, ([] : List Str)))).bind fun b6 => ((L_expands).bind fun v26 => (bif v26 then (bif (allEq [(v3.2.Code == v1.Code), (v3.2.Index == v1.Index)]) then (R_Strings v3.1 b6).bind fun v30 => some v30 else some false) else some false) : Option Bool).bind fun (j25 : Bool) => some j25
noncomputable def L_AliasIsAFixedPoint_l1 (a0 : List TAlias) (v1 : (List Str) × TFault) (s12 : Int) : Option (Step Int (Unit ⊕ Bool)) :=
  (bif decide (s12 < (v1.1.length : Int)) then (idx v1.1 s12).bind fun v18 => (alias_Expand a0 v18).bind fun v20 => ((bif (v20.2.Code != 0) then some true else (idx v1.1 s12).bind fun v24 => (R_Strings v20.1 (([v24] : List Str))).bind fun v26 => (bif (!v26) then some true else (cut v1.1 0 s12).bind fun v29 => (idx v1.1 s12).bind fun v31 => (R_Has v29 v31).bind fun v33 => some v33)) : Option Bool).bind fun (j22 : Bool) => (bif j22 then some (.out (.inr false)) else some (.cont (w64 (s12 + 1)))) else some (.out (.inl (()))))
noncomputable def L_AliasIsAFixedPoint_l5 (v1 : (List Str) × TFault) (v58 : (List Str) × TFault) (s61 : Int) : Option (Step Int (Unit ⊕ Bool)) :=
  (bif decide (s61 < (v58.1.length : Int)) then (idx v58.1 s61).bind fun v67 => (R_Has v1.1 v67).bind fun v69 => (bif (!v69) then some (.out (.inr false)) else some (.cont (w64 (s61 + 1)))) else some (.out (.inl (()))))
noncomputable def L_AliasIsAFixedPoint_l4 (a0 : List TAlias) (v1 : (List Str) × TFault) (s36 : Int) (s46 : Int) : Option (Step Int (Unit ⊕ Bool)) :=
  (idx a0 s36).bind fun v51 => (bif decide (s46 < (v51.To.length : Int)) then (idx a0 s36).bind fun v54 => (idx v54.To s46).bind fun v56 => (alias_Expand a0 v56).bind fun v58 => (bif (v58.2.Code != 0) then some (.out (.inr false)) else (iter (L_AliasIsAFixedPoint_l5 v1 v58) 0).bind (Sum.elim (fun b62 => some (.cont (w64 (s46 + 1)))) (fun b63 => some (.out (.inr b63))))) else some (.out (.inl (()))))
def L_AliasIsAFixedPoint_k3 (s36 : Int) (j42 : Unit) : Option (Step Int (Unit ⊕ Bool)) :=
  some (.cont (w64 (s36 + 1)))
noncomputable def L_AliasIsAFixedPoint_l2 (a0 : List TAlias) (a1 : Str) (v1 : (List Str) × TFault) (s36 : Int) : Option (Step Int (Unit ⊕ Bool)) :=
  (bif decide (s36 < (a0.length : Int)) then (idx a0 s36).bind fun v43 => (bif (v43.Address != a1) then (L_AliasIsAFixedPoint_k3 s36 ()) else (iter (L_AliasIsAFixedPoint_l4 a0 v1 s36) 0).bind (Sum.elim (fun b47 => (L_AliasIsAFixedPoint_k3 s36 ())) (fun b48 => some (.out (.inr b48))))) else some (.out (.inl (()))))
noncomputable def L_AliasIsAFixedPoint (a0 : List TAlias) (a1 : Str) : Option Bool :=
  (alias_Expand a0 a1).bind fun v1 => ((L_expands).bind fun v4 => (bif (!v4) then some true else some ((v1.2.Code != 0))) : Option Bool).bind fun (j3 : Bool) => (bif j3 then ((L_expands).bind fun v9 => (bif v9 then some (((v1.1.length : Int) == 0)) else some false) : Option Bool).bind fun (j8 : Bool) => some j8 else (iter (L_AliasIsAFixedPoint_l1 a0 v1) 0).bind (Sum.elim (fun b13 => (iter (L_AliasIsAFixedPoint_l2 a0 a1 v1) 0).bind (Sum.elim (fun b37 => some true) (fun b38 => some b38))) (fun b14 => some b14)))
noncomputable def L_AliasMoreIsMore_l1 (a0 : List TAlias) (a2 : TAlias) (s12 : Int) : Option (Step Int (Unit ⊕ Bool)) :=
  (bif decide (s12 < (a0.length : Int)) then (idx a0 s12).bind fun v18 => (R_Has v18.To a2.Address).bind fun v20 => (bif v20 then some (.out (.inr true)) else some (.cont (w64 (s12 + 1)))) else some (.out (.inl (()))))
noncomputable def L_AliasMoreIsMore (a0 : List TAlias) (a1 : Str) (a2 : TAlias) : Option Bool :=
  (alias_Expand a0 a1).bind fun v1 => ((L_expands).bind fun v4 => (bif (!v4) then some true else some ((v1.2.Code != 0))) : Option Bool).bind fun (j3 : Bool) => (bif j3 then ((L_expands).bind fun v9 => (bif v9 then some (((v1.1.length : Int) == 0)) else some false) : Option Bool).bind fun (j8 : Bool) => some j8 else (iter (L_AliasMoreIsMore_l1 a0 a2) 0).bind (Sum.elim (fun b13 => (app 3518437208883 (([] : List TAlias)) a0).bind fun v23 => (app 3518437208883 v23 (([a2] : List TAlias))).bind fun v25 => (alias_Expand v25 a1).bind fun v27 => ((bif (v27.2.Code != 0) then some true else (bif (a2.Address == a1) then some true else (R_Strings v1.1 v27.1).bind fun v32 => some v32)) : Option Bool).bind fun (j29 : Bool) => some j29) (fun b14 => some b14)))
end Go.Proofs.YtfhfjckjmacekaaGreat

/- Functions of the program as Lean functions: what they compute. Written by program. -/
namespace Go.Proofs.YtfhfjckjmacekaaGreat
open Go.RowKit
set_option maxRecDepth 100000
set_option maxHeartbeats 40000000
set_option linter.unusedVariables false
def R_NameOk_l1 (a0 : Str) (s1 : Int) : Option (Step Int (Unit ⊕ Bool)) :=
  (bif decide (s1 < (a0.length : Int)) then ((idx a0 s1).bind fun v8 => (R_letterOrDigit v8).bind fun v10 => (bif (!v10) then (idx a0 s1).bind fun v13 => (bif ((v13.toNat : Int) != 45) then (idx a0 s1).bind fun v16 => (bif ((v16.toNat : Int) != 95) then (idx a0 s1).bind fun v19 => some (((v19.toNat : Int) != 46)) else some false) else some false) else some false) : Option Bool).bind fun (j7 : Bool) => (bif j7 then some (.out (.inr false)) else some (.cont (w64 (s1 + 1)))) else some (.out (.inl (()))))
noncomputable def R_NameOk (a0 : Str) : Option Bool :=
  (iter (R_NameOk_l1 a0) 0).bind (Sum.elim (fun b2 => (R_In ((a0.length : Int)) 1 60).bind fun v22 => some v22) (fun b3 => some b3))
def R_Known_l1 (a0 : List TRecipient) (a1 : Str) (s1 : Int) : Option (Step Int (Unit ⊕ Int)) :=
  (bif decide (s1 < (a0.length : Int)) then (idx a0 s1).bind fun v7 => (bif (v7.Address == a1) then some (.out (.inr s1)) else some (.cont (w64 (s1 + 1)))) else some (.out (.inl (()))))
noncomputable def R_Known (a0 : List TRecipient) (a1 : Str) : Option Int :=
  (iter (R_Known_l1 a0 a1) 0).bind (Sum.elim (fun b2 => some ((-1))) (fun b3 => some b3))
noncomputable def R_EnvelopeFault_l1 (a0 : TEnvelope) (s20 : Int) : Option (Step Int (Unit ⊕ TFault)) :=
  (bif decide (s20 < (a0.To.length : Int)) then (idx a0.To s20).bind fun v26 => (R_AddressOk v26.Address).bind fun v28 => (bif (!v28) then (R_At 10 s20).bind fun v31 => some (.out (.inr v31)) else (idx a0.To s20).bind fun v33 => (R_In v33.Notify 0 7).bind fun v35 => (bif (!v35) then (R_At 3 s20).bind fun v38 => some (.out (.inr v38)) else (cut a0.To 0 s20).bind fun v40 => (idx a0.To s20).bind fun v42 => (R_Known v40 v42.Address).bind fun v44 => (bif decide (0 ≤ v44) then (R_At 7 s20).bind fun v47 => some (.out (.inr v47)) else some (.cont (w64 (s20 + 1)))))) else some (.out (.inl (()))))
noncomputable def R_EnvelopeFault (a0 : TEnvelope) : Option TFault :=
  ((bif (a0.From != ([] : Str)) then (R_AddressOk a0.From).bind fun v3 => some ((!v3)) else some false) : Option Bool).bind fun (j1 : Bool) => (bif j1 then (R_At 10 ((-10))).bind fun v6 => some v6 else (R_In ((a0.To.length : Int)) 1 60).bind fun v8 => (bif (!v8) then (R_At 2 ((-11))).bind fun v11 => some v11 else ((bif (a0.Id != ([] : Str)) then (R_NameOk a0.Id).bind fun v15 => some ((!v15)) else some false) : Option Bool).bind fun (j13 : Bool) => (bif j13 then (R_At 10 ((-12))).bind fun v18 => some v18 else (iter (R_EnvelopeFault_l1 a0) 0).bind (Sum.elim (fun b21 => some ((TFault.mk 0 0))) (fun b22 => some b22)))))
def basic_Name_l1 (a0 : Str) (s5 : Int) : Option (Step Int (Unit ⊕ Unit)) :=
  (bif decide (s5 < (a0.length : Int)) then (idx a0 s5).bind fun v11 => ((basic_Letter v11).bind fun v14 => (bif v14 then some true else (bif ((v11.toNat : Int) == 45) then some true else (bif ((v11.toNat : Int) == 95) then some true else some (((v11.toNat : Int) == 46))))) : Option Bool).bind fun (j13 : Bool) => (bif (!j13) then some (.out (.inr (()))) else some (.cont (w64 (s5 + 1)))) else some (.out (.inl (()))))
noncomputable def basic_Name (a0 : Str) : Option Bool :=
  ((bif (a0 != ([] : Str)) then (bif decide ((a0.length : Int) ≤ 60) then ((iter (basic_Name_l1 a0) 0).bind (Sum.elim (fun b6 => some true) (fun b7 => some false)) : Option Bool).bind fun (j4 : Bool) => some j4 else some false) else some false) : Option Bool).bind fun (j1 : Bool) => some j1
def envelope_Notify (a0 : Int) : Option Bool :=
  ((bif decide (0 ≤ a0) then some (decide (a0 ≤ 7)) else some false) : Option Bool).bind fun (j1 : Bool) => some j1
def envelope_Recipients_l2 (v7 : TRecipient) (v19 : List TRecipient) (s22 : Int) : Option (Step Int (Unit ⊕ Int)) :=
  (bif decide (s22 < (v19.length : Int)) then (idx v19 s22).bind fun v28 => (bif (v28.Address == v7.Address) then some (.out (.inr s22)) else some (.cont (w64 (s22 + 1)))) else some (.out (.inl (()))))
noncomputable def envelope_Recipients_l1 (a0 : List TRecipient) (s1 : Int) : Option (Step Int (Unit ⊕ TFault)) :=
  (bif decide (s1 < (a0.length : Int)) then (idx a0 s1).bind fun v7 => (envelope_Address v7.Address).bind fun v9 => (bif (!v9) then (basic_Fault 10 s1).bind fun v12 => some (.out (.inr v12)) else (envelope_Notify v7.Notify).bind fun v14 => (bif (!v14) then (basic_Fault 3 s1).bind fun v17 => some (.out (.inr v17)) else (cut a0 0 s1).bind fun v19 => ((iter (envelope_Recipients_l2 v7 v19) 0).bind (Sum.elim (fun b23 => some ((-1))) (fun b24 => some b24)) : Option Int).bind fun (j21 : Int) => (bif decide (0 ≤ j21) then (basic_Fault 7 s1).bind fun v32 => some (.out (.inr v32)) else some (.cont (w64 (s1 + 1)))))) else some (.out (.inl (()))))
noncomputable def envelope_Recipients (a0 : List TRecipient) : Option TFault :=
  (iter (envelope_Recipients_l1 a0) 0).bind (Sum.elim (fun b2 => (basic_None).bind fun v34 => some v34) (fun b3 => some b3))
noncomputable def envelope_Validate (a0 : TEnvelope) : Option TFault :=
  ((bif (a0.From != ([] : Str)) then (envelope_Address a0.From).bind fun v3 => some ((!v3)) else some false) : Option Bool).bind fun (j1 : Bool) => (bif j1 then (basic_Fault 10 ((-10))).bind fun v6 => some v6 else ((bif decide ((a0.To.length : Int) < 1) then some true else some (decide (60 < (a0.To.length : Int)))) : Option Bool).bind fun (j8 : Bool) => (bif j8 then (basic_Fault 2 ((-11))).bind fun v11 => some v11 else ((bif (a0.Id != ([] : Str)) then (basic_Name a0.Id).bind fun v15 => some ((!v15)) else some false) : Option Bool).bind fun (j13 : Bool) => (bif j13 then (basic_Fault 10 ((-12))).bind fun v18 => some v18 else (envelope_Recipients a0.To).bind fun v20 => some v20)))
def slices_Index_string_string_l1 (a0 : List Str) (a1 : Str) (s1 : Int) : Option (Step Int (Unit ⊕ Int)) :=
  (bif decide (s1 < (a0.length : Int)) then (idx a0 s1).bind fun v7 => (bif (a1 == v7) then some (.out (.inr s1)) else some (.cont (w64 (s1 + 1)))) else some (.out (.inl (()))))
noncomputable def slices_Index_string_string (a0 : List Str) (a1 : Str) : Option Int :=
  (iter (slices_Index_string_string_l1 a0 a1) 0).bind (Sum.elim (fun b2 => some ((-1))) (fun b3 => some b3))
noncomputable def slices_Contains_string_string (a0 : List Str) (a1 : Str) : Option Bool :=
  (slices_Index_string_string a0 a1).bind fun v1 => some (decide (0 ≤ v1))
noncomputable def envelope_Domains_l1 (a0 : TEnvelope) (s6 : Int × (List Str)) : Option (Step (Int × (List Str)) (List Str)) :=
  (bif decide (s6.1 < (a0.To.length : Int)) then ((idx a0.To s6.1).bind fun v11 => (envelope_Split v11.Address).bind fun v13 => (slices_Contains_string_string s6.2 v13.2.1).bind fun v15 => (bif (!v15) then (app 8796093022208 s6.2 (([v13.2.1] : List Str))).bind fun v18 => some v18 else some s6.2) : Option (List Str)).bind fun (j10 : List Str) => some (.cont ((w64 (s6.1 + 1)), j10)) else some (.out s6.2))
noncomputable def envelope_Domains (a0 : TEnvelope) : Option ((List Str) × TFault) :=
  (envelope_Validate a0).bind fun v1 => (basic_Failed v1).bind fun v3 => (bif v3 then some (([], v1)) else (iter (envelope_Domains_l1 a0) ((0, ([] : List Str)))).bind fun b7 => (basic_None).bind fun v20 => some ((b7, v20)))
noncomputable def envelope_For_l1 (a1 : Str) (j6 : List TRecipient) (s12 : Int) : Option (Step Int (Unit ⊕ Int)) :=
  (bif decide (s12 < (j6.length : Int)) then (idx j6 s12).bind fun v18 => (idx j6 s12).bind fun v20 => (envelope_Split v20.Address).bind fun v22 => (bif (v22.2.1 != a1) then some (.out (.inr s12)) else some (.cont (w64 (s12 + 1)))) else some (.out (.inl (()))))
noncomputable def envelope_For_l2 (a1 : Str) (s26 : Int × Int × (List TRecipient)) : Option (Step (Int × Int × (List TRecipient)) (Int × (List TRecipient))) :=
  (bif decide (s26.2.1 < (s26.2.2.length : Int)) then ((idx s26.2.2 s26.2.1).bind fun v31 => (idx s26.2.2 s26.2.1).bind fun v33 => (envelope_Split v33.Address).bind fun v35 => (bif (!((v35.2.1 != a1))) then (idx s26.2.2 s26.1).bind fun v38 => (idx s26.2.2 s26.1).bind fun v40 => some (((w64 (s26.1 + 1)), (List.set s26.2.2 (Int.toNat s26.1) v33))) else some ((s26.1, s26.2.2))) : Option (Int × (List TRecipient))).bind fun (j30 : Int × (List TRecipient)) => some (.cont (j30.1, (w64 (s26.2.1 + 1)), j30.2)) else some (.out ((s26.1, s26.2.2))))
noncomputable def envelope_For (a0 : TEnvelope) (a1 : Str) : Option (TEnvelope × TFault) :=
  (envelope_Validate a0).bind fun v1 => (basic_Failed v1).bind fun v3 => (bif v3 then some (((TEnvelope.mk (([] : Str)) ([]) (([] : Str))), v1)) else ((nilE a0.To.isEmpty (some (([] : List TRecipient))) ((app 5864062014805 ([] : List TRecipient) a0.To).bind fun v8 => some v8)) : Option (List TRecipient)).bind fun (j6 : List TRecipient) => (((iter (envelope_For_l1 a1 j6) 0).bind (Sum.elim (fun b13 => some ((-1))) (fun b14 => some b14)) : Option Int).bind fun (j11 : Int) => (bif (j11 == (-1)) then some j6 else (iter (envelope_For_l2 a1) ((j11, (w64 (j11 + 1)), j6))).bind fun b27 => (cut b27.2 b27.1 (b27.2.length : Int)).bind fun v42 => (cut ((clr0 b27.2 (Int.toNat b27.1) ((TRecipient.mk (([] : Str)) 0)))) 0 b27.1).bind fun v44 => some v44) : Option (List TRecipient)).bind fun (j10 : List TRecipient) => (bif ((j10.length : Int) == 0) then (basic_Fault 6 ((-13))).bind fun v47 => some (((TEnvelope.mk (([] : Str)) ([]) (([] : Str))), v47)) else (basic_None).bind fun v49 => some (((TEnvelope.mk a0.From j10 a0.Id), v49))))
def envelope_Merge_k2 (s4 : Int × (List TRecipient) × (List (Str × Int))) (j10 : (List TRecipient) × (List (Str × Int))) : Option (Step (Int × (List TRecipient) × (List (Str × Int))) ((List TRecipient) ⊕ ((List TRecipient) × TFault))) :=
  some (.cont ((w64 (s4.1 + 1)), j10.1, j10.2))
noncomputable def envelope_Merge_l1 (a0 : List TRecipient) (s4 : Int × (List TRecipient) × (List (Str × Int))) : Option (Step (Int × (List TRecipient) × (List (Str × Int))) ((List TRecipient) ⊕ ((List TRecipient) × TFault))) :=
  (bif decide (s4.1 < (a0.length : Int)) then (idx a0 s4.1).bind fun v11 => (envelope_Address v11.Address).bind fun v13 => (bif (!v13) then (basic_Fault 10 s4.1).bind fun v16 => some (.out (.inr (([], v16)))) else (envelope_Notify v11.Notify).bind fun v18 => (bif (!v18) then (basic_Fault 3 s4.1).bind fun v21 => some (.out (.inr (([], v21)))) else (bif (mget s4.2.2 v11.Address).isSome then (idx s4.2.1 (((mget s4.2.2 v11.Address).getD 0))).bind fun v24 => (idx s4.2.1 (((mget s4.2.2 v11.Address).getD 0))).bind fun v26 => (idx s4.2.1 (((mget s4.2.2 v11.Address).getD 0))).bind fun v28 => (idx s4.2.1 (((mget s4.2.2 v11.Address).getD 0))).bind fun v30 => (envelope_Merge_k2 s4 ((List.set s4.2.1 (Int.toNat (((mget s4.2.2 v11.Address).getD 0))) ((TRecipient.mk v30.Address ((iOr v26.Notify v11.Notify))))), s4.2.2)) else (app 5864062014805 s4.2.1 (([v11] : List TRecipient))).bind fun v32 => (envelope_Merge_k2 s4 (v32, (mput s4.2.2 v11.Address ((s4.2.1.length : Int)))))))) else some (.out (.inl s4.2.1)))
noncomputable def envelope_Merge (a0 : List TRecipient) : Option ((List TRecipient) × TFault) :=
  (bif decide (300 < (a0.length : Int)) then (basic_Fault 2 ((-1))).bind fun v2 => some (([], v2)) else (iter (envelope_Merge_l1 a0) ((0, ([] : List TRecipient), ([] : List (Str × Int))))).bind (Sum.elim (fun b5 => (basic_None).bind fun v34 => some ((b5, v34))) (fun b6 => some ((b6.1, b6.2)))))
def R_SameRecipients_l1 (a0 : List TRecipient) (a1 : List TRecipient) (s2 : Int) : Option (Step Int (Unit ⊕ Bool)) :=
  (bif decide (s2 < (a0.length : Int)) then (idx a0 s2).bind fun v8 => (idx a1 s2).bind fun v10 => (bif (!(allEq [(v8.Address == v10.Address), (v8.Notify == v10.Notify)])) then some (.out (.inr false)) else some (.cont (w64 (s2 + 1)))) else some (.out (.inl (()))))
noncomputable def R_SameRecipients (a0 : List TRecipient) (a1 : List TRecipient) : Option Bool :=
  (bif ((a0.length : Int) != (a1.length : Int)) then some false else (iter (R_SameRecipients_l1 a0 a1) 0).bind (Sum.elim (fun b3 => some true) (fun b4 => some b4)))
noncomputable def L_envelopes  : Option Bool :=
  (envelope_Domains ((TEnvelope.mk (([] : Str)) (([(TRecipient.mk (([97, 64, 120] : Str)) 0), (TRecipient.mk (([98, 64, 121] : Str)) 1)] : List TRecipient)) (([] : Str))))).bind fun v1 => (envelope_For ((TEnvelope.mk (([] : Str)) (([(TRecipient.mk (([97, 64, 120] : Str)) 0), (TRecipient.mk (([98, 64, 121] : Str)) 1)] : List TRecipient)) (([] : Str)))) (([121] : Str))).bind fun v3 => (envelope_Merge (([(TRecipient.mk (([97, 64, 98] : Str)) 1), (TRecipient.mk (([97, 64, 98] : Str)) 4)] : List TRecipient))).bind fun v5 => ((bif (v1.2.Code == 0) then (bif (v3.2.Code == 0) then (bif (v5.2.Code == 0) then (R_Strings v1.1 (([([120] : Str), ([121] : Str)] : List Str))).bind fun v11 => (bif v11 then (R_SameRecipients v3.1.To (([(TRecipient.mk (([98, 64, 121] : Str)) 1)] : List TRecipient))).bind fun v14 => (bif v14 then (R_SameRecipients v5.1 (([(TRecipient.mk (([97, 64, 98] : Str)) 5)] : List TRecipient))).bind fun v17 => (bif v17 then (envelope_Validate ((TEnvelope.mk (([] : Str)) ([]) (([] : Str))))).bind fun v20 => (R_At 2 ((-11))).bind fun v22 => some ((allEq [(v20.Code == v22.Code), (v20.Index == v22.Index)])) else some false) else some false) else some false) else some false) else some false) else some false) : Option Bool).bind fun (j7 : Bool) => some j7
noncomputable def R_DomainOf (a0 : Str) : Option Str :=
  (R_sign a0).bind fun v1 => (bif (v1 == (a0.length : Int)) then some (([] : Str)) else (cut a0 ((w64 (v1 + 1))) ((a0.length : Int))).bind fun v4 => some v4)
noncomputable def L_EnvelopeDomainsMatchSpec_l1 (a0 : TEnvelope) (a1 : Str) (s22 : Int × (List TRecipient) × (List Str)) : Option (Step (Int × (List TRecipient) × (List Str)) ((List TRecipient) × (List Str))) :=
  (bif decide (s22.1 < (a0.To.length : Int)) then ((idx a0.To s22.1).bind fun v27 => (R_DomainOf v27.Address).bind fun v29 => ((R_Has s22.2.2 v29).bind fun v32 => (bif (!v32) then (app 8796093022208 s22.2.2 (([v29] : List Str))).bind fun v35 => some v35 else some s22.2.2) : Option (List Str)).bind fun (j31 : List Str) => (bif (v29 == a1) then (idx a0.To s22.1).bind fun v38 => (app 5864062014805 s22.2.1 (([v38] : List TRecipient))).bind fun v40 => some ((v40, j31)) else some ((s22.2.1, j31))) : Option ((List TRecipient) × (List Str))).bind fun (j26 : (List TRecipient) × (List Str)) => some (.cont ((w64 (s22.1 + 1)), j26.1, j26.2)) else some (.out ((s22.2.1, s22.2.2))))
noncomputable def L_EnvelopeDomainsMatchSpec (a0 : TEnvelope) (a1 : Str) : Option Bool :=
  (R_EnvelopeFault a0).bind fun v1 => (envelope_Domains a0).bind fun v3 => (envelope_For a0 a1).bind fun v5 => ((L_envelopes).bind fun v8 => (bif (!v8) then some true else (bif (!(allEq [(v3.2.Code == v1.Code), (v3.2.Index == v1.Index)])) then some true else some ((v1.Code != 0)))) : Option Bool).bind fun (j7 : Bool) => (bif j7 then ((L_envelopes).bind fun v14 => (bif v14 then (bif (allEq [(v3.2.Code == v1.Code), (v3.2.Index == v1.Index)]) then (bif (allEq [(v5.2.Code == v1.Code), (v5.2.Index == v1.Index)]) then (bif ((v3.1.length : Int) == 0) then (bif ((v5.1.To.length : Int) == 0) then (bif (v5.1.From == ([] : Str)) then some ((v5.1.Id == ([] : Str))) else some false) else some false) else some false) else some false) else some false) else some false) : Option Bool).bind fun (j13 : Bool) => some j13 else (iter (L_EnvelopeDomainsMatchSpec_l1 a0 a1) ((0, ([] : List TRecipient), ([] : List Str)))).bind fun b23 => (R_Strings v3.1 b23.2).bind fun v42 => (bif (!v42) then some false else (bif ((b23.1.length : Int) == 0) then ((R_At 6 ((-13))).bind fun v47 => (bif (allEq [(v5.2.Code == v47.Code), (v5.2.Index == v47.Index)]) then (bif ((v5.1.To.length : Int) == 0) then (bif (v5.1.From == ([] : Str)) then some ((v5.1.Id == ([] : Str))) else some false) else some false) else some false) : Option Bool).bind fun (j46 : Bool) => some j46 else ((bif (v5.2.Code == 0) then (bif (v5.1.From == a0.From) then (bif (v5.1.Id == a0.Id) then (R_SameRecipients v5.1.To b23.1).bind fun v56 => some v56 else some false) else some false) else some false) : Option Bool).bind fun (j52 : Bool) => some j52)))
def R_Either_l1 (a0 : Int) (a1 : Int) (s1 : Int × Int) : Option (Step (Int × Int) Int) :=
  (bif decide (s1.2 ≤ 4) then (((nz s1.2).bind fun v7 => (bif ((iRem ((iQuo a0 s1.2)) 2) == 1) then some true else (nz s1.2).bind fun v10 => some (((iRem ((iQuo a1 s1.2)) 2) == 1))) : Option Bool).bind fun (j6 : Bool) => (bif j6 then some ((w64 (s1.1 + s1.2))) else some s1.1) : Option Int).bind fun (j5 : Int) => some (.cont (j5, (w64 (2 * s1.2)))) else some (.out s1.1))
noncomputable def R_Either (a0 : Int) (a1 : Int) : Option Int :=
  (iter (R_Either_l1 a0 a1) ((0, 1))).bind fun b2 => some b2
noncomputable def R_Merged_l2 (a0 : List TRecipient) (v11 : TRecipient) (s13 : Int × Int) : Option (Step (Int × Int) Int) :=
  (bif decide (s13.1 < (a0.length : Int)) then ((idx a0 s13.1).bind fun v18 => (bif (v18.Address == v11.Address) then (idx a0 s13.1).bind fun v21 => (R_Either s13.2 v21.Notify).bind fun v23 => some v23 else some s13.2) : Option Int).bind fun (j17 : Int) => some (.cont ((w64 (s13.1 + 1)), j17)) else some (.out s13.2))
noncomputable def R_Merged_l1 (a0 : List TRecipient) (s1 : Int × (List TRecipient)) : Option (Step (Int × (List TRecipient)) (List TRecipient)) :=
  (bif decide (s1.1 < (a0.length : Int)) then ((idx a0 s1.1).bind fun v6 => (R_Known s1.2 v6.Address).bind fun v8 => (bif decide (0 ≤ v8) then some s1.2 else (idx a0 s1.1).bind fun v11 => (iter (R_Merged_l2 a0 v11) (((w64 (s1.1 + 1)), v11.Notify))).bind fun b14 => (app 5864062014805 s1.2 (([(TRecipient.mk v11.Address b14)] : List TRecipient))).bind fun v25 => some v25) : Option (List TRecipient)).bind fun (j5 : List TRecipient) => some (.cont ((w64 (s1.1 + 1)), j5)) else some (.out s1.2))
noncomputable def R_Merged (a0 : List TRecipient) : Option (List TRecipient) :=
  (iter (R_Merged_l1 a0) ((0, ([] : List TRecipient)))).bind fun b2 => some b2
noncomputable def L_EnvelopeMergeMatchesSpec_l1 (a0 : List TRecipient) (s7 : Int × Int × Int) : Option (Step (Int × Int × Int) (Int × Int)) :=
  ((bif decide (s7.1 < (a0.length : Int)) then some ((s7.2.1 == 0)) else some false) : Option Bool).bind fun (j10 : Bool) => (bif j10 then ((idx a0 s7.1).bind fun v14 => (R_AddressOk v14.Address).bind fun v16 => (bif (!v16) then (R_At 10 s7.1).bind fun v19 => some ((v19.Code, v19.Index)) else (idx a0 s7.1).bind fun v21 => (R_In v21.Notify 0 7).bind fun v23 => (bif (!v23) then (R_At 3 s7.1).bind fun v26 => some ((v26.Code, v26.Index)) else some ((s7.2.1, s7.2.2)))) : Option (Int × Int)).bind fun (j13 : Int × Int) => some (.cont ((w64 (s7.1 + 1)), j13.1, j13.2)) else some (.out ((s7.2.1, s7.2.2))))
noncomputable def L_EnvelopeMergeMatchesSpec (a0 : List TRecipient) : Option Bool :=
  (envelope_Merge a0).bind fun v1 => ((bif decide (300 < (a0.length : Int)) then (R_At 2 ((-1))).bind fun v5 => some ((v5.Code, v5.Index)) else some ((0, 0))) : Option (Int × Int)).bind fun (j3 : Int × Int) => (iter (L_EnvelopeMergeMatchesSpec_l1 a0) ((0, j3.1, j3.2))).bind fun b8 => ((L_envelopes).bind fun v29 => (bif (!v29) then some true else (bif (!(allEq [(v1.2.Code == b8.1), (v1.2.Index == b8.2)])) then some true else some ((b8.1 != 0)))) : Option Bool).bind fun (j28 : Bool) => (bif j28 then ((L_envelopes).bind fun v35 => (bif v35 then (bif (allEq [(v1.2.Code == b8.1), (v1.2.Index == b8.2)]) then some (((v1.1.length : Int) == 0)) else some false) else some false) : Option Bool).bind fun (j34 : Bool) => some j34 else (R_Merged a0).bind fun v39 => (R_SameRecipients v1.1 v39).bind fun v41 => some v41)
end Go.Proofs.YtfhfjckjmacekaaGreat

/- Functions of the program as Lean functions: what they compute. Written by program. -/
namespace Go.Proofs.YtfhfjckjmacekaaGreat
open Go.RowKit
set_option maxRecDepth 100000
set_option maxHeartbeats 40000000
set_option linter.unusedVariables false
def strings_ContainsAny (a0 : Str) (a1 : Str) : Option Bool :=
  (strings_IndexAny a0 a1).bind fun v1 => some (decide (0 ≤ v1))
def fold_name_l1 (a0 : Str) (s5 : Int) : Option (Step Int (Unit ⊕ Unit)) :=
  (bif decide (s5 < (a0.length : Int)) then (idx a0 s5).bind fun v11 => ((bif decide (33 ≤ (v11.toNat : Int)) then (bif decide ((v11.toNat : Int) ≤ 126) then some (((v11.toNat : Int) != 58)) else some false) else some false) : Option Bool).bind fun (j13 : Bool) => (bif (!j13) then some (.out (.inr (()))) else some (.cont (w64 (s5 + 1)))) else some (.out (.inl (()))))
noncomputable def fold_name (a0 : Str) : Option Bool :=
  ((bif (a0 != ([] : Str)) then (bif decide ((a0.length : Int) ≤ 60) then ((iter (fold_name_l1 a0) 0).bind (Sum.elim (fun b6 => some true) (fun b7 => some false)) : Option Bool).bind fun (j4 : Bool) => some j4 else some false) else some false) : Option Bool).bind fun (j1 : Bool) => some j1
def fold_ends (a0 : Str) : Option Bool :=
  (strings_ContainsAny a0 (([13, 10, 0] : Str))).bind fun v1 => some v1
def basic_Blank (a0 : UInt8) : Option Bool :=
  ((bif ((a0.toNat : Int) == 32) then some true else some (((a0.toNat : Int) == 9))) : Option Bool).bind fun (j1 : Bool) => some j1
def fold_value (a0 : Str) : Option Bool :=
  ((fold_ends a0).bind fun v2 => (bif (!v2) then (bif (a0 == ([] : Str)) then some true else (idx a0 0).bind fun v6 => (basic_Blank v6).bind fun v8 => (bif (!v8) then (idx a0 ((w64 ((a0.length : Int) - 1)))).bind fun v11 => (basic_Blank v11).bind fun v13 => some ((!v13)) else some false)) else some false) : Option Bool).bind fun (j1 : Bool) => some j1
def fold_point_k2 (s1 : Int × Int) (j5 : Int) : Option (Step (Int × Int) Int) :=
  some (.cont (j5, (w64 (s1.2 + 1))))
def fold_point_l1 (a0 : Str) (s1 : Int × Int) : Option (Step (Int × Int) Int) :=
  (bif decide (s1.2 < (a0.length : Int)) then ((idx a0 s1.2).bind fun v7 => (basic_Blank v7).bind fun v9 => (bif (!v9) then some true else (idx a0 ((w64 (s1.2 - 1)))).bind fun v12 => (basic_Blank v12).bind fun v14 => some v14) : Option Bool).bind fun (j6 : Bool) => (bif j6 then (fold_point_k2 s1 s1.1) else ((bif decide (0 < s1.1) then some (decide (78 < s1.2)) else some false) : Option Bool).bind fun (j17 : Bool) => (bif j17 then some (.out s1.1) else (fold_point_k2 s1 s1.2))) else some (.out s1.1))
noncomputable def fold_point (a0 : Str) (a1 : Int) : Option Int :=
  (iter (fold_point_l1 a0) ((0, (max a1 1)))).bind fun b2 => some b2
noncomputable def fold_Fold_l1  (s18 : Str × Int × (List Str)) : Option (Step (Str × Int × (List Str)) (Str × (List Str))) :=
  (bif decide (78 < (s18.1.length : Int)) then (fold_point s18.1 s18.2.1).bind fun v22 => (bif (v22 == 0) then some (.out ((s18.1, s18.2.2))) else (cut s18.1 0 v22).bind fun v25 => (app 8796093022208 s18.2.2 (([v25] : List Str))).bind fun v27 => (cut s18.1 v22 ((s18.1.length : Int))).bind fun v29 => some (.cont (v29, 0, v27))) else some (.out ((s18.1, s18.2.2))))
def fold_Fold_l2 (v31 : List Str) (s34 : Int) : Option (Step Int (Unit ⊕ ((List Str) × TFault))) :=
  (bif decide (s34 < (v31.length : Int)) then (idx v31 s34).bind fun v40 => (bif decide (998 < (v40.length : Int)) then (basic_Fault 1 s34).bind fun v43 => some (.out (.inr (([], v43)))) else some (.cont (w64 (s34 + 1)))) else some (.out (.inl (()))))
noncomputable def fold_Fold (a0 : Str) (a1 : Str) : Option ((List Str) × TFault) :=
  (fold_name a0).bind fun v1 => (bif (!v1) then (basic_Fault 10 ((-1))).bind fun v4 => some (([], v4)) else (bif decide (4000 < (a1.length : Int)) then (basic_Fault 1 ((-1))).bind fun v7 => some (([], v7)) else (fold_value a1).bind fun v9 => (bif (!v9) then (basic_Fault 11 ((-1))).bind fun v12 => some (([], v12)) else (cat a0 (([58, 32] : Str))).bind fun v14 => (cat v14 a1).bind fun v16 => (iter (fold_Fold_l1) ((v16, (w64 ((a0.length : Int) + 2)), ([] : List Str)))).bind fun b19 => (app 8796093022208 b19.2 (([b19.1] : List Str))).bind fun v31 => (iter (fold_Fold_l2 v31) 0).bind (Sum.elim (fun b35 => (basic_None).bind fun v45 => some ((v31, v45))) (fun b36 => some ((b36.1, b36.2)))))))
end Go.Proofs.YtfhfjckjmacekaaGreat

/- Functions of the program as Lean functions: what they compute. Written by program. -/
namespace Go.Proofs.YtfhfjckjmacekaaGreat
open Go.RowKit
set_option maxRecDepth 100000
set_option maxHeartbeats 40000000
set_option linter.unusedVariables false
noncomputable def header_Validate_l1 (a0 : List TField) (s4 : Int) : Option (Step Int (Unit ⊕ TFault)) :=
  (bif decide (s4 < (a0.length : Int)) then (idx a0 s4).bind fun v10 => (fold_Fold v10.Name v10.Value).bind fun v12 => (basic_Failed v12.2).bind fun v14 => (bif v14 then (basic_Fault v12.2.Code s4).bind fun v17 => some (.out (.inr v17)) else some (.cont (w64 (s4 + 1)))) else some (.out (.inl (()))))
noncomputable def header_Validate (a0 : List TField) : Option TFault :=
  (bif decide (60 < (a0.length : Int)) then (basic_Fault 2 ((-1))).bind fun v2 => some v2 else (iter (header_Validate_l1 a0) 0).bind (Sum.elim (fun b5 => (basic_None).bind fun v19 => some v19) (fun b6 => some b6)))
def message_write_l2 (v7 : (List Str) × TFault) (s9 : Int × (List UInt8)) : Option (Step (Int × (List UInt8)) (List UInt8)) :=
  (bif decide (s9.1 < (v7.1.length : Int)) then (idx v7.1 s9.1).bind fun v13 => (app 140737488355328 s9.2 v13).bind fun v15 => (app 140737488355328 v15 (([(13 : UInt8), (10 : UInt8)] : List UInt8))).bind fun v17 => some (.cont ((w64 (s9.1 + 1)), v17)) else some (.out s9.2))
noncomputable def message_write_l1 (a0 : TMessage) (s1 : Int × (List UInt8)) : Option (Step (Int × (List UInt8)) (List UInt8)) :=
  (bif decide (s1.1 < (a0.Fields.length : Int)) then (idx a0.Fields s1.1).bind fun v5 => (fold_Fold v5.Name v5.Value).bind fun v7 => (iter (message_write_l2 v7) ((0, s1.2))).bind fun b10 => some (.cont ((w64 (s1.1 + 1)), b10)) else some (.out s1.2))
noncomputable def message_write (a0 : TMessage) : Option (List UInt8) :=
  (iter (message_write_l1 a0) ((0, ([] : List UInt8)))).bind fun b2 => (app 140737488355328 b2 (([(13 : UInt8), (10 : UInt8)] : List UInt8))).bind fun v19 => (app 140737488355328 v19 a0.Body).bind fun v21 => some v21
def basic_Body_k2  (j7 : Int × Int) : Option (Step (Int × Int) (Unit ⊕ Int)) :=
  some (.cont (j7.1, (w64 (j7.2 + 1))))
def basic_Body_l1 (a0 : List UInt8) (s1 : Int × Int) : Option (Step (Int × Int) (Unit ⊕ Int)) :=
  (bif decide (s1.2 < (a0.length : Int)) then (idx a0 s1.2).bind fun v8 => ((bif ((v8.toNat : Int) == 13) then (bif decide ((w64 (s1.2 + 1)) < (a0.length : Int)) then (idx a0 ((w64 (s1.2 + 1)))).bind fun v13 => some (((v13.toNat : Int) == 10)) else some false) else some false) : Option Bool).bind fun (j10 : Bool) => (bif j10 then (basic_Body_k2  (0, (w64 (s1.2 + 1)))) else ((bif ((v8.toNat : Int) == 13) then some true else some (((v8.toNat : Int) == 10))) : Option Bool).bind fun (j16 : Bool) => (bif j16 then some (.out (.inr 11)) else (bif decide (998 < (w64 (s1.1 + 1))) then some (.out (.inr 1)) else (basic_Body_k2  ((w64 (s1.1 + 1)), s1.2))))) else some (.out (.inl (()))))
noncomputable def basic_Body (a0 : List UInt8) : Option Int :=
  (iter (basic_Body_l1 a0) ((0, 0))).bind (Sum.elim (fun b2 => some 0) (fun b3 => some b3))
noncomputable def message_body (a0 : List UInt8) : Option TFault :=
  (basic_Body a0).bind fun v1 => (bif (v1 == 11) then (basic_Fault 11 ((-5))).bind fun v4 => some v4 else (bif (v1 == 1) then (basic_Fault 1 ((-6))).bind fun v7 => some v7 else (basic_None).bind fun v9 => some v9))
noncomputable def message_Validate (a0 : TMessage) : Option TFault :=
  (header_Validate a0.Fields).bind fun v1 => (basic_Failed v1).bind fun v3 => (bif v3 then some v1 else (message_write a0).bind fun v6 => (bif decide (12000 < (v6.length : Int)) then (basic_Fault 1 ((-4))).bind fun v9 => some v9 else (message_body a0.Body).bind fun v11 => some v11))
noncomputable def envelope_Check (a0 : TMail) : Option TFault :=
  (envelope_Validate a0.Envelope).bind fun v1 => (basic_Failed v1).bind fun v3 => (bif v3 then some v1 else (message_Validate a0.Message).bind fun v6 => (basic_Failed v6).bind fun v8 => (bif v8 then (basic_Fault v6.Code ((-30))).bind fun v11 => some v11 else (basic_None).bind fun v13 => some v13))
def R_blank (a0 : UInt8) : Option Bool :=
  ((bif ((a0.toNat : Int) == 32) then some true else some (((a0.toNat : Int) == 9))) : Option Bool).bind fun (j1 : Bool) => some j1
def R_FieldLines_l2 (s5 : Str × Int × (List Str)) (s9 : Int × Int) : Option (Step (Int × Int) Int) :=
  ((bif decide (0 < s9.2) then some ((s9.1 == 0)) else some false) : Option Bool).bind fun (j12 : Bool) => (bif j12 then (((bif decide (s5.2.1 ≤ s9.2) then (idx s5.1 s9.2).bind fun v18 => (R_blank v18).bind fun v20 => (bif v20 then (idx s5.1 ((w64 (s9.2 - 1)))).bind fun v23 => (R_blank v23).bind fun v25 => some ((!v25)) else some false) else some false) : Option Bool).bind fun (j16 : Bool) => (bif j16 then some s9.2 else some s9.1) : Option Int).bind fun (j15 : Int) => some (.cont (j15, (w64 (s9.2 - 1)))) else some (.out s9.1))
def R_FieldLines_l3 (s5 : Str × Int × (List Str)) (s28 : Int × Int) : Option (Step (Int × Int) Int) :=
  ((bif decide (s28.2 < (s5.1.length : Int)) then some ((s28.1 == 0)) else some false) : Option Bool).bind fun (j31 : Bool) => (bif j31 then (((bif decide (s5.2.1 ≤ s28.2) then (idx s5.1 s28.2).bind fun v37 => (R_blank v37).bind fun v39 => (bif v39 then (idx s5.1 ((w64 (s28.2 - 1)))).bind fun v42 => (R_blank v42).bind fun v44 => some ((!v44)) else some false) else some false) : Option Bool).bind fun (j35 : Bool) => (bif j35 then some s28.2 else some s28.1) : Option Int).bind fun (j34 : Int) => some (.cont (j34, (w64 (s28.2 + 1)))) else some (.out s28.1))
noncomputable def R_FieldLines_l1  (s5 : Str × Int × (List Str)) : Option (Step (Str × Int × (List Str)) (Str × (List Str))) :=
  (bif decide (78 < (s5.1.length : Int)) then (iter (R_FieldLines_l2 s5) ((0, 78))).bind fun b10 => (iter (R_FieldLines_l3 s5) ((b10, 79))).bind fun b29 => (bif (b29 == 0) then some (.out ((s5.1, s5.2.2))) else (cut s5.1 0 b29).bind fun v48 => (app 8796093022208 s5.2.2 (([v48] : List Str))).bind fun v50 => (cut s5.1 b29 ((s5.1.length : Int))).bind fun v52 => some (.cont (v52, 1, v50))) else some (.out ((s5.1, s5.2.2))))
noncomputable def R_FieldLines (a0 : Str) (a1 : Str) : Option (List Str) :=
  (cat a0 (([58, 32] : Str))).bind fun v1 => (cat v1 a1).bind fun v3 => (iter (R_FieldLines_l1) ((v3, (w64 ((a0.length : Int) + 2)), ([] : List Str)))).bind fun b6 => (app 8796093022208 b6.2 (([b6.1] : List Str))).bind fun v54 => some v54
def R_FieldCode_l1 (a0 : TField) (s1 : Int) : Option (Step Int (Unit ⊕ Int)) :=
  (bif decide (s1 < (a0.Name.length : Int)) then ((idx a0.Name s1).bind fun v8 => (R_In ((v8.toNat : Int)) 33 126).bind fun v10 => (bif (!v10) then some true else (idx a0.Name s1).bind fun v13 => some (((v13.toNat : Int) == 58))) : Option Bool).bind fun (j7 : Bool) => (bif j7 then some (.out (.inr 10)) else some (.cont (w64 (s1 + 1)))) else some (.out (.inl (()))))
def R_FieldCode_l2 (a0 : TField) (s20 : Int) : Option (Step Int (Unit ⊕ Int)) :=
  (bif decide (s20 < (a0.Value.length : Int)) then ((idx a0.Value s20).bind fun v27 => (bif ((v27.toNat : Int) == 0) then some true else (idx a0.Value s20).bind fun v30 => (bif ((v30.toNat : Int) == 10) then some true else (idx a0.Value s20).bind fun v33 => some (((v33.toNat : Int) == 13)))) : Option Bool).bind fun (j26 : Bool) => (bif j26 then some (.out (.inr 11)) else some (.cont (w64 (s20 + 1)))) else some (.out (.inl (()))))
def R_FieldCode_l3 (v48 : List Str) (s50 : Int) : Option (Step Int (Unit ⊕ Int)) :=
  (bif decide (s50 < (v48.length : Int)) then (idx v48 s50).bind fun v56 => (bif decide (998 < (v56.length : Int)) then some (.out (.inr 1)) else some (.cont (w64 (s50 + 1)))) else some (.out (.inl (()))))
noncomputable def R_FieldCode (a0 : TField) : Option Int :=
  (iter (R_FieldCode_l1 a0) 0).bind (Sum.elim (fun b2 => (R_In ((a0.Name.length : Int)) 1 60).bind fun v16 => (bif (!v16) then some 10 else (bif decide (4000 < (a0.Value.length : Int)) then some 1 else (iter (R_FieldCode_l2 a0) 0).bind (Sum.elim (fun b21 => ((bif decide (0 < (a0.Value.length : Int)) then (idx a0.Value 0).bind fun v38 => (R_blank v38).bind fun v40 => (bif v40 then some true else (idx a0.Value ((w64 ((a0.Value.length : Int) - 1)))).bind fun v43 => (R_blank v43).bind fun v45 => some v45) else some false) : Option Bool).bind fun (j36 : Bool) => (bif j36 then some 11 else (R_FieldLines a0.Name a0.Value).bind fun v48 => (iter (R_FieldCode_l3 v48) 0).bind (Sum.elim (fun b51 => some 0) (fun b52 => some b52)))) (fun b22 => some b22))))) (fun b3 => some b3))
def R_MessageBytes_l2 (v9 : List Str) (s11 : Int × (List UInt8)) : Option (Step (Int × (List UInt8)) (List UInt8)) :=
  (bif decide (s11.1 < (v9.length : Int)) then (idx v9 s11.1).bind fun v15 => (app 140737488355328 s11.2 v15).bind fun v17 => (app 140737488355328 v17 (([(13 : UInt8), (10 : UInt8)] : List UInt8))).bind fun v19 => some (.cont ((w64 (s11.1 + 1)), v19)) else some (.out s11.2))
noncomputable def R_MessageBytes_l1 (a0 : TMessage) (s1 : Int × (List UInt8)) : Option (Step (Int × (List UInt8)) (List UInt8)) :=
  (bif decide (s1.1 < (a0.Fields.length : Int)) then (idx a0.Fields s1.1).bind fun v5 => (idx a0.Fields s1.1).bind fun v7 => (R_FieldLines v5.Name v7.Value).bind fun v9 => (iter (R_MessageBytes_l2 v9) ((0, s1.2))).bind fun b12 => some (.cont ((w64 (s1.1 + 1)), b12)) else some (.out s1.2))
noncomputable def R_MessageBytes (a0 : TMessage) : Option (List UInt8) :=
  (iter (R_MessageBytes_l1 a0) ((0, ([] : List UInt8)))).bind fun b2 => (app 140737488355328 b2 (([(13 : UInt8), (10 : UInt8)] : List UInt8))).bind fun v21 => (app 140737488355328 v21 a0.Body).bind fun v23 => some v23
noncomputable def R_MessageFault_l1 (a0 : TMessage) (s4 : Int) : Option (Step Int (Unit ⊕ TFault)) :=
  (bif decide (s4 < (a0.Fields.length : Int)) then (idx a0.Fields s4).bind fun v10 => (R_FieldCode v10).bind fun v12 => (bif (v12 != 0) then (R_At v12 s4).bind fun v15 => some (.out (.inr v15)) else some (.cont (w64 (s4 + 1)))) else some (.out (.inl (()))))
def R_MessageFault_k3  (j30 : Int × Int) : Option (Step (Int × Int) (Unit ⊕ TFault)) :=
  some (.cont (j30.1, (w64 (j30.2 + 1))))
def R_MessageFault_l2 (a0 : TMessage) (s24 : Int × Int) : Option (Step (Int × Int) (Unit ⊕ TFault)) :=
  (bif decide (s24.2 < (a0.Body.length : Int)) then (idx a0.Body s24.2).bind fun v31 => ((bif ((v31.toNat : Int) == 13) then (bif decide ((w64 (s24.2 + 1)) < (a0.Body.length : Int)) then (idx a0.Body ((w64 (s24.2 + 1)))).bind fun v36 => some (((v36.toNat : Int) == 10)) else some false) else some false) : Option Bool).bind fun (j33 : Bool) => (bif j33 then (R_MessageFault_k3  (0, (w64 (s24.2 + 1)))) else ((bif ((v31.toNat : Int) == 13) then some true else some (((v31.toNat : Int) == 10))) : Option Bool).bind fun (j39 : Bool) => (bif j39 then (R_At 11 ((-5))).bind fun v42 => some (.out (.inr v42)) else (bif decide (998 < (w64 (s24.1 + 1))) then (R_At 1 ((-6))).bind fun v45 => some (.out (.inr v45)) else (R_MessageFault_k3  ((w64 (s24.1 + 1)), s24.2))))) else some (.out (.inl (()))))
noncomputable def R_MessageFault (a0 : TMessage) : Option TFault :=
  (bif decide (60 < (a0.Fields.length : Int)) then (R_At 2 ((-1))).bind fun v2 => some v2 else (iter (R_MessageFault_l1 a0) 0).bind (Sum.elim (fun b5 => ((bif decide (12000 < (a0.Body.length : Int)) then some true else (R_MessageBytes a0).bind fun v19 => some (decide (12000 < (v19.length : Int)))) : Option Bool).bind fun (j17 : Bool) => (bif j17 then (R_At 1 ((-4))).bind fun v22 => some v22 else (iter (R_MessageFault_l2 a0) ((0, 0))).bind (Sum.elim (fun b25 => some ((TFault.mk 0 0))) (fun b26 => some b26)))) (fun b6 => some b6)))
noncomputable def R_MailFault (a0 : TMail) : Option TFault :=
  (R_EnvelopeFault a0.Envelope).bind fun v1 => (((bif (v1.Code == 0) then (R_MessageFault a0.Message).bind fun v6 => some ((v6.Code != 0)) else some false) : Option Bool).bind fun (j4 : Bool) => (bif j4 then (R_MessageFault a0.Message).bind fun v9 => (R_At v9.Code ((-30))).bind fun v11 => some ((v11.Code, v11.Index)) else some ((v1.Code, v1.Index))) : Option (Int × Int)).bind fun (j3 : Int × Int) => some ((TFault.mk j3.1 j3.2))
noncomputable def L_EnvelopeMatchesSpec (a0 : TMail) : Option Bool :=
  ((L_envelopes).bind fun v2 => (bif v2 then (envelope_Validate a0.Envelope).bind fun v5 => (R_EnvelopeFault a0.Envelope).bind fun v7 => (bif (allEq [(v5.Code == v7.Code), (v5.Index == v7.Index)]) then (envelope_Check a0).bind fun v10 => (R_MailFault a0).bind fun v12 => some ((allEq [(v10.Code == v12.Code), (v10.Index == v12.Index)])) else some false) else some false) : Option Bool).bind fun (j1 : Bool) => some j1
end Go.Proofs.YtfhfjckjmacekaaGreat

/- Functions of the program as Lean functions: what they compute. Written by program. -/
namespace Go.Proofs.YtfhfjckjmacekaaGreat
open Go.RowKit
set_option maxRecDepth 100000
set_option maxHeartbeats 40000000
set_option linter.unusedVariables false
def forward_aliases_l1 (a0 : List TForward) (s1 : Int × (List TAlias)) : Option (Step (Int × (List TAlias)) (List TAlias)) :=
  (bif decide (s1.1 < (a0.length : Int)) then (idx a0 s1.1).bind fun v5 => (app 3518437208883 s1.2 (([(TAlias.mk v5.Address v5.To)] : List TAlias))).bind fun v7 => some (.cont ((w64 (s1.1 + 1)), v7)) else some (.out s1.2))
noncomputable def forward_aliases (a0 : List TForward) : Option (List TAlias) :=
  (iter (forward_aliases_l1 a0) ((0, ([] : List TAlias)))).bind fun b2 => some b2
noncomputable def forward_Validate (a0 : List TForward) : Option TFault :=
  (forward_aliases a0).bind fun v1 => (alias_Validate v1).bind fun v3 => some v3
noncomputable def header_name (a0 : Str) : Option Bool :=
  (fold_Fold a0 (([] : Str))).bind fun v1 => (basic_Failed v1.2).bind fun v3 => some ((!v3))
noncomputable def header_valid (a0 : List TField) (a1 : Str) : Option TFault :=
  (header_Validate a0).bind fun v1 => (basic_Failed v1).bind fun v3 => (bif v3 then some v1 else (header_name a1).bind fun v6 => (bif (!v6) then (basic_Fault 10 ((-3))).bind fun v9 => some v9 else (basic_None).bind fun v11 => some v11))
def basic_Lower_l1 (a0 : Str) (s1 : Int × (List UInt8)) : Option (Step (Int × (List UInt8)) (List UInt8)) :=
  (bif decide (s1.1 < (a0.length : Int)) then ((idx s1.2 s1.1).bind fun v6 => (idx s1.2 s1.1).bind fun v8 => ((bif decide (65 ≤ (v8.toNat : Int)) then some (decide ((v8.toNat : Int) ≤ 90)) else some false) : Option Bool).bind fun (j10 : Bool) => (bif j10 then (idx s1.2 s1.1).bind fun v13 => (idx s1.2 s1.1).bind fun v15 => some ((List.set s1.2 (Int.toNat s1.1) (((v8 + (97 : UInt8)) - (65 : UInt8))))) else some s1.2) : Option (List UInt8)).bind fun (j5 : List UInt8) => some (.cont ((w64 (s1.1 + 1)), j5)) else some (.out s1.2))
noncomputable def basic_Lower (a0 : Str) : Option Str :=
  (iter (basic_Lower_l1 a0) ((0, a0))).bind fun b2 => some b2
noncomputable def basic_Same (a0 : Str) (a1 : Str) : Option Bool :=
  ((bif ((a0.length : Int) == (a1.length : Int)) then (basic_Lower a0).bind fun v3 => (basic_Lower a1).bind fun v5 => some ((v3 == v5)) else some false) : Option Bool).bind fun (j1 : Bool) => some j1
noncomputable def header_Get_l1 (a0 : List TField) (a1 : Str) (s6 : Int × (List Str)) : Option (Step (Int × (List Str)) (List Str)) :=
  (bif decide (s6.1 < (a0.length : Int)) then ((idx a0 s6.1).bind fun v11 => (basic_Same v11.Name a1).bind fun v13 => (bif v13 then (app 8796093022208 s6.2 (([v11.Value] : List Str))).bind fun v16 => some v16 else some s6.2) : Option (List Str)).bind fun (j10 : List Str) => some (.cont ((w64 (s6.1 + 1)), j10)) else some (.out s6.2))
noncomputable def header_Get (a0 : List TField) (a1 : Str) : Option ((List Str) × TFault) :=
  (header_valid a0 a1).bind fun v1 => (basic_Failed v1).bind fun v3 => (bif v3 then some (([], v1)) else (iter (header_Get_l1 a0 a1) ((0, ([] : List Str)))).bind fun b7 => (basic_None).bind fun v18 => some ((b7, v18)))
def forward_find_l1 (a0 : List TForward) (a1 : Str) (s2 : Int) : Option (Step Int (Unit ⊕ Int)) :=
  (bif decide (s2 < (a0.length : Int)) then (idx a0 s2).bind fun v8 => (bif (v8.Address == a1) then some (.out (.inr s2)) else some (.cont (w64 (s2 + 1)))) else some (.out (.inl (()))))
noncomputable def forward_find (a0 : List TForward) (a1 : Str) : Option Int :=
  ((iter (forward_find_l1 a0 a1) 0).bind (Sum.elim (fun b3 => some ((-1))) (fun b4 => some b4)) : Option Int).bind fun (j1 : Int) => some j1
def slices_Concat_api_Field_api_Field_l1 (a0 : List (List TField)) (s1 : Int × Int) : Option (Step (Int × Int) Int) :=
  (bif decide (s1.2 < (a0.length : Int)) then (idx a0 s1.2).bind fun v5 => (bif decide ((w64 (s1.1 + (v5.length : Int))) < 0) then none else some (.cont ((w64 (s1.1 + (v5.length : Int))), (w64 (s1.2 + 1))))) else some (.out s1.1))
def slices_Concat_api_Field_api_Field_l2 (a0 : List (List TField)) (s14 : Int × (List TField)) : Option (Step (Int × (List TField)) (List TField)) :=
  (bif decide (s14.1 < (a0.length : Int)) then (idx a0 s14.1).bind fun v18 => (app 4398046511104 s14.2 v18).bind fun v20 => some (.cont ((w64 (s14.1 + 1)), v20)) else some (.out s14.2))
def slices_Concat_api_Field_api_Field_l3 (a0 : List (List TField)) (s22 : Int × (List TField)) : Option (Step (Int × (List TField)) (List TField)) :=
  (bif decide (s22.1 < (a0.length : Int)) then (idx a0 s22.1).bind fun v26 => (app 4398046511104 s22.2 v26).bind fun v28 => some (.cont ((w64 (s22.1 + 1)), v28)) else some (.out s22.2))
noncomputable def slices_Concat_api_Field_api_Field (a0 : List (List TField)) : Option (List TField) :=
  (iter (slices_Concat_api_Field_api_Field_l1 a0) ((0, 0))).bind fun b2 => (bif decide (b2 < 0) then none else (bif decide (0 < (w64 (b2 - (w64 (0 - 0))))) then (zrep 4398046511104 ((w64 (b2 - (w64 (0 - 0))))) ((TField.mk (([] : Str)) (([] : Str))) : TField)).bind fun v10 => (cut v10 0 0).bind fun v12 => (iter (slices_Concat_api_Field_api_Field_l2 a0) ((0, v12))).bind fun b15 => some b15 else (iter (slices_Concat_api_Field_api_Field_l3 a0) ((0, ([] : List TField)))).bind fun b23 => some b23))
noncomputable def trace_Front (a0 : TMessage) (a1 : Str) (a2 : Str) : Option TMessage :=
  (slices_Concat_api_Field_api_Field (([([(TField.mk a1 a2)] : List TField), a0.Fields] : List (List TField)))).bind fun v1 => ((nilE a0.Body.isEmpty (some ([])) ((app 140737488355328 ([] : List UInt8) a0.Body).bind fun v5 => some v5)) : Option (List UInt8)).bind fun (j3 : List UInt8) => some ((TMessage.mk v1 j3))
def forward_on_l2 (s3 : Int × (List TRecipient)) (v8 : Str) (s11 : Int) : Option (Step Int (Unit ⊕ Int)) :=
  (bif decide (s11 < (s3.2.length : Int)) then (idx s3.2 s11).bind fun v17 => (bif (v17.Address == v8) then some (.out (.inr s11)) else some (.cont (w64 (s11 + 1)))) else some (.out (.inl (()))))
noncomputable def forward_on_l1 (a0 : TForward) (s3 : Int × (List TRecipient)) : Option (Step (Int × (List TRecipient)) (List TRecipient)) :=
  (bif decide (s3.1 < (a0.To.length : Int)) then ((idx a0.To s3.1).bind fun v8 => ((iter (forward_on_l2 s3 v8) 0).bind (Sum.elim (fun b12 => some ((-1))) (fun b13 => some b13)) : Option Int).bind fun (j10 : Int) => (bif (!(decide (0 ≤ j10))) then (app 5864062014805 s3.2 (([(TRecipient.mk v8 0)] : List TRecipient))).bind fun v21 => some v21 else some s3.2) : Option (List TRecipient)).bind fun (j7 : List TRecipient) => some (.cont ((w64 (s3.1 + 1)), j7)) else some (.out s3.2))
noncomputable def forward_on (a0 : TForward) (a1 : TMail) : Option TMail :=
  (trace_Front a1.Message (([68, 101, 108, 105, 118, 101, 114, 101, 100, 45, 84, 111] : Str)) a0.Address).bind fun v1 => (iter (forward_on_l1 a0) ((0, ([] : List TRecipient)))).bind fun b4 => some ((TMail.mk ((TEnvelope.mk a1.Envelope.From b4 a1.Envelope.Id)) v1))
def forward_Step_k2 (s15 : Int × (List Str) × (List TMail) × (List Str)) (j21 : (List Str) × (List TMail) × (List Str)) : Option (Step (Int × (List Str) × (List TMail) × (List Str)) (((List Str) × (List TMail) × (List Str)) ⊕ ((List Str) × (List TMail) × (List Str) × TFault))) :=
  some (.cont ((w64 (s15.1 + 1)), j21.1, j21.2.1, j21.2.2))
noncomputable def forward_Step_k3 (a0 : List TForward) (a1 : TMail) (s15 : Int × (List Str) × (List TMail) × (List Str)) (v24 : Int) (j26 : List Str) : Option (Step (Int × (List Str) × (List TMail) × (List Str)) (((List Str) × (List TMail) × (List Str)) ⊕ ((List Str) × (List TMail) × (List Str) × TFault))) :=
  (idx a0 v24).bind fun v27 => (forward_on v27 a1).bind fun v29 => (message_Validate v29.Message).bind fun v31 => (basic_Failed v31).bind fun v33 => (bif v33 then (basic_Fault v31.Code ((-7))).bind fun v36 => some (.out (.inr ((([] : List Str), ([] : List TMail), ([] : List Str), v36)))) else (app 1353245080339 s15.2.2.1 (([v29] : List TMail))).bind fun v38 => (forward_Step_k2 s15 (s15.2.1, v38, j26)))
noncomputable def forward_Step_l1 (a0 : List TForward) (a1 : TMail) (v13 : (List Str) × TFault) (s15 : Int × (List Str) × (List TMail) × (List Str)) : Option (Step (Int × (List Str) × (List TMail) × (List Str)) (((List Str) × (List TMail) × (List Str)) ⊕ ((List Str) × (List TMail) × (List Str) × TFault))) :=
  (bif decide (s15.1 < (a1.Envelope.To.length : Int)) then (idx a1.Envelope.To s15.1).bind fun v22 => (forward_find a0 v22.Address).bind fun v24 => (bif decide (v24 < 0) then (app 8796093022208 s15.2.2.2 (([v22.Address] : List Str))).bind fun v41 => (forward_Step_k2 s15 (s15.2.1, s15.2.2.1, v41)) else (slices_Contains_string_string v13.1 v22.Address).bind fun v43 => (bif v43 then (app 8796093022208 s15.2.1 (([v22.Address] : List Str))).bind fun v46 => (forward_Step_k2 s15 (v46, s15.2.2.1, s15.2.2.2)) else (idx a0 v24).bind fun v48 => (bif v48.Keep then (app 8796093022208 s15.2.2.2 (([v22.Address] : List Str))).bind fun v51 => (forward_Step_k3 a0 a1 s15 v24 v51) else (forward_Step_k3 a0 a1 s15 v24 s15.2.2.2)))) else some (.out (.inl ((s15.2.1, s15.2.2.1, s15.2.2.2)))))
noncomputable def forward_Step (a0 : List TForward) (a1 : TMail) : Option ((List Str) × (List TMail) × (List Str) × TFault) :=
  (forward_Validate a0).bind fun v1 => (basic_Failed v1).bind fun v3 => (bif v3 then some ((([] : List Str), ([] : List TMail), ([] : List Str), v1)) else (envelope_Check a1).bind fun v6 => (basic_Failed v6).bind fun v8 => (bif v8 then (basic_Fault v6.Code ((-6))).bind fun v11 => some ((([] : List Str), ([] : List TMail), ([] : List Str), v11)) else (header_Get a1.Message.Fields (([68, 101, 108, 105, 118, 101, 114, 101, 100, 45, 84, 111] : Str))).bind fun v13 => (iter (forward_Step_l1 a0 a1 v13) ((0, ([] : List Str), ([] : List TMail), ([] : List Str)))).bind (Sum.elim (fun b16 => (basic_None).bind fun v53 => some ((b16.2.2, b16.2.1, b16.1, v53))) (fun b17 => some ((b17.1, b17.2.1, b17.2.2.1, b17.2.2.2))))))
def forward_Tree_l1 (v11 : List TAlias) (s13 : Int × (List (Str × (List Str)))) : Option (Step (Int × (List (Str × (List Str)))) (List (Str × (List Str)))) :=
  (bif decide (s13.1 < (v11.length : Int)) then (idx v11 s13.1).bind fun v17 => some (.cont ((w64 (s13.1 + 1)), (mput s13.2 v17.Address v17.To))) else some (.out s13.2))
def forward_Tree_l2 (a1 : Str) (s19 : Int × (List Str) × (List (Str × Bool))) : Option (Step (Int × (List Str) × (List (Str × Bool))) ((List Str) × (List (Str × Bool)))) :=
  (bif decide (s19.1 < ((([a1] : List Str)).length : Int)) then ((idx (([a1] : List Str)) s19.1).bind fun v24 => (bif (!(((mget s19.2.2 v24).getD false))) then (app 8796093022208 s19.2.1 (([v24] : List Str))).bind fun v27 => some ((v27, (mput s19.2.2 v24 true))) else some ((s19.2.1, s19.2.2))) : Option ((List Str) × (List (Str × Bool)))).bind fun (j23 : (List Str) × (List (Str × Bool))) => some (.cont ((w64 (s19.1 + 1)), j23.1, j23.2)) else some (.out ((s19.2.1, s19.2.2))))
def forward_Tree_l4 (b14 : List (Str × (List Str))) (v33 : Str) (s46 : Int × (List Str) × (List (Str × Bool))) : Option (Step (Int × (List Str) × (List (Str × Bool))) ((List Str) × (List (Str × Bool)))) :=
  (bif decide (s46.1 < ((((mget b14 v33).getD (([] : List Str)))).length : Int)) then ((idx (((mget b14 v33).getD (([] : List Str)))) s46.1).bind fun v51 => (bif (!(((mget s46.2.2 v51).getD false))) then (app 8796093022208 s46.2.1 (([v51] : List Str))).bind fun v54 => some ((v54, (mput s46.2.2 v51 true))) else some ((s46.2.1, s46.2.2))) : Option ((List Str) × (List (Str × Bool)))).bind fun (j50 : (List Str) × (List (Str × Bool))) => some (.cont ((w64 (s46.1 + 1)), j50.1, j50.2)) else some (.out ((s46.2.1, s46.2.2))))
def forward_Tree_l5 (b14 : List (Str × (List Str))) (v33 : Str) (s56 : Int × (List Str) × (List (Str × Bool))) : Option (Step (Int × (List Str) × (List (Str × Bool))) ((List Str) × (List (Str × Bool)))) :=
  (bif decide (s56.1 < ((((mget b14 v33).getD (([] : List Str)))).length : Int)) then ((idx (((mget b14 v33).getD (([] : List Str)))) s56.1).bind fun v61 => (bif (!(((mget s56.2.2 v61).getD false))) then (app 8796093022208 s56.2.1 (([v61] : List Str))).bind fun v64 => some ((v64, (mput s56.2.2 v61 true))) else some ((s56.2.1, s56.2.2))) : Option ((List Str) × (List (Str × Bool)))).bind fun (j60 : (List Str) × (List (Str × Bool))) => some (.cont ((w64 (s56.1 + 1)), j60.1, j60.2)) else some (.out ((s56.2.1, s56.2.2))))
noncomputable def forward_Tree_l3 (a0 : List TForward) (b14 : List (Str × (List Str))) (s29 : (List Str) × (List (Str × Bool)) × (List Str)) : Option (Step ((List Str) × (List (Str × Bool)) × (List Str)) (List Str)) :=
  (bif decide (0 < (s29.1.length : Int)) then (idx s29.1 0).bind fun v33 => (cut s29.1 1 ((s29.1.length : Int))).bind fun v35 => (forward_find a0 v33).bind fun v37 => ((bif decide (v37 < 0) then some true else (idx a0 v37).bind fun v41 => some v41.Keep) : Option Bool).bind fun (j39 : Bool) => (bif j39 then (app 8796093022208 s29.2.2 (([v33] : List Str))).bind fun v44 => (iter (forward_Tree_l4 b14 v33) ((0, v35, s29.2.1))).bind fun b47 => some (.cont (b47.1, b47.2, v44)) else (iter (forward_Tree_l5 b14 v33) ((0, v35, s29.2.1))).bind fun b57 => some (.cont (b57.1, b57.2, s29.2.2))) else some (.out s29.2.2))
noncomputable def forward_Tree (a0 : List TForward) (a1 : Str) : Option ((List Str) × TFault) :=
  (forward_Validate a0).bind fun v1 => (basic_Failed v1).bind fun v3 => (bif v3 then some (([], v1)) else (envelope_Address a1).bind fun v6 => (bif (!v6) then (basic_Fault 10 ((-2))).bind fun v9 => some (([], v9)) else (forward_aliases a0).bind fun v11 => (iter (forward_Tree_l1 v11) ((0, ([] : List (Str × (List Str)))))).bind fun b14 => (iter (forward_Tree_l2 a1) ((0, ([] : List Str), ([] : List (Str × Bool))))).bind fun b20 => (iter (forward_Tree_l3 a0 b14) ((b20.1, b20.2, ([] : List Str)))).bind fun b30 => (basic_None).bind fun v66 => some ((b30, v66))))
def L_plain_l1 (a0 : List Str) (s1 : Int × (List TRecipient)) : Option (Step (Int × (List TRecipient)) (List TRecipient)) :=
  (bif decide (s1.1 < (a0.length : Int)) then (idx a0 s1.1).bind fun v5 => (app 5864062014805 s1.2 (([(TRecipient.mk v5 1)] : List TRecipient))).bind fun v7 => some (.cont ((w64 (s1.1 + 1)), v7)) else some (.out s1.2))
noncomputable def L_plain (a0 : List Str) : Option TMail :=
  (iter (L_plain_l1 a0) ((0, ([] : List TRecipient)))).bind fun b2 => some ((TMail.mk ((TEnvelope.mk (([115, 64, 120] : Str)) b2 (([55] : Str)))) ((TMessage.mk ([]) ([])))))
noncomputable def L_forwards  : Option Bool :=
  (forward_Tree (([(TForward.mk (([97, 64, 120] : Str)) (([([98, 64, 120] : Str)] : List Str)) true), (TForward.mk (([98, 64, 120] : Str)) (([([97, 64, 120] : Str), ([99, 64, 120] : Str)] : List Str)) false)] : List TForward)) (([97, 64, 120] : Str))).bind fun v1 => (L_plain (([([97, 64, 120] : Str), ([100, 64, 120] : Str)] : List Str))).bind fun v3 => (forward_Step (([(TForward.mk (([97, 64, 120] : Str)) (([([98, 64, 120] : Str)] : List Str)) true), (TForward.mk (([98, 64, 120] : Str)) (([([97, 64, 120] : Str), ([99, 64, 120] : Str)] : List Str)) false)] : List TForward)) v3).bind fun v5 => ((bif (v1.2.Code != 0) then some true else (bif (v5.2.2.2.Code != 0) then some true else (bif ((v5.2.1.length : Int) != 1) then some true else (bif ((v5.2.2.1.length : Int) != 0) then some true else (idx v5.2.1 0).bind fun v12 => (bif ((v12.Message.Fields.length : Int) != 1) then some true else (idx v5.2.1 0).bind fun v15 => some (((v15.Envelope.To.length : Int) != 1))))))) : Option Bool).bind fun (j7 : Bool) => (bif j7 then some false else ((R_Strings v1.1 (([([97, 64, 120] : Str), ([99, 64, 120] : Str)] : List Str))).bind fun v19 => (bif v19 then (R_Strings v5.1 (([([97, 64, 120] : Str), ([100, 64, 120] : Str)] : List Str))).bind fun v22 => (bif v22 then (idx v5.2.1 0).bind fun v25 => (idx v25.Message.Fields 0).bind fun v27 => (bif (allEq [(v27.Name == ([68, 101, 108, 105, 118, 101, 114, 101, 100, 45, 84, 111] : Str)), (v27.Value == ([97, 64, 120] : Str))]) then (idx v5.2.1 0).bind fun v30 => (idx v30.Envelope.To 0).bind fun v32 => some ((v32.Address == ([98, 64, 120] : Str))) else some false) else some false) else some false) : Option Bool).bind fun (j18 : Bool) => some j18)
def R_SameMessage_l1 (a0 : TMessage) (a1 : TMessage) (s4 : Int) : Option (Step Int (Unit ⊕ Bool)) :=
  (bif decide (s4 < (a0.Fields.length : Int)) then (idx a0.Fields s4).bind fun v10 => (idx a1.Fields s4).bind fun v12 => (bif (!(allEq [(v10.Name == v12.Name), (v10.Value == v12.Value)])) then some (.out (.inr false)) else some (.cont (w64 (s4 + 1)))) else some (.out (.inl (()))))
noncomputable def R_SameMessage (a0 : TMessage) (a1 : TMessage) : Option Bool :=
  ((bif ((a0.Fields.length : Int) != (a1.Fields.length : Int)) then some true else some ((a0.Body != a1.Body))) : Option Bool).bind fun (j1 : Bool) => (bif j1 then some false else (iter (R_SameMessage_l1 a0 a1) 0).bind (Sum.elim (fun b5 => some true) (fun b6 => some b6)))
noncomputable def L_ForwardChangesNoBody_l1 (a1 : TMail) (v1 : (List Str) × (List TMail) × (List Str) × TFault) (s12 : Int) : Option (Step Int (Unit ⊕ Bool)) :=
  (bif decide (s12 < (v1.2.1.length : Int)) then (idx v1.2.1 s12).bind fun v18 => ((bif ((v18.Message.Fields.length : Int) != (w64 ((a1.Message.Fields.length : Int) + 1))) then some true else (idx v1.2.1 s12).bind fun v22 => (bif (v22.Envelope.From != a1.Envelope.From) then some true else (idx v1.2.1 s12).bind fun v25 => (envelope_Check v25).bind fun v27 => some ((!(allEq [(v27.Code == 0), (v27.Index == 0)]))))) : Option Bool).bind fun (j20 : Bool) => (bif j20 then some (.out (.inr false)) else (cut v18.Message.Fields 1 ((v18.Message.Fields.length : Int))).bind fun v30 => (R_SameMessage ((TMessage.mk v30 v18.Message.Body)) a1.Message).bind fun v32 => (bif (!v32) then some (.out (.inr false)) else some (.cont (w64 (s12 + 1))))) else some (.out (.inl (()))))
noncomputable def L_ForwardChangesNoBody (a0 : List TForward) (a1 : TMail) : Option Bool :=
  (forward_Step a0 a1).bind fun v1 => ((L_forwards).bind fun v4 => (bif (!v4) then some true else some ((v1.2.2.2.Code != 0))) : Option Bool).bind fun (j3 : Bool) => (bif j3 then ((L_forwards).bind fun v9 => (bif v9 then some (((v1.2.1.length : Int) == 0)) else some false) : Option Bool).bind fun (j8 : Bool) => some j8 else (iter (L_ForwardChangesNoBody_l1 a1 v1) 0).bind (Sum.elim (fun b13 => some (decide ((v1.2.1.length : Int) ≤ (a1.Envelope.To.length : Int)))) (fun b14 => some b14)))
def L_ForwardStepsEnd_l1 (a0 : List TForward) (s14 : Int) : Option (Step Int (Unit ⊕ Bool)) :=
  (bif decide (s14 < (a0.length : Int)) then (idx a0 s14).bind fun v20 => (bif decide (3 < (v20.To.length : Int)) then some (.out (.inr true)) else some (.cont (w64 (s14 + 1)))) else some (.out (.inl (()))))
noncomputable def L_ForwardStepsEnd_l3 (v1 : (List Str) × TFault) (v36 : (List Str) × (List TMail) × (List Str) × TFault) (s39 : Int × (List Str)) : Option (Step (Int × (List Str)) ((List Str) ⊕ Bool)) :=
  (bif decide (s39.1 < (v36.1.length : Int)) then (idx v36.1 s39.1).bind fun v45 => (R_Has v1.1 v45).bind fun v47 => (bif (!v47) then some (.out (.inr false)) else (idx v36.1 s39.1).bind fun v50 => (app 8796093022208 s39.2 (([v50] : List Str))).bind fun v52 => some (.cont ((w64 (s39.1 + 1)), v52))) else some (.out (.inl s39.2)))
noncomputable def L_ForwardStepsEnd_l2 (a0 : List TForward) (v1 : (List Str) × TFault) (s25 : Int × (List Str) × (List TMail)) : Option (Step (Int × (List Str) × (List TMail)) ((List Str) ⊕ Bool)) :=
  (bif decide (s25.1 < (s25.2.2.length : Int)) then (bif decide (4000 < s25.1) then some (.out (.inr false)) else (idx s25.2.2 s25.1).bind fun v32 => (idx s25.2.2 s25.1).bind fun v34 => (forward_Step a0 v34).bind fun v36 => (bif (v36.2.2.2.Code != 0) then some (.out (.inr false)) else (iter (L_ForwardStepsEnd_l3 v1 v36) ((0, s25.2.1))).bind (Sum.elim (fun b40 => (app 1353245080339 s25.2.2 v36.2.1).bind fun v54 => some (.cont ((w64 (s25.1 + 1)), b40, v54))) (fun b41 => some (.out (.inr b41)))))) else some (.out (.inl s25.2.1)))
noncomputable def L_ForwardStepsEnd_l4 (v1 : (List Str) × TFault) (b26 : List Str) (s56 : Int) : Option (Step Int (Unit ⊕ Bool)) :=
  (bif decide (s56 < (v1.1.length : Int)) then (idx v1.1 s56).bind fun v62 => (R_Has b26 v62).bind fun v64 => (bif (!v64) then some (.out (.inr false)) else some (.cont (w64 (s56 + 1)))) else some (.out (.inl (()))))
noncomputable def L_ForwardStepsEnd (a0 : List TForward) (a1 : Str) : Option Bool :=
  (forward_Tree a0 a1).bind fun v1 => ((L_forwards).bind fun v4 => (bif (!v4) then some true else (bif (v1.2.Code != 0) then some true else some (decide (5 < (a0.length : Int))))) : Option Bool).bind fun (j3 : Bool) => (bif j3 then ((L_forwards).bind fun v10 => (bif v10 then (bif (v1.2.Code == 0) then some true else some (((v1.1.length : Int) == 0))) else some false) : Option Bool).bind fun (j9 : Bool) => some j9 else (iter (L_ForwardStepsEnd_l1 a0) 0).bind (Sum.elim (fun b15 => (L_plain (([a1] : List Str))).bind fun v23 => (iter (L_ForwardStepsEnd_l2 a0 v1) ((0, ([] : List Str), ([v23] : List TMail)))).bind (Sum.elim (fun b26 => (iter (L_ForwardStepsEnd_l4 v1 b26) 0).bind (Sum.elim (fun b57 => some true) (fun b58 => some b58))) (fun b27 => some b27))) (fun b16 => some b16)))
end Go.Proofs.YtfhfjckjmacekaaGreat

/- Functions of the program as Lean functions: what they compute. Written by program. -/
namespace Go.Proofs.YtfhfjckjmacekaaGreat
open Go.RowKit
set_option maxRecDepth 100000
set_option maxHeartbeats 40000000
set_option linter.unusedVariables false
def R_asAliases_l1 (a0 : List TForward) (s1 : Int × (List TAlias)) : Option (Step (Int × (List TAlias)) (List TAlias)) :=
  (bif decide (s1.1 < (a0.length : Int)) then (idx a0 s1.1).bind fun v5 => (idx a0 s1.1).bind fun v7 => (app 3518437208883 s1.2 (([(TAlias.mk v5.Address v7.To)] : List TAlias))).bind fun v9 => some (.cont ((w64 (s1.1 + 1)), v9)) else some (.out s1.2))
noncomputable def R_asAliases (a0 : List TForward) : Option (List TAlias) :=
  (iter (R_asAliases_l1 a0) ((0, ([] : List TAlias)))).bind fun b2 => some b2
noncomputable def R_ForwardsFault (a0 : List TForward) : Option TFault :=
  (R_asAliases a0).bind fun v1 => (R_AliasesFault v1).bind fun v3 => some v3
def R_RuleFor_l1 (a0 : List TForward) (a1 : Str) (s1 : Int) : Option (Step Int (Unit ⊕ Int)) :=
  (bif decide (s1 < (a0.length : Int)) then (idx a0 s1).bind fun v7 => (bif (v7.Address == a1) then some (.out (.inr s1)) else some (.cont (w64 (s1 + 1)))) else some (.out (.inl (()))))
noncomputable def R_RuleFor (a0 : List TForward) (a1 : Str) : Option Int :=
  (iter (R_RuleFor_l1 a0 a1) 0).bind (Sum.elim (fun b2 => some ((-1))) (fun b3 => some b3))
noncomputable def R_KeptAt_l1 (a0 : List TForward) (v3 : List Str) (s5 : Int × (List Str)) : Option (Step (Int × (List Str)) (List Str)) :=
  (bif decide (s5.1 < (v3.length : Int)) then ((idx v3 s5.1).bind fun v10 => (R_RuleFor a0 v10).bind fun v12 => ((bif decide (v12 < 0) then some true else (idx a0 v12).bind fun v16 => some v16.Keep) : Option Bool).bind fun (j14 : Bool) => (bif j14 then (idx v3 s5.1).bind fun v19 => (app 8796093022208 s5.2 (([v19] : List Str))).bind fun v21 => some v21 else some s5.2) : Option (List Str)).bind fun (j9 : List Str) => some (.cont ((w64 (s5.1 + 1)), j9)) else some (.out s5.2))
noncomputable def R_KeptAt (a0 : List TForward) (a1 : Str) : Option (List Str) :=
  (R_asAliases a0).bind fun v1 => (R_Reached v1 (([a1] : List Str))).bind fun v3 => (iter (R_KeptAt_l1 a0 v3) ((0, ([] : List Str)))).bind fun b6 => some b6
noncomputable def L_ForwardTreeMatchesSpec (a0 : List TForward) (a1 : Str) : Option Bool :=
  (R_ForwardsFault a0).bind fun v1 => (forward_Tree a0 a1).bind fun v3 => ((L_forwards).bind fun v6 => (bif (!v6) then some true else (forward_Validate a0).bind fun v9 => some ((!(allEq [(v9.Code == v1.Code), (v9.Index == v1.Index)])))) : Option Bool).bind fun (j5 : Bool) => (bif j5 then some false else (((bif (v1.Code == 0) then (R_AddressOk a1).bind fun v15 => some ((!v15)) else some false) : Option Bool).bind fun (j13 : Bool) => (bif j13 then (R_At 10 ((-2))).bind fun v18 => some ((v18.Code, v18.Index)) else some ((v1.Code, v1.Index))) : Option (Int × Int)).bind fun (j12 : Int × Int) => ((bif (j12.1 == 0) then (R_KeptAt a0 a1).bind fun v22 => some v22 else some ([])) : Option (List Str)).bind fun (j20 : List Str) => ((bif (allEq [(v3.2.Code == j12.1), (v3.2.Index == j12.2)]) then (R_Strings v3.1 j20).bind fun v26 => some v26 else some false) : Option Bool).bind fun (j24 : Bool) => some j24)
def R_Small_l1 (a0 : Str) (s1 : Int × (List UInt8)) : Option (Step (Int × (List UInt8)) (List UInt8)) :=
  (bif decide (s1.1 < (a0.length : Int)) then (idx a0 s1.1).bind fun v5 => ((R_In ((v5.toNat : Int)) 65 90).bind fun v8 => (bif v8 then some ((v5 + (32 : UInt8))) else some v5) : Option UInt8).bind fun (j7 : UInt8) => (app 140737488355328 s1.2 (([j7] : List UInt8))).bind fun v11 => some (.cont ((w64 (s1.1 + 1)), v11)) else some (.out s1.2))
noncomputable def R_Small (a0 : Str) : Option Str :=
  (iter (R_Small_l1 a0) ((0, ([] : List UInt8)))).bind fun b2 => some b2
noncomputable def R_same (a0 : Str) (a1 : Str) : Option Bool :=
  (R_Small a0).bind fun v1 => (R_Small a1).bind fun v3 => some ((v1 == v3))
noncomputable def R_Values_l1 (a0 : TMessage) (a1 : Str) (s1 : Int × (List Str)) : Option (Step (Int × (List Str)) (List Str)) :=
  (bif decide (s1.1 < (a0.Fields.length : Int)) then ((idx a0.Fields s1.1).bind fun v6 => (R_same v6.Name a1).bind fun v8 => (bif v8 then (idx a0.Fields s1.1).bind fun v11 => (app 8796093022208 s1.2 (([v11.Value] : List Str))).bind fun v13 => some v13 else some s1.2) : Option (List Str)).bind fun (j5 : List Str) => some (.cont ((w64 (s1.1 + 1)), j5)) else some (.out s1.2))
noncomputable def R_Values (a0 : TMessage) (a1 : Str) : Option (List Str) :=
  (iter (R_Values_l1 a0 a1) ((0, ([] : List Str)))).bind fun b2 => some b2
noncomputable def R_recipients_l1 (a0 : List Str) (s1 : Int × (List TRecipient)) : Option (Step (Int × (List TRecipient)) (List TRecipient)) :=
  (bif decide (s1.1 < (a0.length : Int)) then ((idx a0 s1.1).bind fun v6 => (R_Known s1.2 v6).bind fun v8 => (bif decide (v8 < 0) then (idx a0 s1.1).bind fun v11 => (app 5864062014805 s1.2 (([(TRecipient.mk v11 0)] : List TRecipient))).bind fun v13 => some v13 else some s1.2) : Option (List TRecipient)).bind fun (j5 : List TRecipient) => some (.cont ((w64 (s1.1 + 1)), j5)) else some (.out s1.2))
noncomputable def R_recipients (a0 : List Str) : Option (List TRecipient) :=
  (iter (R_recipients_l1 a0) ((0, ([] : List TRecipient)))).bind fun b2 => some b2
def R_Fronted (a0 : TMessage) (a1 : Str) (a2 : Str) : Option TMessage :=
  (app 4398046511104 (([] : List TField)) (([(TField.mk a1 a2)] : List TField))).bind fun v1 => (app 4398046511104 v1 a0.Fields).bind fun v3 => some ((TMessage.mk v3 a0.Body))
def R_Onward_k2 (s11 : Int × (List Str) × (List TMail) × (List Str)) (j17 : (List Str) × (List TMail) × (List Str)) : Option (Step (Int × (List Str) × (List TMail) × (List Str)) (((List Str) × (List TMail) × (List Str)) ⊕ ((List Str) × (List TMail) × (List Str) × TFault))) :=
  some (.cont ((w64 (s11.1 + 1)), j17.1, j17.2.1, j17.2.2))
noncomputable def R_Onward_l1 (a0 : List TForward) (a1 : TMail) (s11 : Int × (List Str) × (List TMail) × (List Str)) : Option (Step (Int × (List Str) × (List TMail) × (List Str)) (((List Str) × (List TMail) × (List Str)) ⊕ ((List Str) × (List TMail) × (List Str) × TFault))) :=
  (bif decide (s11.1 < (a1.Envelope.To.length : Int)) then (idx a1.Envelope.To s11.1).bind fun v18 => (R_RuleFor a0 v18.Address).bind fun v20 => (bif decide (v20 < 0) then (app 8796093022208 s11.2.2.2 (([v18.Address] : List Str))).bind fun v23 => (R_Onward_k2 s11 (s11.2.1, s11.2.2.1, v23)) else (R_Values a1.Message (([100, 101, 108, 105, 118, 101, 114, 101, 100, 45, 116, 111] : Str))).bind fun v25 => (R_Has v25 v18.Address).bind fun v27 => (bif v27 then (app 8796093022208 s11.2.1 (([v18.Address] : List Str))).bind fun v30 => (R_Onward_k2 s11 (v30, s11.2.2.1, s11.2.2.2)) else ((idx a0 v20).bind fun v33 => (bif v33.Keep then (app 8796093022208 s11.2.2.2 (([v18.Address] : List Str))).bind fun v36 => some v36 else some s11.2.2.2) : Option (List Str)).bind fun (j32 : List Str) => (idx a0 v20).bind fun v38 => (R_recipients v38.To).bind fun v40 => (R_Fronted a1.Message (([68, 101, 108, 105, 118, 101, 114, 101, 100, 45, 84, 111] : Str)) v18.Address).bind fun v42 => (R_MessageFault v42).bind fun v44 => (bif (v44.Code != 0) then (R_At v44.Code ((-7))).bind fun v47 => some (.out (.inr (([], [], [], v47)))) else (app 1353245080339 s11.2.2.1 (([(TMail.mk ((TEnvelope.mk a1.Envelope.From v40 a1.Envelope.Id)) v42)] : List TMail))).bind fun v49 => (R_Onward_k2 s11 (s11.2.1, v49, j32))))) else some (.out (.inl ((s11.2.1, s11.2.2.1, s11.2.2.2)))))
noncomputable def R_Onward (a0 : List TForward) (a1 : TMail) : Option ((List Str) × (List TMail) × (List Str) × TFault) :=
  (R_ForwardsFault a0).bind fun v1 => (bif (v1.Code != 0) then some (([], [], [], v1)) else (R_MailFault a1).bind fun v4 => (bif (v4.Code != 0) then (R_MailFault a1).bind fun v7 => (R_At v7.Code ((-6))).bind fun v9 => some (([], [], [], v9)) else (iter (R_Onward_l1 a0 a1) ((0, ([] : List Str), ([] : List TMail), ([] : List Str)))).bind (Sum.elim (fun b12 => some ((b12.2.2, b12.2.1, b12.1, v1))) (fun b13 => some ((b13.1, b13.2.1, b13.2.2.1, b13.2.2.2))))))
def R_SameMail_l1 (a0 : TMail) (a1 : TMail) (s5 : Int) : Option (Step Int (Unit ⊕ Bool)) :=
  (bif decide (s5 < (a0.Envelope.To.length : Int)) then (idx a0.Envelope.To s5).bind fun v11 => (idx a1.Envelope.To s5).bind fun v13 => (bif (!(allEq [(v11.Address == v13.Address), (v11.Notify == v13.Notify)])) then some (.out (.inr false)) else some (.cont (w64 (s5 + 1)))) else some (.out (.inl (()))))
noncomputable def R_SameMail (a0 : TMail) (a1 : TMail) : Option Bool :=
  ((bif (a0.Envelope.From != a1.Envelope.From) then some true else (bif (a0.Envelope.Id != a1.Envelope.Id) then some true else some (((a0.Envelope.To.length : Int) != (a1.Envelope.To.length : Int))))) : Option Bool).bind fun (j1 : Bool) => (bif j1 then some false else (iter (R_SameMail_l1 a0 a1) 0).bind (Sum.elim (fun b6 => (R_SameMessage a0.Message a1.Message).bind fun v16 => some v16) (fun b7 => some b7)))
noncomputable def R_SameMails_l1 (a0 : List TMail) (a1 : List TMail) (s2 : Int) : Option (Step Int (Unit ⊕ Bool)) :=
  (bif decide (s2 < (a0.length : Int)) then (idx a0 s2).bind fun v8 => (idx a1 s2).bind fun v10 => (R_SameMail v8 v10).bind fun v12 => (bif (!v12) then some (.out (.inr false)) else some (.cont (w64 (s2 + 1)))) else some (.out (.inl (()))))
noncomputable def R_SameMails (a0 : List TMail) (a1 : List TMail) : Option Bool :=
  (bif ((a0.length : Int) != (a1.length : Int)) then some false else (iter (R_SameMails_l1 a0 a1) 0).bind (Sum.elim (fun b3 => some true) (fun b4 => some b4)))
noncomputable def L_ForwardStepMatchesSpec (a0 : List TForward) (a1 : TMail) : Option Bool :=
  (forward_Step a0 a1).bind fun v1 => (R_Onward a0 a1).bind fun v3 => ((L_forwards).bind fun v6 => (bif v6 then (bif (allEq [(v1.2.2.2.Code == v3.2.2.2.Code), (v1.2.2.2.Index == v3.2.2.2.Index)]) then (R_Strings v1.1 v3.1).bind fun v10 => (bif v10 then (R_SameMails v1.2.1 v3.2.1).bind fun v13 => (bif v13 then (R_Strings v1.2.2.1 v3.2.2.1).bind fun v16 => some v16 else some false) else some false) else some false) else some false) : Option Bool).bind fun (j5 : Bool) => some j5
end Go.Proofs.YtfhfjckjmacekaaGreat

/- Plain lemmas on the operations of typed functions: no program is named. -/
namespace Go.Proofs.YtfhfjckjmacekaaGreat
open Go.RowKit

theorem w64_nn (a b : Nat) (h : a + b ≤ 9223372036854775807) : w64 ((a : Int) + (b : Int)) = ((a + b : Nat) : Int) := by
  rw [w64_id (by omega) (by omega)]; simp
theorem w64_nl (a k : Nat) (h : a + OfNat.ofNat k ≤ 9223372036854775807) : w64 ((a : Int) + (no_index (OfNat.ofNat k : Int))) = ((a + OfNat.ofNat k : Nat) : Int) := by
  have e : (OfNat.ofNat k : Int) = ((OfNat.ofNat k : Nat) : Int) := rfl
  rw [e]; exact w64_nn a _ h
theorem w64_ns (a b : Nat) (h : b ≤ a) (ha : a ≤ 9223372036854775807) : w64 ((a : Int) - (b : Int)) = ((a - b : Nat) : Int) := by
  rw [w64_id (by omega) (by omega)]; omega
theorem w64_sl (a k : Nat) (h : OfNat.ofNat k ≤ a) (ha : a ≤ 9223372036854775807) : w64 ((a : Int) - (no_index (OfNat.ofNat k : Int))) = ((a - OfNat.ofNat k : Nat) : Int) := by
  have e : (OfNat.ofNat k : Int) = ((OfNat.ofNat k : Nat) : Int) := rfl
  rw [e]; exact w64_ns a _ h ha
theorem w64_n (a : Nat) (h : a ≤ 9223372036854775807) : w64 (a : Int) = (a : Int) := w64_id (by omega) (by omega)

theorem u8_eq (c : UInt8) (k : Nat) (hk : OfNat.ofNat k < 256) : ((c.toNat : Int) == no_index (OfNat.ofNat k : Int)) = (c == OfNat.ofNat k) := by
  have e : (OfNat.ofNat k : Int) = ((OfNat.ofNat k : Nat) : Int) := rfl
  have h2 : (OfNat.ofNat k : UInt8).toNat = (OfNat.ofNat k : Nat) := by
    show (UInt8.ofNat k).toNat = k
    rw [UInt8.toNat_ofNat']; exact Nat.mod_eq_of_lt hk
  rw [Bool.eq_iff_iff, beq_iff_eq, beq_iff_eq, ← UInt8.toNat_inj, h2, e]
  omega
theorem u8_ne (c : UInt8) (k : Nat) (hk : OfNat.ofNat k < 256) : ((c.toNat : Int) != no_index (OfNat.ofNat k : Int)) = (c != OfNat.ofNat k) := by
  unfold bne; rw [u8_eq c k hk]
section
variable {α : Type}
theorem idx_nat (l : List α) (i : Nat) : idx l (i : Int) = l[i]? := by unfold idx; rw [if_pos (by omega)]; simp
theorem idx_lit (l : List α) (k : Nat) : idx l (no_index (OfNat.ofNat k : Int)) = l[(OfNat.ofNat k : Nat)]? := idx_nat l k
theorem idx_lt {l : List α} {i : Nat} (h : i < l.length) : idx l (i : Int) = some l[i] := by rw [idx_nat]; exact List.getElem?_eq_getElem h
theorem idx_app (p : List α) (x : α) (r : List α) : idx (p ++ x :: r) (p.length : Int) = some x := by rw [idx_nat]; simp
theorem cut_nn {l : List α} {a b : Nat} (h1 : a ≤ b) (h2 : b ≤ l.length) : cut l (a : Int) (b : Int) = some ((l.drop a).take (b - a)) := by
  unfold cut; rw [if_pos (by omega)]; simp
theorem cut_nl {l : List α} {a : Nat} (h1 : a ≤ l.length) : cut l (a : Int) (l.length : Int) = some (l.drop a) := by
  rw [cut_nn h1 (Nat.le_refl _)]; rw [List.take_of_length_le (by simp)]
theorem cut_0n {l : List α} {b : Nat} (h2 : b ≤ l.length) : cut l 0 (b : Int) = some (l.take b) := by
  have := cut_nn (l := l) (a := 0) (b := b) (by omega) h2
  simpa using this
theorem cut_ll {l : List α} {k : Nat} (h1 : OfNat.ofNat k ≤ l.length) : cut l (no_index (OfNat.ofNat k : Int)) (l.length : Int) = some (l.drop (OfNat.ofNat k)) := cut_nl (a := k) h1
theorem cut_0l {l : List α} {k : Nat} (h1 : OfNat.ofNat k ≤ l.length) : cut l 0 (no_index (OfNat.ofNat k : Int)) = some (l.take (OfNat.ofNat k)) := cut_0n (b := k) h1
theorem app_ok {lim : Nat} {l xs : List α} (h : l.length + xs.length ≤ lim) : app lim l xs = some (l ++ xs) := by unfold app; rw [if_pos h]
theorem cat_ok {a b : Str} (h : a.length + b.length ≤ 9223372036854775807) : cat a b = some (a ++ b) := by unfold cat; rw [if_pos h]
end

section
variable {A R : Type} {body : A → Option (Step A R)}
/-- a loop that ends, by an invariant and a measure -/
theorem iter_rec (Inv : A → Prop) (m : A → Nat) (Post : A → R → Prop)
    (h : ∀ s, Inv s → (∃ r, body s = some (.out r) ∧ Post s r) ∨ ∃ s', body s = some (.cont s') ∧ Inv s' ∧ m s' < m s ∧ ∀ r, Post s' r → Post s r) :
    ∀ s, Inv s → ∃ r, iter body s = some r ∧ Post s r := by
  intro s
  induction hn : m s using Nat.strongRecOn generalizing s with
  | _ n ih =>
    intro hi
    rcases h s hi with ⟨r, h1, h2⟩ | ⟨s', h1, h2, h3, h4⟩
    · exact ⟨r, iter_out h1, h2⟩
    · obtain ⟨r, h5, h6⟩ := ih (m s') (by omega) s' rfl h2
      exact ⟨r, (iter_cont h1).trans h5, h4 r h6⟩
/-- a loop that goes through a list, with an accumulator -/
theorem iter_list {α S : Type} (l : List α) (enc : Nat → S → A) (spec : Nat → List α → S → R)
    (h0 : ∀ s, body (enc l.length s) = some (.out (spec l.length [] s)))
    (h1 : ∀ p x r s, l = p ++ x :: r → (body (enc p.length s) = some (.out (spec p.length (x :: r) s))) ∨ ∃ s', body (enc p.length s) = some (.cont (enc (p.length + 1) s')) ∧ spec p.length (x :: r) s = spec (p.length + 1) r s') :
    ∀ {s0 : A} (s : S) (_ : s0 = enc 0 s), iter body s0 = some (spec 0 l s) := by
  have key : ∀ r p s, l = p ++ r → iter body (enc p.length s) = some (spec p.length r s) := by
    intro r
    induction r with
    | nil =>
      intro p s h
      have : p = l := by simp [h]
      subst this
      exact iter_out (h0 s)
    | cons x r ih =>
      intro p s h
      rcases h1 p x r s h with hb | ⟨s', hb, hs⟩
      · exact iter_out hb
      · rw [iter_cont hb, hs]
        have := ih (p ++ [x]) s' (by simp [h])
        simpa using this
  rintro _ s rfl
  exact key l [] s rfl
/-- the same, with an invariant -/
theorem iter_listI {α S : Type} (l : List α) (enc : Nat → S → A) (spec : Nat → List α → S → R) (Inv : Nat → List α → S → Prop)
    (h0 : ∀ s, Inv l.length [] s → body (enc l.length s) = some (.out (spec l.length [] s)))
    (h1 : ∀ p x r s, l = p ++ x :: r → Inv p.length (x :: r) s → (body (enc p.length s) = some (.out (spec p.length (x :: r) s))) ∨ ∃ s', body (enc p.length s) = some (.cont (enc (p.length + 1) s')) ∧ spec p.length (x :: r) s = spec (p.length + 1) r s' ∧ Inv (p.length + 1) r s') :
    ∀ {s0 : A} (s : S) (_ : s0 = enc 0 s) (_ : Inv 0 l s), iter body s0 = some (spec 0 l s) := by
  have key : ∀ r p s, l = p ++ r → Inv p.length r s → iter body (enc p.length s) = some (spec p.length r s) := by
    intro r
    induction r with
    | nil =>
      intro p s h hi
      have : p = l := by simp [h]
      subst this
      exact iter_out (h0 s hi)
    | cons x r ih =>
      intro p s h hi
      rcases h1 p x r s h hi with hb | ⟨s', hb, hs, hi'⟩
      · exact iter_out hb
      · rw [iter_cont hb, hs]
        have := ih (p ++ [x]) s' (by simp [h]) (by simpa using hi')
        simpa using this
  rintro _ s rfl hi
  exact key l [] s rfl hi
theorem lt_mid {α : Type} (p : List α) (x : α) (r : List α) : decide ((p.length : Int) < ((p ++ x :: r).length : Int)) = true := by simp; omega
theorem getElem_mid {α : Type} (p : List α) (x : α) (r : List α) : (p ++ x :: r)[p.length]? = some x := by simp
end
end Go.Proofs.YtfhfjckjmacekaaGreat

/- Plain lemmas on loops of typed functions: first hits, folds. No program is named. -/
namespace Go.Proofs.YtfhfjckjmacekaaGreat
open Go.RowKit
section
variable {α R O A S : Type}
/-- the first hit, with its number -/
def firstI (q : Nat → α → Option R) : Nat → List α → Option R
  | _, [] => none
  | i, x :: r => match q i x with | some y => some y | none => firstI q (i + 1) r
theorem iter_first (l : List α) (q : Nat → α → Option R) (oN : O) (oS : R → O) {body : Int → Option (Step Int O)} (hl : body (l.length : Int) = some (.out oN))
    (hs : ∀ (i : Nat) x, l[i]? = some x → body (i : Int) = some ((q i x).elim (.cont ((i + 1 : Nat) : Int)) fun r => .out (oS r))) :
    iter body 0 = some ((firstI q 0 l).elim oN oS) := by
  have key : ∀ r p, l = p ++ r → iter body (p.length : Int) = some ((firstI q p.length r).elim oN oS) := by
    intro r
    induction r with
    | nil => intro p h; have : p = l := by simp [h]
             subst this; exact iter_out hl
    | cons x r ih =>
      intro p h
      have hx := hs p.length x (by simp [h])
      unfold firstI
      cases hq : q p.length x with
      | some y => rw [hq] at hx; exact iter_out hx
      | none =>
        rw [hq] at hx
        rw [iter_cont hx]
        have := ih (p ++ [x]) (by simp [h])
        simpa using this
  exact key l [] rfl
/-- a loop with a counter and a state that goes on to its end -/
theorem iter_foldI (l : List α) (enc : Int → S → A) (f : Nat → S → α → S) (out : S → O) (Inv : Nat → S → Prop) {body : A → Option (Step A O)}
    (hl : ∀ s, Inv l.length s → body (enc l.length s) = some (.out (out s)))
    (hs : ∀ (i : Nat) x s, l[i]? = some x → Inv i s → body (enc i s) = some (.cont (enc ((i + 1 : Nat) : Int) (f i s x))) ∧ Inv (i + 1) (f i s x)) (s : S) (h0 : Inv 0 s) :
    ∃ t, iter body (enc 0 s) = some (out t) ∧ Inv l.length t ∧ t = (l.zipIdx.foldl (fun s p => f p.2 s p.1) s) := by
  have key : ∀ r p s, l = p ++ r → Inv p.length s → ∃ t, iter body (enc (p.length : Int) s) = some (out t) ∧ Inv l.length t ∧ t = ((r.zipIdx p.length).foldl (fun s p => f p.2 s p.1) s) := by
    intro r
    induction r with
    | nil => intro p s h hi; have : p = l := by simp [h]
             subst this; exact ⟨s, iter_out (hl s hi), hi, rfl⟩
    | cons x r ih =>
      intro p s h hi
      obtain ⟨h1, h2⟩ := hs p.length x s (by simp [h]) hi
      rw [iter_cont h1]
      obtain ⟨t, h3, h4, h5⟩ := ih (p ++ [x]) (f p.length s x) (by simp [h]) (by simpa using h2)
      refine ⟨t, by simpa using h3, h4, ?_⟩
      rw [h5]; simp
  exact key l [] s rfl h0
theorem foldl_zipIdx (f : S → α → S) (l : List α) : ∀ (n : Nat) (s : S), (l.zipIdx n).foldl (fun s p => f s p.1) s = l.foldl f s := by
  induction l with
  | nil => intro n s; rfl
  | cons x r ih => intro n s; simp [ih]
/-- the same, where the number does not matter -/
theorem iter_fold (l : List α) (enc : Int → S → A) (f : S → α → S) (out : S → O) (Inv : Nat → S → Prop) {body : A → Option (Step A O)}
    (hl : ∀ s, Inv l.length s → body (enc l.length s) = some (.out (out s)))
    (hs : ∀ (i : Nat) x s, l[i]? = some x → Inv i s → body (enc i s) = some (.cont (enc ((i + 1 : Nat) : Int) (f s x))) ∧ Inv (i + 1) (f s x)) (s : S) (h0 : Inv 0 s) :
    iter body (enc 0 s) = some (out (l.foldl f s)) ∧ Inv l.length (l.foldl f s) := by
  obtain ⟨t, h1, h2, h3⟩ := iter_foldI l enc (fun _ => f) out Inv hl hs s h0
  have : t = l.foldl f s := by rw [h3]; exact foldl_zipIdx f l 0 s
  subst this
  exact ⟨h1, h2⟩
theorem firstI_any (c : α → Bool) (r : R) (l : List α) (n : Nat) : firstI (fun _ x => if c x then some r else none) n l = if l.any c then some r else none := by
  induction l generalizing n with
  | nil => rfl
  | cons x l ih => unfold firstI; cases h : c x <;> simp [h, ih]
theorem firstI_none {q : Nat → α → Option R} {l : List α} {n : Nat} : firstI q n l = none ↔ ∀ (i : Nat) x, l[i]? = some x → q (n + i) x = none := by
  induction l generalizing n with
  | nil => simp [firstI]
  | cons x l ih =>
    unfold firstI
    cases h : q n x with
    | some y =>
      simp only [reduceCtorEq, false_iff]
      intro hh
      have := hh 0 x rfl
      rw [Nat.add_zero, h] at this; cases this
    | none =>
      rw [ih]
      constructor
      · intro hh i y hy
        cases i with
        | zero => simp at hy; subst hy; exact h
        | succ i => rw [show n + (i + 1) = n + 1 + i by omega]; exact hh i y (by simpa using hy)
      · intro hh i y hy
        rw [show n + 1 + i = n + (i + 1) by omega]; exact hh (i + 1) y (by simpa using hy)
theorem firstI_congr {q q' : Nat → α → Option R} {l : List α} {n : Nat} (h : ∀ (i : Nat) x, l[i]? = some x → q (n + i) x = q' (n + i) x) : firstI q n l = firstI q' n l := by
  induction l generalizing n with
  | nil => rfl
  | cons x l ih =>
    unfold firstI
    rw [show q n x = q' n x from h 0 x rfl, ih (fun i y hy => by rw [show n + 1 + i = n + (i + 1) by omega]; exact h (i + 1) y (by simpa using hy))]
theorem firstI_some {q : Nat → α → Option R} {l : List α} {n : Nat} {r : R} (h : firstI q n l = some r) : ∃ (i : Nat) (x : α), l[i]? = some x ∧ q (n + i) x = some r := by
  induction l generalizing n with
  | nil => cases h
  | cons x l ih =>
    unfold firstI at h
    cases hq : q n x with
    | some y => rw [hq] at h; cases h; exact ⟨0, x, rfl, hq⟩
    | none =>
      rw [hq] at h
      obtain ⟨i, y, h1, h2⟩ := ih h
      exact ⟨i + 1, y, by simpa using h1, by rw [show n + (i + 1) = n + 1 + i by omega]; exact h2⟩
theorem lt_get {l : List α} {i : Nat} {x : α} (h : l[i]? = some x) : i < l.length := (List.getElem?_eq_some_iff.1 h).1
theorem dec_lt {l : List α} {i : Nat} {x : α} (h : l[i]? = some x) : decide ((i : Int) < (l.length : Int)) = true := by have := lt_get h; simp; omega
theorem dec_len (l : List α) : decide ((l.length : Int) < (l.length : Int)) = false := by simp
theorem idx_get {l : List α} {i : Nat} {x : α} (h : l[i]? = some x) : idx l (i : Int) = some x := by rw [idx_nat]; exact h
end
end Go.Proofs.YtfhfjckjmacekaaGreat

/- Domains and addresses: the plain functions, and what the typed functions compute. -/
namespace Go.Proofs.YtfhfjckjmacekaaGreat
open Go.RowKit
set_option linter.unusedVariables false
set_option maxHeartbeats 1000000

def lettC (c : UInt8) : Bool := (decide (97 ≤ c) && decide (c ≤ 122)) || (decide (65 ≤ c) && decide (c ≤ 90)) || (decide (48 ≤ c) && decide (c ≤ 57))
def smallC (c : UInt8) : Bool := (decide (97 ≤ c) && decide (c ≤ 122)) || (decide (48 ≤ c) && decide (c ≤ 57)) || c == 45 || c == 46
def goodC (c : UInt8) : Bool := lettC c || c == 45 || c == 95 || c == 46 || c == 43 || c == 61
/-- no dot at the front or behind a dot (p: there is one, or the front), none at the end -/
def dotsOk : Bool → Str → Bool
  | p, [] => !p
  | p, c :: r => if c = 46 then !p && dotsOk true r else dotsOk false r
def domP (s : Str) : Bool := decide (s.length ≤ 60) && s.all smallC && dotsOk true s
def atP (s : Str) : Nat := s.findIdx (· == 64)
def addrP (s : Str) : Bool := decide (atP s < s.length) && decide (1 ≤ atP s) && decide (atP s ≤ 60) && (s.take (atP s)).all goodC && domP (s.drop (atP s + 1))

theorem u8_le (a c : UInt8) : decide ((a.toNat : Int) ≤ (c.toNat : Int)) = decide (a ≤ c) := by
  rw [Bool.eq_iff_iff]; simp [UInt8.le_iff_toNat_le]
theorem u8_le1 (k : Nat) (c : UInt8) (hk : OfNat.ofNat k < 256) : decide ((no_index (OfNat.ofNat k : Int)) ≤ (c.toNat : Int)) = decide ((OfNat.ofNat k : UInt8) ≤ c) := by
  have e : (OfNat.ofNat k : Int) = ((OfNat.ofNat k : Nat) : Int) := rfl
  have h2 : (OfNat.ofNat k : UInt8).toNat = (OfNat.ofNat k : Nat) := by
    show (UInt8.ofNat k).toNat = k
    rw [UInt8.toNat_ofNat']; exact Nat.mod_eq_of_lt hk
  rw [Bool.eq_iff_iff, decide_eq_true_eq, decide_eq_true_eq, UInt8.le_iff_toNat_le, h2, e]; omega
theorem u8_le2 (k : Nat) (c : UInt8) (hk : OfNat.ofNat k < 256) : decide ((c.toNat : Int) ≤ (no_index (OfNat.ofNat k : Int))) = decide (c ≤ (OfNat.ofNat k : UInt8)) := by
  have e : (OfNat.ofNat k : Int) = ((OfNat.ofNat k : Nat) : Int) := rfl
  have h2 : (OfNat.ofNat k : UInt8).toNat = (OfNat.ofNat k : Nat) := by
    show (UInt8.ofNat k).toNat = k
    rw [UInt8.toNat_ofNat']; exact Nat.mod_eq_of_lt hk
  rw [Bool.eq_iff_iff, decide_eq_true_eq, decide_eq_true_eq, UInt8.le_iff_toNat_le, h2, e]; omega

theorem R_In_eq (a b c : Int) : R_In a b c = some (decide (b ≤ a) && decide (a ≤ c)) := by
  unfold R_In; cases decide (b ≤ a) <;> rfl
theorem R_letterOrDigit_eq (c : UInt8) : R_letterOrDigit c = some (lettC c) := by
  unfold R_letterOrDigit lettC
  simp only [R_In_eq, Option.bind_some, u8_le1 97 c (by decide), u8_le2 122 c (by decide), u8_le1 65 c (by decide), u8_le2 90 c (by decide), u8_le1 48 c (by decide), u8_le2 57 c (by decide)]
  generalize (decide ((97 : UInt8) ≤ c) && decide (c ≤ 122)) = x
  generalize (decide ((65 : UInt8) ≤ c) && decide (c ≤ 90)) = y
  cases x <;> cases y <;> simp
theorem basic_Letter_eq (c : UInt8) : basic_Letter c = some (lettC c) := by
  unfold basic_Letter lettC
  simp only [u8_le1 97 c (by decide), u8_le2 122 c (by decide), u8_le1 65 c (by decide), u8_le2 90 c (by decide), u8_le1 48 c (by decide), u8_le2 57 c (by decide)]
  cases decide ((97 : UInt8) ≤ c) <;> cases decide (c ≤ 122) <;> cases decide ((65 : UInt8) ≤ c) <;> cases decide (c ≤ 90) <;> cases decide ((48 : UInt8) ≤ c) <;> cases decide (c ≤ 57) <;> rfl


/-! ### the reference's domains -/
/-- is there a dot, or the front, before place i? -/
def prevDot (s : Str) (i : Nat) : Bool := if i = 0 then true else s[i - 1]? == some 46
def domLoop : Bool → Str → Bool
  | _, [] => true
  | p, c :: r => if c = 46 then !p && !r.isEmpty && domLoop true r else smallC c && domLoop false r
theorem domLoop_cons (p : Bool) (c : UInt8) (r : Str) : domLoop p (c :: r) = if c = 46 then !p && !r.isEmpty && domLoop true r else smallC c && domLoop false r := rfl
theorem domLoop_eq (s : Str) (p : Bool) (h : s ≠ [] ∨ p = false) : domLoop p s = (s.all smallC && dotsOk p s) := by
  induction s generalizing p with
  | nil => simp [domLoop, dotsOk]; rcases h with h | h <;> simp_all
  | cons c r ih =>
    unfold domLoop dotsOk
    by_cases hc : c = 46
    · subst hc
      simp only [if_true, List.all_cons, show smallC 46 = true by decide, Bool.true_and]
      cases r with
      | nil => simp [dotsOk]
      | cons d r =>
        rw [ih true (.inl (by simp))]
        cases p <;> simp
    · rw [if_neg hc, if_neg hc]
      rw [ih false (.inr rfl), List.all_cons, Bool.and_assoc]
theorem R_DomainOk_loop (s : Str) (hs : s.length ≤ 9223372036854775806) : iter (R_DomainOk_l1 s) 0 = some (if domLoop true s then .inl () else .inr false) := by
  have := iter_list (body := R_DomainOk_l1 s) s (fun i (_ : Unit) => (i : Int)) (fun i r _ => if domLoop (prevDot s i) r then .inl () else .inr false) (fun _ => by
      unfold R_DomainOk_l1
      rw [dec_len]; simp [domLoop]) (fun p c r _ h => ?_) (s0 := 0) () rfl
  · simpa [prevDot] using this
  · have hc : s[p.length]? = some c := by simp [h]
    have hidx := idx_get hc
    have hlen : s.length = p.length + r.length + 1 := by rw [h]; simp; omega
    have e1 : w64 ((s.length : Int) - 1) = ((s.length - 1 : Nat) : Int) := by rw [w64_id (by omega) (by omega)]; omega
    have e2 : w64 ((p.length : Int) + 1) = ((p.length + 1 : Nat) : Int) := by rw [show ((p.length : Int) + 1) = ((p.length + 1 : Nat) : Int) by omega, w64_n _ (by omega)]
    have hbody : R_DomainOk_l1 s (p.length : Int) = some (if c = 46 then (if prevDot s p.length || r.isEmpty then .out (.inr false) else .cont ((p.length + 1 : Nat) : Int)) else if smallC c then .cont ((p.length + 1 : Nat) : Int) else .out (.inr false)) := by
      unfold R_DomainOk_l1
      rw [dec_lt hc, hidx]
      simp only [cond_true, Option.bind_some, R_In_eq, u8_eq c 46 (by decide), u8_ne c 45 (by decide), u8_ne c 46 (by decide), u8_le1 97 c (by decide), u8_le2 122 c (by decide), u8_le1 48 c (by decide), u8_le2 57 c (by decide), e1, e2]
      by_cases h46 : c = 46
      · subst h46
        have hsm : (!(decide ((97 : UInt8) ≤ 46) && decide ((46 : UInt8) ≤ 122))) = true := by decide
        have hsm2 : (!(decide ((48 : UInt8) ≤ 46) && decide ((46 : UInt8) ≤ 57))) = true := by decide
        simp only [beq_self_eq_true, cond_true, hsm, hsm2, if_true, bne_self_eq_false]
        by_cases h0 : p.length = 0
        · simp [h0, prevDot]
        · have h0' : ((p.length : Int) == 0) = false := by rw [beq_eq_false_iff_ne]; omega
          by_cases hl : r = []
          · subst hl
            have : ((p.length : Int) == ((s.length - 1 : Nat) : Int)) = true := by rw [hlen]; simp
            simp [h0', this]
          · have hr : r.isEmpty = false := by simpa using hl
            have hrl : 0 < r.length := List.length_pos_iff.2 hl
            have : ((p.length : Int) == ((s.length - 1 : Nat) : Int)) = false := by rw [hlen]; simp; omega
            have e3 : w64 ((p.length : Int) - 1) = ((p.length - 1 : Nat) : Int) := by rw [w64_id (by omega) (by omega)]; omega
            have hlt : p.length - 1 < s.length := by omega
            simp only [h0', this, cond_false, e3, idx_lt hlt, Option.bind_some, hr, Bool.or_false, prevDot, if_neg h0, List.getElem?_eq_getElem hlt]
            rw [u8_eq _ 46 (by decide)]
            by_cases hd : s[p.length - 1] = 46
            · simp [hd]
            · have : (s[p.length - 1] == 46) = false := by simpa using hd
              simp [this, hd]
      · have h1 : (c == 46) = false := by simpa using h46
        have h2 : (c != 46) = true := by simpa using h46
        simp only [h1, cond_false, if_neg h46, Option.bind_some, smallC, h2]
        by_cases ha : (decide ((97 : UInt8) ≤ c) && decide (c ≤ 122)) = true
        · simp [ha]
        · have ha : (decide ((97 : UInt8) ≤ c) && decide (c ≤ 122)) = false := by simpa using ha
          by_cases hb : (decide ((48 : UInt8) ≤ c) && decide (c ≤ 57)) = true
          · simp [ha, hb]
          · have hb : (decide ((48 : UInt8) ≤ c) && decide (c ≤ 57)) = false := by simpa using hb
            by_cases h45 : c = 45
            · subst h45; simp [ha, hb]
            · have : (c == 45) = false := by simpa using h45
              simp [ha, hb, this, bne]
    have hp1 : prevDot s (p.length + 1) = decide (c = 46) := by
      unfold prevDot
      simp only [Nat.add_sub_cancel, Nat.add_one_ne_zero, if_false, hc]
      rw [Bool.eq_iff_iff]; simp
    rw [hbody]
    rw [domLoop_cons]
    by_cases h46 : c = 46
    · subst h46
      simp only [if_true]
      cases hq : (prevDot s p.length || r.isEmpty) with
      | true =>
        left
        simp only [if_true]
        have : (!prevDot s p.length && !r.isEmpty && domLoop true r) = false := by
          cases hp : prevDot s p.length <;> simp_all
        rw [this]; rfl
      | false =>
        right
        refine ⟨(), rfl, ?_⟩
        have h3 : prevDot s p.length = false := by cases hp : prevDot s p.length <;> simp_all
        have h4 : r.isEmpty = false := by cases hp : r.isEmpty <;> simp_all
        rw [h3, h4, hp1]; simp
    · simp only [if_neg h46]
      cases hq : smallC c with
      | true => right; exact ⟨(), rfl, by rw [hp1]; simp [h46]⟩
      | false => left; simp
theorem dotsOk_nil (s : Str) : s = [] → dotsOk true s = false := by rintro rfl; rfl
theorem R_DomainOk_eq (s : Str) (hs : s.length ≤ 9223372036854775806) : R_DomainOk s = some (domP s) := by
  unfold R_DomainOk
  rw [R_DomainOk_loop s hs]
  by_cases hn : s = []
  · subst hn; simp [domLoop, R_In_eq, domP, dotsOk]
  · rw [domLoop_eq s true (.inl hn)]
    have hpos : 0 < s.length := List.length_pos_iff.2 hn
    unfold domP
    cases h : (s.all smallC && dotsOk true s) with
    | false =>
      rw [Bool.and_assoc, h]; simp
    | true =>
      rw [Bool.and_assoc, h]
      simp only [if_true, Option.bind_some, R_In_eq, Bool.and_true, Sum.elim_inl, Option.some.injEq]
      rw [Bool.eq_iff_iff]; simp; omega
/-! ### the reference's addresses -/
theorem R_sign_eq (s : Str) (hs : s.length ≤ 9223372036854775806) : R_sign s = some ((atP s : Nat) : Int) := by
  unfold R_sign
  rw [iter_first s (fun i c => if c == 64 then some (i : Int) else none) (.inl ()) .inr]
  · simp only [Option.bind_some]
    have key : ∀ (r : Str) (n : Nat), (firstI (fun i (c : UInt8) => if c == 64 then some (i : Int) else none) n r).getD ((n + r.length : Nat) : Int) = ((n + r.findIdx (· == 64) : Nat) : Int) := by
      intro r
      induction r with
      | nil => intro n; simp [firstI]
      | cons c r ih =>
        intro n
        unfold firstI
        rw [List.findIdx_cons]
        cases hc : (c == 64) with
        | true => simp
        | false =>
          simp only [Bool.false_eq_true, if_false, cond_false]
          have := ih (n + 1)
          rw [show n + (c :: r).length = n + 1 + r.length by simp; omega, show n + (r.findIdx (· == 64) + 1) = n + 1 + r.findIdx (· == 64) by omega]
          exact this
    have := key s 0
    rw [Nat.zero_add, Nat.zero_add] at this
    unfold atP
    rw [← this]
    cases firstI (fun i (c : UInt8) => if c == 64 then some (i : Int) else none) 0 s <;> rfl
  · unfold R_sign_l1; rw [dec_len]; rfl
  · intro i c hc
    unfold R_sign_l1
    have hi := lt_get hc
    rw [dec_lt hc, idx_get hc]
    simp only [cond_true, Option.bind_some, u8_eq c 64 (by decide)]
    cases c == 64 with
    | true => rfl
    | false =>
      simp only [cond_false, Bool.false_eq_true, if_false]
      rw [show ((i : Int) + 1) = ((i + 1 : Nat) : Int) by omega, w64_n _ (by omega)]; rfl
theorem R_AddressOk_eq (s : Str) (hs : s.length ≤ 9223372036854775806) : R_AddressOk s = some (addrP s) := by
  have hat : atP s ≤ s.length := List.findIdx_le_length
  unfold R_AddressOk
  rw [R_sign_eq s hs]
  simp only [Option.bind_some]
  have hloop : iter (R_AddressOk_l1 s (atP s : Int)) 0 = some ((firstI (fun _ c => if !goodC c then some false else none) 0 (s.take (atP s))).elim (.inl ()) .inr) := by
    refine iter_first (s.take (atP s)) _ (Sum.inl ()) Sum.inr ?_ ?_
    · have : ((s.take (atP s)).length : Int) = (atP s : Int) := by simp; omega
      unfold R_AddressOk_l1; rw [this]; simp
    · intro i c hc
      have hi := lt_get hc
      simp at hi
      have hc2 : s[i]? = some c := by rw [List.getElem?_take_of_lt (by omega)] at hc; exact hc
      unfold R_AddressOk_l1
      have : decide ((i : Int) < (atP s : Int)) = true := by simp; omega
      rw [this, idx_get hc2]
      simp only [cond_true, Option.bind_some, R_letterOrDigit_eq, u8_ne c 45 (by decide), u8_ne c 95 (by decide), u8_ne c 46 (by decide), u8_ne c 43 (by decide), u8_ne c 61 (by decide)]
      rw [show ((i : Int) + 1) = ((i + 1 : Nat) : Int) by omega, w64_n _ (by omega)]
      unfold goodC
      cases lettC c <;> cases h1 : (c == 45) <;> cases h2 : (c == 95) <;> cases h3 : (c == 46) <;> cases h4 : (c == 43) <;> cases h5 : (c == 61) <;> simp [bne, h1, h2, h3, h4, h5]
  rw [hloop, firstI_any]
  unfold addrP
  have hall : (s.take (atP s)).any (fun c => !goodC c) = !((s.take (atP s)).all goodC) := by simp [List.not_all_eq_any_not]
  rw [hall]
  cases hg : (s.take (atP s)).all goodC with
  | false => simp
  | true =>
    simp only [Bool.not_true, Bool.false_eq_true, if_false, Option.bind_some, R_In_eq, Bool.and_true]
    by_cases h1 : 1 ≤ atP s ∧ atP s ≤ 60
    · have e1 : (decide ((1 : Int) ≤ (atP s : Int)) && decide ((atP s : Int) ≤ 60)) = true := by simp; omega
      rw [e1]
      by_cases h2 : atP s < s.length
      · have e2 : decide ((atP s : Int) < (s.length : Int)) = true := by simp; omega
        rw [e2]
        simp only [cond_true]
        rw [show ((atP s : Int) + 1) = ((atP s + 1 : Nat) : Int) by omega, w64_n _ (by omega), cut_nl (by omega)]
        simp only [Option.bind_some]
        rw [R_DomainOk_eq _ (by simp; omega)]
        simp [h1, h2]
      · have e2 : decide ((atP s : Int) < (s.length : Int)) = false := by simp; omega
        rw [e2]; simp [h2]
    · have e1 : (decide ((1 : Int) ≤ (atP s : Int)) && decide ((atP s : Int) ≤ 60)) = false := by
        rw [Bool.eq_false_iff]; simp; omega
      rw [e1]
      simp only [cond_false, Option.bind_some]
      congr 1
      symm
      rcases Nat.lt_or_ge (atP s) 1 with h | h
      · have : decide (1 ≤ atP s) = false := by simp; omega
        rw [this]; simp
      · have : decide (atP s ≤ 60) = false := by simp; omega
        rw [this]; simp

/-! ### the program's domains and addresses -/
theorem dots_contains (s : Str) : ∀ p, dotsOk p s = (!(p && (s.isEmpty || s.head? == some 46)) && !(s.getLast? == some 46) && !Lib.contains s [46, 46]) := by
  induction s with
  | nil => intro p; cases p <;> simp [dotsOk, Lib.contains, Lib.index]
  | cons c r ih =>
    intro p
    have hcont : Lib.contains (c :: r) [46, 46] = ((c == 46 && r.head? == some 46) || Lib.contains r [46, 46]) := by
      unfold Lib.contains
      rw [Lib.index]
      have hpre : ([46, 46] : List UInt8).isPrefixOf (c :: r) = (c == 46 && r.head? == some 46) := by
        cases r with
        | nil => simp [List.isPrefixOf]
        | cons d r => simp only [List.isPrefixOf, List.head?_cons, Bool.and_true]; rw [Bool.eq_iff_iff]; simp; constructor <;> rintro ⟨rfl, rfl⟩ <;> exact ⟨rfl, rfl⟩
      rw [hpre]
      have hg := Lib.index_ge r [46, 46]
      cases c == 46 && r.head? == some 46 with
      | true => simp
      | false =>
        simp only [Bool.false_eq_true, if_false, Bool.false_or]
        by_cases h : Lib.index r [46, 46] = -1
        · simp [h]
        · have : (Lib.index r [46, 46] == -1) = false := by simpa using h
          rw [this]
          simp only [Bool.false_eq_true, if_false]
          rw [Bool.eq_iff_iff]; simp; omega
    rw [hcont, dotsOk]
    have hlast : (c :: r).getLast? = if r.isEmpty then some c else r.getLast? := by cases r <;> simp
    rw [hlast]
    by_cases hc : c = 46
    · subst hc
      rw [if_pos rfl, ih true]
      cases r with
      | nil => simp
      | cons d r => cases p <;> cases hd : (d == 46) <;> simp_all [Bool.and_comm, Bool.and_assoc, Bool.and_left_comm]
    · have h1 : (c == 46) = false := by simpa using hc
      have h2 : (some c == some (46 : UInt8)) = false := by simpa using hc
      rw [if_neg hc, ih false]
      cases r with
      | nil => simp [h1, h2, Lib.contains, Lib.index, hc]
      | cons d r => simp [h1, h2, hc]
theorem strings_HasPrefix_eq (s t : Str) : strings_HasPrefix s t = some (t.isPrefixOf s) := by
  unfold strings_HasPrefix internal_stringslite_HasPrefix
  by_cases h : t.length ≤ s.length
  · have : decide ((t.length : Int) ≤ (s.length : Int)) = true := by simp; omega
    rw [this, cut_0n h]
    simp only [cond_true, Option.bind_some, Option.some.injEq]
    rw [Bool.eq_iff_iff, beq_iff_eq, List.isPrefixOf_iff_prefix, List.prefix_iff_eq_take]
    constructor <;> exact fun h => h.symm
  · have : decide ((t.length : Int) ≤ (s.length : Int)) = false := by simp; omega
    rw [this]
    simp only [cond_false, Option.bind_some, Option.some.injEq]
    symm
    rw [Bool.eq_false_iff]
    intro hp
    exact h (List.isPrefixOf_iff_prefix.1 hp).length_le
theorem strings_HasSuffix_eq (s t : Str) (hs : s.length ≤ 9223372036854775806) : strings_HasSuffix s t = some (t.isSuffixOf s) := by
  unfold strings_HasSuffix internal_stringslite_HasSuffix
  by_cases h : t.length ≤ s.length
  · have : decide ((t.length : Int) ≤ (s.length : Int)) = true := by simp; omega
    rw [this, w64_ns _ _ h (by omega), cut_nl (by omega)]
    simp only [cond_true, Option.bind_some, Option.some.injEq]
    rw [Bool.eq_iff_iff, beq_iff_eq, List.isSuffixOf_iff_suffix, List.suffix_iff_eq_drop]
    constructor <;> exact fun h => h.symm
  · have : decide ((t.length : Int) ≤ (s.length : Int)) = false := by simp; omega
    rw [this]
    simp only [cond_false, Option.bind_some, Option.some.injEq]
    symm
    rw [Bool.eq_false_iff]
    intro hp
    exact h (List.isSuffixOf_iff_suffix.1 hp).length_le
theorem dom_char (c : UInt8) : ((bif decide ((97 : UInt8) ≤ c) then (bif decide (c ≤ 122) then some true else (bif decide ((48 : UInt8) ≤ c) then (bif decide (c ≤ 57) then some true else (bif (c == 45) then some true else some (c == 46))) else (bif (c == 45) then some true else some (c == 46)))) else (bif decide ((48 : UInt8) ≤ c) then (bif decide (c ≤ 57) then some true else (bif (c == 45) then some true else some (c == 46))) else (bif (c == 45) then some true else some (c == 46)))) : Option Bool) = some (smallC c) := by
  unfold smallC
  cases decide ((97 : UInt8) ≤ c) <;> cases decide (c ≤ 122) <;> cases decide ((48 : UInt8) ≤ c) <;> cases decide (c ≤ 57) <;> cases (c == 45) <;> rfl
theorem envelope_Domain_eq (s : Str) (hs : s.length < 4294967281) : envelope_Domain s = some (domP s) := by
  have hloop : iter (envelope_Domain_l1 s) 0 = some ((firstI (fun _ c => if !smallC c then some () else none) 0 s).elim (.inl ()) .inr) := by
    refine iter_first s _ (Sum.inl ()) Sum.inr ?_ ?_
    · unfold envelope_Domain_l1; rw [dec_len]; rfl
    · intro i c hc
      have hi := lt_get hc
      unfold envelope_Domain_l1
      rw [dec_lt hc, idx_get hc]
      simp only [cond_true, Option.bind_some, u8_eq c 45 (by decide), u8_eq c 46 (by decide), u8_le1 97 c (by decide), u8_le2 122 c (by decide), u8_le1 48 c (by decide), u8_le2 57 c (by decide), dom_char]
      rw [show ((i : Int) + 1) = ((i + 1 : Nat) : Int) by omega, w64_n _ (by omega)]
      cases smallC c <;> rfl
  unfold envelope_Domain domP
  rw [hloop, firstI_any, dots_contains]
  by_cases hn : s = []
  · subst hn; simp
  · have h1 : (s != ([] : Str)) = true := by simpa using hn
    rw [h1]
    simp only [cond_true]
    by_cases hl : s.length ≤ 60
    · have h2 : decide ((s.length : Int) ≤ 60) = true := by simp; omega
      rw [h2]
      have hall : s.any (fun c => !smallC c) = !(s.all smallC) := by simp [List.not_all_eq_any_not]
      rw [hall]
      cases hg : s.all smallC with
      | false => simp [hl]
      | true =>
        simp only [Bool.not_true, Bool.false_eq_true, if_false, Option.elim, Option.bind_some, cond_true, strings_HasPrefix_eq, strings_HasSuffix_eq s [46] (by omega), strings_Contains, if_pos hs]
        have hp : ([46] : Str).isPrefixOf s = (s.head? == some 46) := by
          cases s with
          | nil => rfl
          | cons d r => simp only [List.isPrefixOf, List.head?_cons, Bool.and_true]; rw [Bool.eq_iff_iff]; simp; exact ⟨fun h => h.symm, fun h => h.symm⟩
        have hsf : ([46] : Str).isSuffixOf s = (s.getLast? == some 46) := by
          rw [Bool.eq_iff_iff, List.isSuffixOf_iff_suffix, beq_iff_eq]
          constructor
          · rintro ⟨t, rfl⟩; simp
          · intro h
            obtain ⟨ys, rfl⟩ := List.getLast?_eq_some_iff.1 h
            exact ⟨ys, rfl⟩
        have he : s.isEmpty = false := by simpa using hn
        rw [hp, hsf, he]
        cases s.head? == some 46 <;> cases s.getLast? == some 46 <;> cases Lib.contains s [46, 46] <;> simp [hl]
    · have h2 : decide ((s.length : Int) ≤ 60) = false := by simp; omega
      rw [h2]; simp [hl]
theorem indexByte_atP (s : Str) : Lib.index s [64] = if atP s < s.length then (atP s : Int) else -1 := by
  rw [Lib.index_one]
  unfold atP
  induction s with
  | nil => rfl
  | cons c r ih =>
    rw [Lib.indexByte, List.findIdx_cons]
    cases hc : (c == 64) with
    | true => simp
    | false =>
      simp only [Bool.false_eq_true, if_false, cond_false, List.length_cons]
      rw [ih]
      by_cases h : r.findIdx (· == 64) < r.length
      · simp only [if_pos h, if_pos (show r.findIdx (· == 64) + 1 < r.length + 1 by omega)]
        have : (((r.findIdx (· == 64) : Nat) : Int) == -1) = false := by rw [beq_eq_false_iff_ne]; omega
        rw [this]; simp
      · simp only [if_neg h, if_neg (show ¬ (r.findIdx (· == 64) + 1 < r.length + 1) by omega)]; simp
theorem cut_at (s : Str) : Lib.cut s [64] = if atP s < s.length then (s.take (atP s), s.drop (atP s + 1), true) else (s, [], false) := by
  unfold Lib.cut
  rw [indexByte_atP]
  by_cases h : atP s < s.length
  · rw [if_pos h, if_pos h, if_pos (by omega)]; simp
  · rw [if_neg h, if_neg h, if_neg (by omega)]
def splitP (s : Str) : Str × Str × Bool := if atP s < s.length then (s.take (atP s), s.drop (atP s + 1), addrP s) else (s, [], false)
theorem good_char (c : UInt8) : (lettC c || decide (0 ≤ Lib.indexByte [45, 95, 46, 43, 61] c)) = goodC c := by
  unfold goodC
  by_cases h1 : c = 45
  · subst h1; decide
  by_cases h2 : c = 95
  · subst h2; decide
  by_cases h3 : c = 46
  · subst h3; decide
  by_cases h4 : c = 43
  · subst h4; decide
  by_cases h5 : c = 61
  · subst h5; decide
  rw [beq_eq_false_iff_ne.2 h1, beq_eq_false_iff_ne.2 h2, beq_eq_false_iff_ne.2 h3, beq_eq_false_iff_ne.2 h4, beq_eq_false_iff_ne.2 h5]
  simp [Lib.indexByte, Ne.symm h1, Ne.symm h2, Ne.symm h3, Ne.symm h4, Ne.symm h5]
theorem envelope_Split_eq (s : Str) (hs : s.length < 4294967281) : envelope_Split s = some (splitP s) := by
  have hloop : ∀ v : Str × Str × Bool, v.1.length < 4294967281 → iter (envelope_Split_l1 v) 0 = some ((firstI (fun _ c => if !goodC c then some () else none) 0 v.1).elim (.inl ()) .inr) := by
    intro v hv
    refine iter_first v.1 _ (Sum.inl ()) Sum.inr ?_ ?_
    · unfold envelope_Split_l1; rw [dec_len]; rfl
    · intro i c hc
      have hi := lt_get hc
      unfold envelope_Split_l1
      rw [dec_lt hc, idx_get hc]
      simp only [cond_true, Option.bind_some, basic_Letter_eq, strings_IndexByte]
      rw [show ((i : Int) + 1) = ((i + 1 : Nat) : Int) by omega, w64_n _ (by omega)]
      have hg := good_char c
      cases hl : lettC c with
      | true => rw [hl] at hg; simp only [Bool.true_or] at hg; rw [← hg]; rfl
      | false => rw [hl] at hg; simp only [Bool.false_or] at hg; rw [← hg]; cases decide (0 ≤ Lib.indexByte [45, 95, 46, 43, 61] c) <;> rfl
  unfold envelope_Split strings_Cut
  rw [if_pos hs, cut_at]
  simp only [Option.bind_some]
  unfold splitP
  by_cases h : atP s < s.length
  · simp only [if_pos h, cond_true]
    rw [hloop _ (by simp; omega), firstI_any]
    have hall : (s.take (atP s)).any (fun c => !goodC c) = !((s.take (atP s)).all goodC) := by simp [List.not_all_eq_any_not]
    simp only [hall]
    have hlen : (s.take (atP s)).length = atP s := by simp; omega
    rw [hlen, envelope_Domain_eq _ (by simp; omega)]
    unfold addrP
    by_cases h0 : atP s = 0
    · simp [h0]
    · have hne : (s.take (atP s) != ([] : Str)) = true := by
        simp only [bne_iff_ne, ne_eq]
        intro hx
        have := congrArg List.length hx
        rw [hlen] at this; simp at this; omega
      rw [hne]
      by_cases h60 : atP s ≤ 60
      · have e : decide ((atP s : Int) ≤ 60) = true := by simp; omega
        rw [e]
        cases (s.take (atP s)).all goodC <;> simp [h, h60] <;> omega
      · have e : decide ((atP s : Int) ≤ 60) = false := by simp; omega
        rw [e]; simp [h60]
  · simp [if_neg h]
theorem addrP_split (s : Str) : (splitP s).2.2 = addrP s := by
  unfold splitP
  by_cases h : atP s < s.length
  · rw [if_pos h]
  · rw [if_neg h]; unfold addrP; simp [h]
theorem envelope_Address_eq (s : Str) (hs : s.length < 4294967281) : envelope_Address s = some (addrP s) := by
  unfold envelope_Address; rw [envelope_Split_eq s hs]; simp [addrP_split]

/-! ### small things -/
theorem R_Has_eq (l : List Str) (s : Str) (hl : l.length ≤ 9223372036854775806) : R_Has l s = some (l.contains s) := by
  unfold R_Has
  rw [iter_first l (fun _ x => if x == s then some true else none) (.inl ()) .inr, firstI_any]
  · simp only [Option.bind_some]
    have : l.any (fun x => x == s) = l.contains s := by
      rw [Bool.eq_iff_iff]; simp
    rw [this]
    cases l.contains s <;> rfl
  · unfold R_Has_l1; rw [dec_len]; rfl
  · intro i x hx
    have hi := lt_get hx
    unfold R_Has_l1
    rw [dec_lt hx, idx_get hx]
    simp only [cond_true, Option.bind_some]
    rw [show ((i : Int) + 1) = ((i + 1 : Nat) : Int) by omega, w64_n _ (by omega)]
    cases x == s <;> rfl
theorem R_AddressesOk_eq (l : List Str) (hl : l.length ≤ 9223372036854775806) (hs : ∀ s ∈ l, s.length ≤ 9223372036854775806) : R_AddressesOk l = some (l.all addrP) := by
  unfold R_AddressesOk
  rw [iter_first l (fun _ x => if !addrP x then some false else none) (.inl ()) .inr, firstI_any]
  · simp only [Option.bind_some]
    have : l.any (fun x => !addrP x) = !l.all addrP := by simp [List.not_all_eq_any_not]
    rw [this]
    cases l.all addrP <;> rfl
  · unfold R_AddressesOk_l1; rw [dec_len]; rfl
  · intro i x hx
    have hi := lt_get hx
    unfold R_AddressesOk_l1
    rw [dec_lt hx, idx_get hx]
    simp only [cond_true, Option.bind_some, R_AddressOk_eq x (hs x (List.mem_of_getElem? hx))]
    rw [show ((i : Int) + 1) = ((i + 1 : Nat) : Int) by omega, w64_n _ (by omega)]
    cases addrP x <;> rfl
theorem R_Strings_eq (a b : List Str) (ha : a.length ≤ 9223372036854775806) : R_Strings a b = some (a == b) := by
  unfold R_Strings
  by_cases hlen : a.length = b.length
  · have h1 : ((a.length : Int) != (b.length : Int)) = false := by rw [hlen]; simp
    rw [h1]
    simp only [cond_false]
    rw [iter_first a (fun i x => if b[i]? != some x then some false else none) (.inl ()) .inr]
    · simp only [Option.bind_some]
      cases hf : firstI (fun i x => if b[i]? != some x then some false else none) 0 a with
      | none =>
        rw [firstI_none] at hf
        have : a = b := by
          apply List.ext_getElem?
          intro i
          by_cases hi : i < a.length
          · have := hf i a[i] (List.getElem?_eq_getElem hi)
            rw [Nat.zero_add] at this
            rw [List.getElem?_eq_getElem hi]
            simp at this; exact this.symm
          · rw [List.getElem?_eq_none (by omega), List.getElem?_eq_none (by omega)]
        subst this; simp
      | some r =>
        obtain ⟨i, x, hx, hq⟩ := firstI_some hf
        rw [Nat.zero_add] at hq
        split at hq
        · cases hq
          rename_i hne
          have : (a == b) = false := by
            rw [beq_eq_false_iff_ne]
            rintro rfl
            rw [hx] at hne; simp at hne
          rw [this]; rfl
        · cases hq
    · unfold R_Strings_l1; rw [dec_len]; rfl
    · intro i x hx
      have hi := lt_get hx
      unfold R_Strings_l1
      have hib : i < b.length := by omega
      rw [dec_lt hx, idx_get hx, idx_lt hib, List.getElem?_eq_getElem hib]
      simp only [cond_true, Option.bind_some]
      rw [show ((i : Int) + 1) = ((i + 1 : Nat) : Int) by omega, w64_n _ (by omega)]
      by_cases hxb : x = b[i]
      · subst hxb; simp
      · have e1 : (x != b[i]) = true := by simpa using hxb
        have e2 : (some b[i] != some x) = true := by simp; exact fun h => hxb h.symm
        rw [e1, e2]; rfl
  · have h1 : ((a.length : Int) != (b.length : Int)) = true := by simp; omega
    rw [h1]
    simp only [cond_true]
    have : (a == b) = false := by rw [beq_eq_false_iff_ne]; rintro rfl; exact hlen rfl
    rw [this]
end Go.Proofs.YtfhfjckjmacekaaGreat

/- Plain lemmas: bulk, counters, copying down in a list. No program is named. -/
namespace Go.Proofs.YtfhfjckjmacekaaGreat
open Go.RowKit
theorem first_idx {α : Type} (c : α → Bool) (l : List α) : ∀ n : Nat, decide ((0 : Int) ≤ (firstI (fun i x => if c x then some ((i : Nat) : Int) else none) n l).getD (-1)) = l.any c := by
  induction l with
  | nil => intro n; rfl
  | cons x l ih =>
    intro n
    unfold firstI
    cases hc : c x with
    | true => simp [hc]
    | false => simp only [Bool.false_eq_true, if_false, List.any_cons, hc, Bool.false_or]; exact ih (n + 1)
theorem elim_idx (o : Option Int) : Sum.elim (fun _ => some (-1)) (fun b => some b) (o.elim (Sum.inl ()) Sum.inr : Unit ⊕ Int) = some (o.getD (-1)) := by cases o <;> rfl
theorem sc (i : Nat) (h : i < 9223372036854775807) : w64 ((i : Int) + 1) = ((i + 1 : Nat) : Int) := by rw [show ((i : Int) + 1) = ((i + 1 : Nat) : Int) by omega, w64_n _ (by omega)]

theorem bkL_pos {T : Type} (bk : T → Nat) (l : List T) : 1 ≤ bkL bk l := by
  induction l with
  | nil => simp [bkL]
  | cons y l ih => unfold bkL; omega
theorem bkL_mem {T : Type} {bk : T → Nat} {l : List T} {x : T} (h : x ∈ l) : bk x + 1 ≤ bkL bk l := by
  induction l with
  | nil => cases h
  | cons y l ih =>
    unfold bkL
    have hp := bkL_pos bk l
    rcases List.mem_cons.1 h with rfl | h
    · omega
    · have := ih h; omega
theorem bkL_len {T : Type} {bk : T → Nat} (hb : ∀ x, 1 ≤ bk x) (l : List T) : l.length + 1 ≤ bkL bk l := by
  induction l with
  | nil => simp [bkL]
  | cons y l ih => unfold bkL; have := hb y; simp; omega

section
variable {α : Type}
/-- elements that do not go are copied down (slices.DeleteFunc) -/
theorem down_loop (q : α → Bool) (L0 : List α) (Pq : α → Prop) {body : Int × Int × List α → Option (Step (Int × Int × List α) (Int × List α))}
    (hend : ∀ i L, L.length = L0.length → body (i, (L0.length : Int), L) = some (.out (i, L)))
    (hstep : ∀ (i k : Nat) (L : List α) x, L.length = L0.length → L[k]? = some x → i ≤ k → Pq x → body ((i : Int), (k : Int), L) = some (.cont (if q x then ((i : Int), ((k + 1 : Nat) : Int), L) else (((i + 1 : Nat) : Int), ((k + 1 : Nat) : Int), L.set i x)))) :
    ∀ (r : List α) (i k : Nat) (L : List α), L.length = L0.length → L.drop k = r → i ≤ k → k ≤ L.length → (∀ x ∈ L, Pq x) → ∃ L', iter body ((i : Int), (k : Int), L) = some (((i + (r.filter fun x => !q x).length : Nat) : Int), L') ∧ L'.length = L0.length ∧ L'.take (i + (r.filter fun x => !q x).length) = L.take i ++ r.filter fun x => !q x := by
  intro r
  induction r with
  | nil =>
    intro i k L hl hd hik hk _
    have hkl : k = L.length := by
      have := congrArg List.length hd
      simp at this; omega
    subst hkl
    refine ⟨L, ?_, hl, by simp⟩
    rw [hl]
    simpa using iter_out (hend i L hl)
  | cons x r ih =>
    intro i k L hl hd hik hk hP
    have hlt : k < L.length := by
      have := congrArg List.length hd
      simp at this; omega
    have hx : L[k]? = some x := by
      have := List.getElem?_drop (xs := L) (i := k) (j := 0)
      rw [hd] at this
      simpa using this.symm
    have hd' : L.drop (k + 1) = r := by
      have := congrArg (List.drop 1) hd
      simpa [List.drop_drop, Nat.add_comm] using this
    have hs := hstep i k L x hl hx hik (hP x (List.mem_of_getElem? hx))
    cases hq : q x with
    | true =>
      rw [hq, if_pos rfl] at hs
      obtain ⟨L', h1, h2, h3⟩ := ih i (k + 1) L hl hd' (by omega) (by omega) hP
      refine ⟨L', (iter_cont hs).trans ?_, h2, ?_⟩
      · simpa [hq] using h1
      · simpa [hq] using h3
    | false =>
      rw [hq, if_neg (by simp)] at hs
      have hdr : (L.set i x).drop (k + 1) = r := by
        rw [List.drop_set_of_lt (by omega)]; exact hd'
      obtain ⟨L', h1, h2, h3⟩ := ih (i + 1) (k + 1) (L.set i x) (by simpa using hl) hdr (by omega) (by simp; omega) (fun y hy => by
        rcases List.mem_or_eq_of_mem_set hy with h | rfl
        · exact hP y h
        · exact hP _ (List.mem_of_getElem? hx))
      have hf : ((x :: r).filter fun x => !q x) = x :: r.filter fun x => !q x := by simp [hq]
      refine ⟨L', (iter_cont hs).trans ?_, h2, ?_⟩
      · rw [hf, h1]; simp only [List.length_cons]; congr 2; omega
      · rw [hf]
        have e : i + (x :: r.filter fun x => !q x).length = i + 1 + (r.filter fun x => !q x).length := by simp; omega
        rw [e, h3]
        have : (L.set i x).take (i + 1) = L.take i ++ [x] := by
          rw [List.take_add_one]
          have h5 : (L.set i x)[i]? = some x := List.getElem?_set_self (by omega)
          rw [h5, List.take_set_of_le (Nat.le_refl _)]; rfl
        rw [this]; simp
theorem filter_all_of_none {q : α → Bool} {l : List α} (h : ∀ x ∈ l, q x = false) : (l.filter fun x => !q x) = l := by
  rw [List.filter_eq_self]; intro x hx; rw [h x hx]; rfl
end
theorem mget_mputG {V : Type} (m : List (Str × V)) (k : Str) (v : V) (x : Str) : mget (mput m k v) x = if k == x then some v else mget m x := by
  induction m with
  | nil => rfl
  | cons p m ih =>
    obtain ⟨k', v'⟩ := p
    unfold mput
    by_cases h : k' = k
    · subst h
      simp only [beq_self_eq_true, if_true, mget]
      cases k' == x <;> simp
    · have h1 : (k' == k) = false := by simpa using h
      rw [h1]
      simp only [Bool.false_eq_true, if_false, mget]
      rw [ih]
      by_cases h2 : k' = x
      · subst h2
        have : (k == k') = false := by simpa using fun h' => h h'.symm
        simp [this]
      · have : (k' == x) = false := by simpa using h2
        rw [this]; simp

section
variable {α A S O : Type}
/-- a fold that begins in the midst of a list -/
theorem iter_foldFrom (l : List α) (enc : Int → S → A) (f : S → α → S) (out : S → O) (Inv : Nat → S → Prop) {body : A → Option (Step A O)}
    (hl : ∀ s, Inv l.length s → body (enc l.length s) = some (.out (out s)))
    (hs : ∀ (i : Nat) x s, l[i]? = some x → Inv i s → body (enc i s) = some (.cont (enc ((i + 1 : Nat) : Int) (f s x))) ∧ Inv (i + 1) (f s x)) :
    ∀ (r p : List α) (s : S), l = p ++ r → Inv p.length s → iter body (enc (p.length : Int) s) = some (out (r.foldl f s)) := by
  intro r
  induction r with
  | nil => intro p s h hi; have : p = l := by simp [h]
           subst this; exact iter_out (hl s hi)
  | cons x r ih =>
    intro p s h hi
    obtain ⟨h1, h2⟩ := hs p.length x s (by simp [h]) hi
    rw [iter_cont h1]
    have := ih (p ++ [x]) (f s x) (by simp [h]) (by simpa using h2)
    simpa using this
end
end Go.Proofs.YtfhfjckjmacekaaGreat

/- Aliases: the plain functions, and what the typed functions compute. -/
namespace Go.Proofs.YtfhfjckjmacekaaGreat
open Go.RowKit
set_option linter.unusedVariables false
set_option maxHeartbeats 1000000

/-! ### validation -/
def aliasQ (l : List TAlias) (i : Nat) (a : TAlias) : Option TFault :=
  if !addrP a.Address then some ⟨10, i⟩ else if decide (a.To.length < 1) || decide (60 < a.To.length) then some ⟨2, i⟩ else if !(a.To.all addrP) then some ⟨10, i⟩ else if (l.take i).any (fun x => x.Address == a.Address) then some ⟨7, i⟩ else none
def aliasF (l : List TAlias) : TFault := if 40 < l.length then ⟨2, -1⟩ else (firstI (aliasQ l) 0 l).getD ⟨0, 0⟩
def smallA (l : List TAlias) : Prop := l.length ≤ 1048576 ∧ ∀ a ∈ l, a.Address.length ≤ 1048576 ∧ a.To.length ≤ 1048576 ∧ ∀ s ∈ a.To, s.length ≤ 1048576

theorem alias_Validate_eq (l : List TAlias) (hl : smallA l) : alias_Validate l = some (aliasF l) := by
  unfold alias_Validate aliasF
  by_cases h40 : 40 < l.length
  · have : decide ((40 : Int) < (l.length : Int)) = true := by simp; omega
    rw [this, if_pos h40]; rfl
  · have : decide ((40 : Int) < (l.length : Int)) = false := by simp; omega
    rw [this, if_neg h40]
    simp only [cond_false]
    rw [iter_first l (aliasQ l) (.inl ()) .inr]
    · simp only [Option.bind_some]
      cases firstI (aliasQ l) 0 l <;> rfl
    · unfold alias_Validate_l1; rw [dec_len]; rfl
    · intro i a ha
      have hi := lt_get ha
      obtain ⟨h1, h2, h3⟩ := hl.2 a (List.mem_of_getElem? ha)
      have hl2 : iter (alias_Validate_l2 a) 0 = some ((firstI (fun i x => if !addrP x then some ((i : Nat) : Int) else none) 0 a.To).elim (.inl ()) .inr) := by
        refine iter_first a.To _ (Sum.inl ()) Sum.inr ?_ ?_
        · unfold alias_Validate_l2; rw [dec_len]; rfl
        · intro k x hx
          have hk := lt_get hx
          have := h3 x (List.mem_of_getElem? hx)
          unfold alias_Validate_l2
          rw [dec_lt hx, idx_get hx]
          simp only [cond_true, Option.bind_some, envelope_Address_eq x (by omega), sc k (by omega)]
          cases addrP x <;> rfl
      have hl3 : ∀ v : List TAlias, v.length ≤ 1048576 → iter (alias_Validate_l3 a v) 0 = some ((firstI (fun i x => if x.Address == a.Address then some ((i : Nat) : Int) else none) 0 v).elim (.inl ()) .inr) := by
        intro v hv
        refine iter_first v _ (Sum.inl ()) Sum.inr ?_ ?_
        · unfold alias_Validate_l3; rw [dec_len]; rfl
        · intro k x hx
          have hk := lt_get hx
          unfold alias_Validate_l3
          rw [dec_lt hx, idx_get hx]
          simp only [cond_true, Option.bind_some, sc k (by omega)]
          cases x.Address == a.Address <;> rfl
      unfold alias_Validate_l1 aliasQ
      rw [dec_lt ha, idx_get ha]
      simp only [cond_true, Option.bind_some, envelope_Address_eq a.Address (by omega), hl2, cut_0n (Nat.le_of_lt hi), hl3 (l.take i) (by simp; omega), sc i (by omega), basic_Fault, elim_idx, first_idx]
      cases addrP a.Address with
      | false => rfl
      | true =>
        have e1 : decide ((a.To.length : Int) < 1) = decide (a.To.length < 1) := by rw [Bool.eq_iff_iff, decide_eq_true_eq, decide_eq_true_eq]; omega
        have e2 : decide ((60 : Int) < (a.To.length : Int)) = decide (60 < a.To.length) := by rw [Bool.eq_iff_iff]; simp; omega
        have e3 : a.To.any (fun x => !addrP x) = !a.To.all addrP := by simp [List.not_all_eq_any_not]
        rw [e1, e2, e3]
        cases decide (a.To.length < 1) <;> cases decide (60 < a.To.length) <;> cases a.To.all addrP <;> cases (l.take i).any (fun x => x.Address == a.Address) <;> rfl

theorem R_AliasesFault_eq (l : List TAlias) (hl : smallA l) : R_AliasesFault l = some (aliasF l) := by
  unfold R_AliasesFault aliasF
  by_cases h40 : 40 < l.length
  · have : decide ((40 : Int) < (l.length : Int)) = true := by simp; omega
    rw [this, if_pos h40]; rfl
  · have : decide ((40 : Int) < (l.length : Int)) = false := by simp; omega
    rw [this, if_neg h40]
    simp only [cond_false]
    rw [iter_first l (aliasQ l) (.inl ()) .inr]
    · simp only [Option.bind_some]
      cases firstI (aliasQ l) 0 l <;> rfl
    · unfold R_AliasesFault_l1; rw [dec_len]; rfl
    · intro i a ha
      have hi := lt_get ha
      obtain ⟨h1, h2, h3⟩ := hl.2 a (List.mem_of_getElem? ha)
      have hl2 : iter (R_AliasesFault_l2 l (i : Int)) 0 = some ((firstI (fun _ x => if x.Address == a.Address then some (⟨7, i⟩ : TFault) else none) 0 (l.take i)).elim (.inl ()) .inr) := by
        refine iter_first (l.take i) _ (Sum.inl ()) Sum.inr ?_ ?_
        · have : ((l.take i).length : Int) = (i : Int) := by simp; omega
          unfold R_AliasesFault_l2; rw [this]; simp
        · intro k x hx
          have hk := lt_get hx
          simp at hk
          have hx2 : l[k]? = some x := by rw [List.getElem?_take_of_lt (by omega)] at hx; exact hx
          unfold R_AliasesFault_l2
          have : decide ((k : Int) < (i : Int)) = true := by simp; omega
          rw [this, idx_get hx2, idx_get ha]
          simp only [cond_true, Option.bind_some, sc k (by omega), R_At]
          cases x.Address == a.Address <;> rfl
      unfold R_AliasesFault_l1 aliasQ
      rw [dec_lt ha, idx_get ha, hl2, firstI_any]
      simp only [cond_true, Option.bind_some, R_AddressOk_eq a.Address (by omega), R_In_eq, R_AddressesOk_eq a.To (by omega) (fun s hs => by have := h3 s hs; omega), sc i (by omega), R_At]
      cases addrP a.Address with
      | false => rfl
      | true =>
        have e1 : decide ((1 : Int) ≤ (a.To.length : Int)) = !decide (a.To.length < 1) := by rw [← decide_not, Bool.eq_iff_iff, decide_eq_true_eq, decide_eq_true_eq]; omega
        have e2 : decide ((a.To.length : Int) ≤ 60) = !decide (60 < a.To.length) := by rw [Bool.eq_iff_iff]; simp; omega
        rw [e1, e2]
        cases decide (a.To.length < 1) <;> cases decide (60 < a.To.length) <;> cases a.To.all addrP <;> cases (l.take i).any (fun x => x.Address == a.Address) <;> rfl
/-- what validation gives -/
structure AliasOk (l : List TAlias) : Prop where
  n : l.length ≤ 40
  addr : ∀ a ∈ l, addrP a.Address = true ∧ 1 ≤ a.To.length ∧ a.To.length ≤ 60 ∧ ∀ s ∈ a.To, addrP s = true
  once : ∀ (i j : Nat) (a b : TAlias), i < j → l[i]? = some a → l[j]? = some b → a.Address ≠ b.Address
theorem aliasF_ok {l : List TAlias} (h : (aliasF l).Code = 0) : AliasOk l ∧ aliasF l = ⟨0, 0⟩ := by
  unfold aliasF at h ⊢
  split at h
  · cases h
  · rename_i h40
    rw [if_neg h40]
    cases hf : firstI (aliasQ l) 0 l with
    | some f =>
      rw [hf] at h
      obtain ⟨i, a, _, hq⟩ := firstI_some hf
      unfold aliasQ at hq
      split at hq
      · cases hq; cases h
      · split at hq
        · cases hq; cases h
        · split at hq
          · cases hq; cases h
          · split at hq
            · cases hq; cases h
            · cases hq
    | none =>
      rw [firstI_none] at hf
      have key : ∀ (i : Nat) a, l[i]? = some a → addrP a.Address = true ∧ 1 ≤ a.To.length ∧ a.To.length ≤ 60 ∧ a.To.all addrP = true ∧ (l.take i).any (fun x => x.Address == a.Address) = false := by
        intro i a ha
        have hq := hf i a ha
        unfold aliasQ at hq
        split at hq
        · cases hq
        · rename_i q1
          split at hq
          · cases hq
          · rename_i q2
            split at hq
            · cases hq
            · rename_i q3
              split at hq
              · cases hq
              · rename_i q4
                simp only [Bool.or_eq_true, decide_eq_true_eq, not_or] at q2
                refine ⟨by simpa using q1, by omega, by omega, by simpa using q3, by simpa using q4⟩
      refine ⟨⟨by omega, fun a ha => ?_, fun i j a b hij ha hb => ?_⟩, rfl⟩
      · obtain ⟨i, hi⟩ := List.getElem?_of_mem ha
        obtain ⟨k1, k2, k3, k4, _⟩ := key i a hi
        exact ⟨k1, k2, k3, by simpa using k4⟩
      · have := (key j b hb).2.2.2.2
        rw [List.any_eq_false] at this
        have h2 := this a (List.mem_of_getElem? (i := i) (by rw [List.getElem?_take_of_lt hij]; exact ha))
        simpa using h2
end Go.Proofs.YtfhfjckjmacekaaGreat

/- Aliases: the search, and what the typed functions compute. -/
namespace Go.Proofs.YtfhfjckjmacekaaGreat
open Go.RowKit
set_option linter.unusedVariables false
set_option maxHeartbeats 1000000

/-! ### lists without repetition -/
def add1 (o : List Str) (x : Str) : List Str := if o.contains x then o else o ++ [x]
def addNew (o xs : List Str) : List Str := xs.foldl add1 o
theorem add1_mem (o : List Str) (x y : Str) : y ∈ add1 o x ↔ y ∈ o ∨ y = x := by
  unfold add1
  split
  · rename_i h
    simp at h
    constructor
    · exact .inl
    · rintro (h1 | rfl)
      · exact h1
      · exact h
  · simp
theorem add1_prefix (o : List Str) (x : Str) : o <+: add1 o x := by
  unfold add1; split
  · exact List.prefix_refl _
  · exact List.prefix_append _ _
theorem add1_nodup {o : List Str} (h : o.Nodup) (x : Str) : (add1 o x).Nodup := by
  unfold add1; split
  · exact h
  · rename_i hx
    simp at hx
    rw [List.nodup_append]
    exact ⟨h, by simp, fun a ha b hb hab => by simp at hb; subst hb; subst hab; exact hx ha⟩
theorem add1_len (o : List Str) (x : Str) : (add1 o x).length ≤ o.length + 1 := by unfold add1; split <;> simp
theorem addNew_mem (xs : List Str) : ∀ (o : List Str) (y : Str), y ∈ addNew o xs ↔ y ∈ o ∨ y ∈ xs := by
  induction xs with
  | nil => intro o y; simp [addNew]
  | cons x xs ih => intro o y; show y ∈ addNew (add1 o x) xs ↔ _; rw [ih, add1_mem]; simp [or_assoc]
theorem addNew_prefix (xs : List Str) : ∀ o : List Str, o <+: addNew o xs := by
  induction xs with
  | nil => intro o; exact List.prefix_refl _
  | cons x xs ih => intro o; exact (add1_prefix o x).trans (ih _)
theorem addNew_nodup (xs : List Str) : ∀ {o : List Str}, o.Nodup → (addNew o xs).Nodup := by
  induction xs with
  | nil => intro o h; exact h
  | cons x xs ih => intro o h; exact ih (add1_nodup h x)
theorem nodup_le {l m : List Str} (hl : l.Nodup) (h : ∀ x ∈ l, x ∈ m) : l.length ≤ m.length := by
  induction l generalizing m with
  | nil => simp
  | cons x l ih =>
    have hx : x ∈ m := h x (by simp)
    obtain ⟨hxl, hl'⟩ := List.nodup_cons.1 hl
    have := ih (m := m.erase x) hl' (fun y hy => by
      have hne : y ≠ x := by rintro rfl; exact hxl hy
      exact (List.mem_erase_of_ne hne).2 (h y (by simp [hy])))
    rw [List.length_erase_of_mem hx] at this
    have : 0 < m.length := List.length_pos_of_mem hx
    simp; omega

/-! ### the search -/
def tgtO (l : List TAlias) (s : Str) : Option (List Str) := (l.find? (fun a => a.Address == s)).map (·.To)
def tgt (l : List TAlias) (s : Str) : List Str := (tgtO l s).getD []
def bfs (l : List TAlias) : Nat → Nat → List Str → List Str
  | 0, _, out => out
  | n + 1, k, out => match out[k]? with | none => out | some s => bfs l n (k + 1) (addNew out (tgt l s))
def univ (l : List TAlias) (from_ : List Str) : List Str := from_ ++ l.flatMap (·.To)
def reached (l : List TAlias) (from_ : List Str) : List Str := bfs l ((univ l from_).length + 1) 0 (addNew [] from_)
theorem tgt_sub (l : List TAlias) (s x : Str) (h : x ∈ tgt l s) : ∃ a ∈ l, a.Address = s ∧ x ∈ a.To := by
  unfold tgt tgtO at h
  cases hf : l.find? (fun a => a.Address == s) with
  | none => rw [hf] at h; simp at h
  | some a =>
    rw [hf] at h
    have := List.find?_some hf
    exact ⟨a, List.mem_of_find?_eq_some hf, by simpa using this, by simpa using h⟩
/-- what holds of the list during the search -/
structure Inv (l : List TAlias) (U : List Str) (k : Nat) (out : List Str) : Prop where
  nd : out.Nodup
  sub : ∀ x ∈ out, x ∈ U
  le : k ≤ out.length
theorem Inv.len {l : List TAlias} {U : List Str} {k : Nat} {out : List Str} (h : Inv l U k out) : out.length ≤ U.length := nodup_le h.nd h.sub
theorem Inv.step {l : List TAlias} {from_ : List Str} {k : Nat} {out : List Str} (h : Inv l (univ l from_) k out) {s : Str} (hs : out[k]? = some s) : Inv l (univ l from_) (k + 1) (addNew out (tgt l s)) := by
  refine ⟨addNew_nodup _ h.nd, fun x hx => ?_, ?_⟩
  · rcases (addNew_mem _ _ _).1 hx with h1 | h1
    · exact h.sub x h1
    · obtain ⟨a, ha, _, hxa⟩ := tgt_sub l s x h1
      exact List.mem_append.2 (.inr (List.mem_flatMap.2 ⟨a, ha, hxa⟩))
  · have := (addNew_prefix (tgt l s) out).length_le
    have := lt_get hs
    omega
theorem Inv.start (l : List TAlias) (from_ : List Str) : Inv l (univ l from_) 0 (addNew [] from_) :=
  ⟨addNew_nodup _ List.nodup_nil, fun x hx => by
    rcases (addNew_mem _ _ _).1 hx with h1 | h1
    · simp at h1
    · exact List.mem_append.2 (.inl h1), Nat.zero_le _⟩
/-- the search is over -/
theorem bfs_spec (l : List TAlias) (from_ : List Str) : ∀ (n k : Nat) (out : List Str), Inv l (univ l from_) k out → (univ l from_).length + 1 ≤ n + k →
    ∃ m, Inv l (univ l from_) m (bfs l n k out) ∧ m = (bfs l n k out).length ∧ out <+: bfs l n k out := by
  intro n
  induction n with
  | zero => intro k out h hn; have := h.len; have := h.le; omega
  | succ n ih =>
    intro k out h hn
    unfold bfs
    cases hs : out[k]? with
    | none =>
      have : out.length ≤ k := List.getElem?_eq_none_iff.1 hs
      have hk : k = out.length := by have := h.le; omega
      exact ⟨k, h, hk, List.prefix_refl _⟩
    | some s =>
      obtain ⟨m, h1, h2, h3⟩ := ih (k + 1) _ (h.step hs) (by omega)
      exact ⟨m, h1, h2, (addNew_prefix _ _).trans h3⟩
/-- reached from some addresses -/
inductive Gets (l : List TAlias) (from_ : List Str) : Str → Prop
  | base {x : Str} (h : x ∈ from_) : Gets l from_ x
  | step {x y : Str} (h : Gets l from_ x) (hy : y ∈ tgt l x) : Gets l from_ y
theorem bfs_sound (l : List TAlias) (from_ : List Str) : ∀ (n k : Nat) (out : List Str), (∀ x ∈ out, Gets l from_ x) → ∀ x ∈ bfs l n k out, Gets l from_ x := by
  intro n
  induction n with
  | zero => intro k out h; exact h
  | succ n ih =>
    intro k out h
    unfold bfs
    cases hs : out[k]? with
    | none => exact h
    | some s =>
      refine ih (k + 1) _ fun x hx => ?_
      rcases (addNew_mem _ _ _).1 hx with h1 | h1
      · exact h x h1
      · exact .step (h s (List.mem_of_getElem? hs)) h1
theorem bfs_closed (l : List TAlias) (from_ : List Str) : ∀ (n k : Nat) (out : List Str), Inv l (univ l from_) k out → (univ l from_).length + 1 ≤ n + k → (∀ x ∈ out.take k, ∀ y ∈ tgt l x, y ∈ out) →
    ∀ x ∈ bfs l n k out, ∀ y ∈ tgt l x, y ∈ bfs l n k out := by
  intro n
  induction n with
  | zero => intro k out h hn; have := h.len; have := h.le; omega
  | succ n ih =>
    intro k out h hn hc
    unfold bfs
    cases hs : out[k]? with
    | none =>
      have : out.length ≤ k := List.getElem?_eq_none_iff.1 hs
      rw [List.take_of_length_le this] at hc
      exact hc
    | some s =>
      refine ih (k + 1) _ (h.step hs) (by omega) fun x hx y hy => ?_
      have hpre := addNew_prefix (tgt l s) out
      have hlt := lt_get hs
      have htk : (addNew out (tgt l s)).take (k + 1) = out.take k ++ [s] := by
        obtain ⟨t, ht⟩ := hpre
        rw [← ht, List.take_append_of_le_length (by omega), List.take_add_one, hs]; rfl
      rw [htk] at hx
      rcases List.mem_append.1 hx with h1 | h1
      · exact (addNew_mem _ _ _).2 (.inl (hc x h1 y hy))
      · simp at h1; subst h1; exact (addNew_mem _ _ _).2 (.inr hy)
theorem reached_iff (l : List TAlias) (from_ : List Str) (x : Str) : x ∈ reached l from_ ↔ Gets l from_ x := by
  constructor
  · refine bfs_sound l from_ _ 0 _ (fun y hy => ?_) x
    rcases (addNew_mem _ _ _).1 hy with h | h
    · simp at h
    · exact .base h
  · intro h
    obtain ⟨m, _, _, hp⟩ := bfs_spec l from_ ((univ l from_).length + 1) 0 _ (Inv.start l from_) (by omega)
    induction h with
    | base h => exact hp.subset ((addNew_mem _ _ _).2 (.inr h))
    | step _ hy ih => exact bfs_closed l from_ ((univ l from_).length + 1) 0 _ (Inv.start l from_) (by omega) (by simp) _ ih _ hy
theorem reached_nodup (l : List TAlias) (from_ : List Str) : (reached l from_).Nodup := by
  obtain ⟨m, h, _, _⟩ := bfs_spec l from_ ((univ l from_).length + 1) 0 _ (Inv.start l from_) (by omega)
  exact h.nd
theorem reached_len (l : List TAlias) (from_ : List Str) : (reached l from_).length ≤ (univ l from_).length := by
  obtain ⟨m, h, _, _⟩ := bfs_spec l from_ ((univ l from_).length + 1) 0 _ (Inv.start l from_) (by omega)
  exact h.len

/-! ### the reference -/
theorem R_targets_eq (l : List TAlias) (s : Str) (hl : l.length ≤ 1048576) : R_targets l s = some ((tgtO l s).getD [], (tgtO l s).isSome) := by
  unfold R_targets
  rw [iter_first l (fun _ a => if a.Address == s then some (a.To, true) else none) (.inl ()) .inr]
  · simp only [Option.bind_some]
    have : firstI (fun _ (a : TAlias) => if a.Address == s then some (a.To, true) else none) 0 l = (tgtO l s).map fun t => (t, true) := by
      unfold tgtO
      have key : ∀ (l : List TAlias) (n : Nat), firstI (fun _ (a : TAlias) => if a.Address == s then some (a.To, true) else none) n l = ((l.find? (fun a => a.Address == s)).map (·.To)).map fun t => (t, true) := by
        intro l
        induction l with
        | nil => intro n; rfl
        | cons a l ih =>
          intro n
          unfold firstI
          rw [List.find?_cons]
          cases a.Address == s with
          | true => rfl
          | false => exact ih (n + 1)
      exact key l 0
    rw [this]
    cases tgtO l s <;> rfl
  · unfold R_targets_l1; rw [dec_len]; rfl
  · intro i a ha
    have hi := lt_get ha
    unfold R_targets_l1
    rw [dec_lt ha, idx_get ha]
    simp only [cond_true, Option.bind_some, sc i (by omega)]
    cases a.Address == s <;> rfl
theorem addloop {body : Int × List Str → Option (Step (Int × List Str) (List Str))} (xs : List Str) (hx : xs.length ≤ 1048576)
    (hl : ∀ o : List Str, body ((xs.length : Int), o) = some (.out o)) (hs : ∀ (i : Nat) x o, xs[i]? = some x → o.length ≤ 4194304 → body ((i : Int), o) = some (.cont (((i + 1 : Nat) : Int), add1 o x)))
    (o : List Str) (ho : o.length ≤ 2097152) : iter body (0, o) = some (addNew o xs) := by
  have := (iter_fold xs (fun i o => (i, o)) add1 (fun o => o) (fun i (q : List Str) => q.length ≤ o.length + i) (body := body) (fun q _ => hl q) (fun i x q hxi hq => ⟨hs i x q hxi (by have := lt_get hxi; omega), by have := add1_len q x; omega⟩) o (by simp)).1
  exact this
theorem R_Reached_eq (l : List TAlias) (from_ : List Str) (hl : l.length ≤ 1048576) (hto : ∀ a ∈ l, a.To.length ≤ 1048576) (hf : from_.length ≤ 1048576) (hU : (univ l from_).length ≤ 2097152) : R_Reached l from_ = some (reached l from_) := by
  have has : ∀ (o : List Str) (x : Str), o.length ≤ 4194304 → R_Has o x = some (o.contains x) := fun o x ho => R_Has_eq o x (by omega)
  have happ : ∀ (o : List Str) (x : Str), o.length ≤ 4194304 → app 8796093022208 o [x] = some (o ++ [x]) := fun o x ho => app_ok (by simp; omega)
  have h1 : iter (R_Reached_l1 from_) (0, ([] : List Str)) = some (addNew [] from_) := by
    refine addloop from_ hf (fun o => by unfold R_Reached_l1; rw [dec_len]; rfl) (fun i x o hx ho => ?_) [] (by simp)
    have hi := lt_get hx
    unfold R_Reached_l1
    rw [dec_lt hx, idx_get hx]
    simp only [cond_true, Option.bind_some, has o x ho, happ o x ho, sc i (by omega)]
    unfold add1
    cases o.contains x <;> rfl
  have h3 : ∀ (v : List Str × Bool) (o : List Str), v.1.length ≤ 1048576 → o.length ≤ 2097152 → iter (R_Reached_l3 v) (0, o) = some (addNew o v.1) := by
    intro v o hv ho
    refine addloop v.1 hv (fun o => by unfold R_Reached_l3; rw [dec_len]; rfl) (fun i x o hx ho => ?_) o ho
    have hi := lt_get hx
    unfold R_Reached_l3
    rw [dec_lt hx, idx_get hx]
    simp only [cond_true, Option.bind_some, has o x ho, happ o x ho, sc i (by omega)]
    unfold add1
    cases o.contains x <;> rfl
  have htl : ∀ s, (tgt l s).length ≤ 1048576 := by
    intro s
    unfold tgt tgtO
    cases hf : l.find? (fun a => a.Address == s) with
    | none => simp
    | some a => exact hto a (List.mem_of_find?_eq_some hf)
  have h2 : ∀ (n k : Nat) (out : List Str), Inv l (univ l from_) k out → (univ l from_).length + 1 ≤ n + k → iter (R_Reached_l2 l) ((k : Int), out) = some (bfs l n k out) := by
    intro n
    induction n with
    | zero => intro k out h hn; have := h.len; have := h.le; omega
    | succ n ih =>
      intro k out h hn
      have hlen := h.len
      unfold bfs
      cases hs : out[k]? with
      | none =>
        have : out.length ≤ k := List.getElem?_eq_none_iff.1 hs
        refine iter_out ?_
        unfold R_Reached_l2
        have : decide ((k : Int) < (out.length : Int)) = false := by simp; omega
        rw [this]; rfl
      | some s =>
        have hk := lt_get hs
        have hb : R_Reached_l2 l ((k : Int), out) = some (.cont (((k + 1 : Nat) : Int), addNew out (tgt l s))) := by
          unfold R_Reached_l2
          rw [dec_lt hs, idx_get hs]
          simp only [cond_true, Option.bind_some, R_targets_eq l s hl]
          rw [h3 _ out (htl s) (by omega)]
          simp only [Option.bind_some, sc k (by omega)]
          rfl
        rw [iter_cont hb]
        exact ih (k + 1) _ (h.step hs) (by omega)
  unfold R_Reached
  rw [h1]
  simp only [Option.bind_some]
  have := h2 ((univ l from_).length + 1) 0 _ (Inv.start l from_) (by omega)
  rw [show ((0 : Nat) : Int) = 0 from rfl] at this
  rw [this]; rfl
end Go.Proofs.YtfhfjckjmacekaaGreat

/- Aliases: what the program's expansion and loops compute. -/
namespace Go.Proofs.YtfhfjckjmacekaaGreat
open Go.RowKit
set_option linter.unusedVariables false
set_option maxHeartbeats 1000000

def seenOf (o : List Str) : List (Str × Bool) := o.map fun s => (s, true)
theorem mget_seen (o : List Str) (x : Str) : (mget (seenOf o) x).getD false = o.contains x := by
  induction o with
  | nil => rfl
  | cons y o ih =>
    show (mget ((y, true) :: seenOf o) x).getD false = _
    unfold mget
    rw [List.contains_cons]
    by_cases h : y = x
    · subst h; simp
    · have h1 : (y == x) = false := by simpa using h
      have h2 : (x == y) = false := by simpa using fun h' => h h'.symm
      rw [h1, h2]; simpa using ih
theorem mput_seen (o : List Str) (x : Str) (h : o.contains x = false) : mput (seenOf o) x true = seenOf (o ++ [x]) := by
  induction o with
  | nil => rfl
  | cons y o ih =>
    rw [List.contains_cons, Bool.or_eq_false_iff] at h
    show mput ((y, true) :: seenOf o) x true = _
    unfold mput
    have h1 : (y == x) = false := by simpa using fun h' : y = x => by simp [h'] at h
    rw [h1]
    simp only [Bool.false_eq_true, if_false]
    rw [ih h.2]; rfl
/-- one address comes up -/
def find1 (p : List Str × List (Str × Bool)) (x : Str) : List Str × List (Str × Bool) := if !((mget p.2 x).getD false) then (p.1 ++ [x], mput p.2 x true) else p
theorem find1_eq (o : List Str) (k : Nat) (x : Str) (hk : k ≤ o.length) : find1 (o.drop k, seenOf o) x = ((add1 o x).drop k, seenOf (add1 o x)) := by
  unfold find1 add1
  simp only [mget_seen]
  cases h : o.contains x with
  | true => simp
  | false => simp [mput_seen o x h, List.drop_append_of_le_length hk]
theorem find_eq (xs : List Str) : ∀ (o : List Str) (k : Nat), k ≤ o.length → xs.foldl find1 (o.drop k, seenOf o) = ((addNew o xs).drop k, seenOf (addNew o xs)) := by
  induction xs with
  | nil => intro o k _; rfl
  | cons x xs ih =>
    intro o k hk
    show xs.foldl find1 (find1 (o.drop k, seenOf o) x) = _
    rw [find1_eq o k x hk]
    exact ih (add1 o x) k (Nat.le_trans hk (add1_prefix o x).length_le)
theorem findloop {body : Int × List Str × List (Str × Bool) → Option (Step (Int × List Str × List (Str × Bool)) (List Str × List (Str × Bool)))} (xs : List Str) (hx : xs.length ≤ 1048576)
    (hl : ∀ p : List Str × List (Str × Bool), body ((xs.length : Int), p) = some (.out p)) (hs : ∀ (i : Nat) x (p : List Str × List (Str × Bool)), xs[i]? = some x → p.1.length ≤ 4194304 → body ((i : Int), p) = some (.cont (((i + 1 : Nat) : Int), find1 p x)))
    (o : List Str) (k : Nat) (hk : k ≤ o.length) (ho : o.length ≤ 2097152) : iter body (0, o.drop k, seenOf o) = some ((addNew o xs).drop k, seenOf (addNew o xs)) := by
  have hlen : ∀ (p : List Str × List (Str × Bool)) x, (find1 p x).1.length ≤ p.1.length + 1 := by intro p x; unfold find1; split <;> simp
  have := (iter_fold xs (fun i p => (i, p)) find1 (fun p => p) (fun i p => p.1.length ≤ o.length + i) (body := body) (fun q _ => hl q) (fun i x q hxi hq => ⟨hs i x q hxi (by have := lt_get hxi; omega), by have := hlen q x; omega⟩) (o.drop k, seenOf o) (by simp)).1
  rw [find_eq xs o k hk] at this
  exact this
theorem find_step (xs : List Str) (p : List Str × List (Str × Bool)) (x : Str) (hp : p.1.length ≤ 4194304) (i : Nat) (hi : i < 1048577) :
    ((bif (!((mget p.2 x).getD false)) then (app 8796093022208 p.1 ([x] : List Str)).bind fun v31 => some (v31, mput p.2 x true) else some (p.1, p.2)) : Option (List Str × List (Str × Bool))) = some (find1 p x) := by
  unfold find1
  cases (mget p.2 x).getD false with
  | true => rfl
  | false =>
    simp only [Bool.not_false, cond_true, if_true]
    rw [app_ok (by simp; omega)]; rfl

/-! ### the table -/
def tabP (l : List TAlias) : List (Str × List Str) := l.foldl (fun m a => mput m a.Address a.To) []
theorem mget_mput (m : List (Str × List Str)) (k : Str) (v : List Str) (x : Str) : mget (mput m k v) x = if k == x then some v else mget m x := by
  induction m with
  | nil => rfl
  | cons p m ih =>
    obtain ⟨k', v'⟩ := p
    unfold mput
    by_cases h : k' = k
    · subst h
      simp only [beq_self_eq_true, if_true, mget]
      cases k' == x <;> simp
    · have h1 : (k' == k) = false := by simpa using h
      rw [h1]
      simp only [Bool.false_eq_true, if_false, mget]
      rw [ih]
      by_cases h2 : k' = x
      · subst h2
        have : (k == k') = false := by simpa using fun h' => h h'.symm
        simp [this]
      · have : (k' == x) = false := by simpa using h2
        rw [this]; simp
theorem mget_tab (l : List TAlias) (s : Str) : ∀ m, mget (l.foldl (fun m a => mput m a.Address a.To) m) s = match (l.reverse.find? (fun a => a.Address == s)) with | some a => some a.To | none => mget m s := by
  induction l with
  | nil => intro m; rfl
  | cons a l ih =>
    intro m
    rw [List.foldl_cons, ih, List.reverse_cons, List.find?_append, mget_mput]
    cases l.reverse.find? (fun a => a.Address == s) with
    | some b => rfl
    | none =>
      simp only [Option.none_or, List.find?_cons]
      cases a.Address == s <;> simp
theorem tab_eq {l : List TAlias} (ok : AliasOk l) (s : Str) : mget (tabP l) s = tgtO l s := by
  unfold tabP tgtO
  rw [mget_tab]
  have : l.reverse.find? (fun a => a.Address == s) = l.find? (fun a => a.Address == s) := by
    cases hr : l.reverse.find? (fun a => a.Address == s) with
    | none =>
      rw [List.find?_eq_none] at hr
      symm
      rw [List.find?_eq_none]
      intro x hx
      exact hr x (by simpa using hx)
    | some a =>
      have ha1 := List.find?_some hr
      have ha2 : a ∈ l := by simpa using List.mem_of_find?_eq_some hr
      cases hf : l.find? (fun a => a.Address == s) with
      | none =>
        rw [List.find?_eq_none] at hf
        exact absurd ha1 (hf a ha2)
      | some b =>
        have hb1 := List.find?_some hf
        have hb2 := List.mem_of_find?_eq_some hf
        obtain ⟨i, hi⟩ := List.getElem?_of_mem ha2
        obtain ⟨j, hj⟩ := List.getElem?_of_mem hb2
        simp only [beq_iff_eq] at ha1 hb1
        have : i = j := by
          rcases Nat.lt_trichotomy i j with h | h | h
          · exact absurd (ha1.trans hb1.symm) (ok.once i j a b h hi hj)
          · exact h
          · exact absurd (hb1.trans ha1.symm) (ok.once j i b a h hj hi)
        subst this
        rw [hi] at hj; cases hj; rfl
  rw [this]
  cases l.find? (fun a => a.Address == s) <;> rfl
theorem tgtO_ne {l : List TAlias} (ok : AliasOk l) {s : Str} {t : List Str} (h : tgtO l s = some t) : t ≠ [] ∧ t.length ≤ 60 := by
  unfold tgtO at h
  cases hf : l.find? (fun a => a.Address == s) with
  | none => rw [hf] at h; cases h
  | some a =>
    rw [hf] at h; cases h
    obtain ⟨_, h1, h2, _⟩ := ok.addr a (List.mem_of_find?_eq_some hf)
    exact ⟨by intro h; have h : a.To = [] := h; rw [h] at h1; simp at h1, h2⟩
theorem tabloop {body : Int × List (Str × List Str) → Option (Step (Int × List (Str × List Str)) (List (Str × List Str)))} (l : List TAlias)
    (hl : ∀ m, body ((l.length : Int), m) = some (.out m)) (hs : ∀ (i : Nat) a m, l[i]? = some a → body ((i : Int), m) = some (.cont (((i + 1 : Nat) : Int), mput m a.Address a.To))) : iter body (0, []) = some (tabP l) :=
  (iter_fold l (fun i m => (i, m)) (fun m (a : TAlias) => mput m a.Address a.To) (fun m => m) (fun _ _ => True) (body := body) (fun q _ => hl q) (fun i x q hxi _ => ⟨hs i x q hxi, trivial⟩) [] trivial).1

theorem univ_len {l : List TAlias} (ok : AliasOk l) (from_ : List Str) : (univ l from_).length ≤ from_.length + 2400 := by
  unfold univ
  have key : ∀ m : List TAlias, (∀ a ∈ m, a.To.length ≤ 60) → (m.flatMap (·.To)).length ≤ 60 * m.length := by
    intro m
    induction m with
    | nil => simp
    | cons a m ih =>
      intro h
      have h1 := h a (by simp)
      have h2 := ih (fun b hb => h b (by simp [hb]))
      simp only [List.flatMap_cons, List.length_append, List.length_cons]
      omega
  have := key l (fun a ha => (ok.addr a ha).2.2.1)
  have := ok.n
  simp only [List.length_append]
  omega
theorem drop_cons {α : Type} {l : List α} {k : Nat} {x : α} (h : l[k]? = some x) : l.drop k = x :: l.drop (k + 1) := by
  have hk := lt_get h
  rw [List.drop_eq_getElem_cons hk]
  congr 1
  exact (List.getElem?_eq_some_iff.1 h).2
theorem get_prefix {α : Type} {l m : List α} (h : l <+: m) {k : Nat} {x : α} (hx : l[k]? = some x) : m[k]? = some x := by
  obtain ⟨t, rfl⟩ := h
  rw [List.getElem?_append_left (lt_get hx)]; exact hx
def isTarget (l : List TAlias) (s : Str) : Bool := (tgtO l s).isNone

theorem Expand_loop {l : List TAlias} (ok : AliasOk l) (from_ : List Str) (hf : from_.length ≤ 1048576) : ∀ (n k : Nat) (out acc : List Str), Inv l (univ l from_) k out → (univ l from_).length + 1 ≤ n + k → acc.length ≤ k →
    iter (alias_Expand_l4 (tabP l) (tabP l)) (out.drop k, seenOf out, acc) = some (acc ++ ((bfs l n k out).drop k).filter (isTarget l)) := by
  have hU := univ_len ok from_
  intro n
  induction n with
  | zero => intro k out acc h hn; have := h.len; have := h.le; omega
  | succ n ih =>
    intro k out acc h hn hacc
    have hlen := h.len
    unfold bfs
    cases hs : out[k]? with
    | none =>
      have hk : out.length ≤ k := List.getElem?_eq_none_iff.1 hs
      have hd : out.drop k = [] := List.drop_eq_nil_of_le hk
      refine iter_out ?_
      unfold alias_Expand_l4
      rw [hd]; simp
    | some s =>
      have hk := lt_get hs
      have hd := drop_cons hs
      obtain ⟨m, hm1, hm2, hm3⟩ := bfs_spec l from_ n (k + 1) _ (h.step hs) (by omega)
      have hget := get_prefix ((addNew_prefix (tgt l s) out).trans hm3) hs
      have hstep := h.step hs
      have hb : alias_Expand_l4 (tabP l) (tabP l) (out.drop k, seenOf out, acc) = some (.cont ((addNew out (tgt l s)).drop (k + 1), seenOf (addNew out (tgt l s)), if isTarget l s then acc ++ [s] else acc)) := by
        unfold alias_Expand_l4
        rw [hd]
        have e0 : decide ((0 : Int) < (((s :: out.drop (k + 1)).length : Nat) : Int)) = true := by simp
        simp only [e0, cond_true, idx_lit, List.getElem?_cons_zero, Option.bind_some]
        rw [show ((1 : Int)) = ((1 : Nat) : Int) from rfl, cut_nl (by simp)]
        simp only [Option.bind_some, List.drop_succ_cons, List.drop_zero]
        have h5 : ∀ xs : List Str, (mget (tabP l) s).getD [] = xs → xs.length ≤ 60 → iter (alias_Expand_l5 (tabP l) s) (0, out.drop (k + 1), seenOf out) = some ((addNew out xs).drop (k + 1), seenOf (addNew out xs)) := by
          intro xs hxs hxl
          refine findloop xs (by omega) (fun p => ?_) (fun i x p hx hp => ?_) out (k + 1) (by omega) (by omega)
          · unfold alias_Expand_l5; rw [hxs, dec_len]; rfl
          · have hi := lt_get hx
            unfold alias_Expand_l5
            rw [hxs, dec_lt hx, idx_get hx]
            simp only [cond_true, Option.bind_some, sc i (by omega)]
            rw [find_step xs p x hp i (by omega)]; rfl
        have h6 : ∀ xs : List Str, (mget (tabP l) s).getD [] = xs → xs.length ≤ 60 → iter (alias_Expand_l6 (tabP l) s) (0, out.drop (k + 1), seenOf out) = some ((addNew out xs).drop (k + 1), seenOf (addNew out xs)) := by
          intro xs hxs hxl
          refine findloop xs (by omega) (fun p => ?_) (fun i x p hx hp => ?_) out (k + 1) (by omega) (by omega)
          · unfold alias_Expand_l6; rw [hxs, dec_len]; rfl
          · have hi := lt_get hx
            unfold alias_Expand_l6
            rw [hxs, dec_lt hx, idx_get hx]
            simp only [cond_true, Option.bind_some, sc i (by omega)]
            rw [find_step xs p x hp i (by omega)]; rfl
        have htab := tab_eq ok s
        unfold tgt isTarget
        cases ht : tgtO l s with
        | none =>
          rw [ht] at htab
          rw [htab]
          simp only [optElim]
          rw [app_ok (by simp; omega)]
          simp only [Option.bind_some]
          rw [h6 [] (by rw [htab]; rfl) (by simp)]
          rfl
        | some t =>
          rw [ht] at htab
          obtain ⟨hne, h60⟩ := tgtO_ne ok ht
          rw [htab]
          simp only [optElim]
          have : notNil t = some true := by unfold notNil; rw [if_neg (by simpa using hne)]
          rw [this]
          simp only [Option.bind_some]
          rw [h5 t (by rw [htab]; rfl) h60]
          rfl
      rw [iter_cont hb, ih (k + 1) _ _ hstep (by omega) (by split <;> (try simp) <;> omega)]
      rw [drop_cons hget, List.filter_cons]
      cases isTarget l s <;> simp

def expP (l : List TAlias) (s : Str) : List Str := (reached l [s]).filter (isTarget l)
theorem alias_Expand_eq (l : List TAlias) (s : Str) (hl : smallA l) (hs : s.length ≤ 1048576) :
    alias_Expand l s = some (if (aliasF l).Code != 0 then ([], aliasF l) else if !addrP s then ([], ⟨10, -2⟩) else (expP l s, ⟨0, 0⟩)) := by
  unfold alias_Expand
  rw [alias_Validate_eq l hl]
  simp only [Option.bind_some, basic_Failed, envelope_Address_eq s (by omega), basic_Fault, basic_None]
  by_cases hc : (aliasF l).Code = 0
  · obtain ⟨ok, _⟩ := aliasF_ok hc
    have h1 : ((aliasF l).Code != 0) = false := by simp [hc]
    rw [h1]
    simp only [cond_false, Bool.false_eq_true, if_false]
    cases addrP s with
    | false => rfl
    | true =>
      have hn := ok.n
      have t1 : iter (alias_Expand_l1 l) (0, ([] : List (Str × List Str))) = some (tabP l) := by
        refine tabloop l (fun m => by unfold alias_Expand_l1; rw [dec_len]; rfl) (fun i a m ha => ?_)
        have hi := lt_get ha
        unfold alias_Expand_l1
        rw [dec_lt ha, idx_get ha]
        simp only [cond_true, Option.bind_some, sc i (by omega)]
      have t2 : iter (alias_Expand_l2 l) (0, ([] : List (Str × List Str))) = some (tabP l) := by
        refine tabloop l (fun m => by unfold alias_Expand_l2; rw [dec_len]; rfl) (fun i a m ha => ?_)
        have hi := lt_get ha
        unfold alias_Expand_l2
        rw [dec_lt ha, idx_get ha]
        simp only [cond_true, Option.bind_some, sc i (by omega)]
      have t3 : iter (alias_Expand_l3 s) (0, ([] : List Str), ([] : List (Str × Bool))) = some (addNew [] [s], seenOf (addNew [] [s])) := by
        have := findloop (body := alias_Expand_l3 s) [s] (by simp) (fun p => by unfold alias_Expand_l3; rfl) (fun i x p hx hp => ?_) [] 0 (by simp) (by simp)
        · simpa [seenOf] using this
        · have hi := lt_get hx
          have hi2 : i < 1 := by simpa using hi
          unfold alias_Expand_l3
          simp only []
          rw [dec_lt hx, idx_get hx]
          simp only [cond_true, Option.bind_some, sc i (by omega)]
          rw [find_step [s] p x hp i (by simp at hi; omega)]; rfl
      rw [t1, t2, t3]
      simp only [Bool.not_true, cond_false, Bool.false_eq_true, if_false, Option.bind_some]
      have := Expand_loop ok [s] (by simp) ((univ l [s]).length + 1) 0 (addNew [] [s]) [] (Inv.start l [s]) (by omega) (by simp)
      rw [List.drop_zero] at this
      rw [this]
      simp only [Option.bind_some, List.nil_append, List.drop_zero]
      rfl
  · have h1 : ((aliasF l).Code != 0) = true := by simpa using hc
    rw [h1]; rfl
theorem R_Expanded_eq (l : List TAlias) (s : Str) (hl : smallA l) (hs : s.length ≤ 1048576) :
    R_Expanded l s = some (if (aliasF l).Code != 0 then ([], aliasF l) else if !addrP s then ([], ⟨10, -2⟩) else (expP l s, ⟨0, 0⟩)) := by
  unfold R_Expanded
  rw [R_AliasesFault_eq l hl]
  simp only [Option.bind_some, R_AddressOk_eq s (by omega), R_At]
  by_cases hc : (aliasF l).Code = 0
  · obtain ⟨ok, hF⟩ := aliasF_ok hc
    have hU := univ_len ok [s]
    rw [hF]
    cases addrP s with
    | false => rfl
    | true =>
      have hr := R_Reached_eq l [s] hl.1 (fun a ha => (hl.2 a ha).2.1) (by simp) (by simp at hU; omega)
      have hrl := reached_len l [s]
      simp only [hr, Option.bind_some]
      have hloop : iter (R_Expanded_l1 l (reached l [s])) (0, ([] : List Str)) = some ((reached l [s]).foldl (fun o x => if isTarget l x then o ++ [x] else o) []) := by
        refine (iter_fold (reached l [s]) (fun i o => (i, o)) (fun o x => if isTarget l x then o ++ [x] else o) (fun o => o) (fun i o => o.length ≤ i) (body := R_Expanded_l1 l (reached l [s])) (fun o _ => ?_) (fun i x o hx ho => ⟨?_, ?_⟩) [] (by simp)).1
        · unfold R_Expanded_l1; rw [dec_len]; rfl
        · have hi := lt_get hx
          unfold R_Expanded_l1
          rw [dec_lt hx, idx_get hx]
          simp only [cond_true, Option.bind_some, R_targets_eq l x hl.1, sc i (by simp at hU; omega)]
          have : isTarget l x = !(tgtO l x).isSome := by unfold isTarget; cases tgtO l x <;> rfl
          rw [this, app_ok (by simp at hU ⊢; omega)]
          cases (tgtO l x).isSome <;> rfl
        · split <;> (try simp) <;> omega
      rw [hloop]
      have hfil : ∀ (m o : List Str), m.foldl (fun o x => if isTarget l x then o ++ [x] else o) o = o ++ m.filter (isTarget l) := by
        intro m
        induction m with
        | nil => intro o; simp
        | cons x m ih => intro o; rw [List.foldl_cons, ih, List.filter_cons]; cases isTarget l x <;> simp
      rw [hfil]
      rfl
  · have h1 : ((aliasF l).Code != 0) = true := by simpa using hc
    have h2 : ((aliasF l).Code == 0) = false := by simpa using hc
    rw [h1, h2]
    simp [h1]
end Go.Proofs.YtfhfjckjmacekaaGreat
